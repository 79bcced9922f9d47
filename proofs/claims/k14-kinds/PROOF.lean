import PyProof.Rows.All
import Wide.All
import OpenK.AllK
import Wide.FinOn
import HandS.ForMost
import HandS.ForExc
import HandS.Evl
import HandS.Wide
import HandS.Deep
import HandS.IsInst
import HandS.TupAny
import HandS.Text
import HandS.Style
import HandS.CallSlots
import HandS.Property
import HandS.Defaults
import HandS.MakeKwOnly
import PyProof.DictMoreH
import HandS.TupLen
import HandS.Conv
import HandS.DictTup
import HandS.More
import HandS.IterVal
import KE.KOwnIter
import KE.KOpsOwn
import KE.KSortTupAny
import HandS.SortInts
import PyProof.InstEq
import PyProof.Rows.Range3
import PyProof.Conv_bool
import HandS.ClsMeth
import HandS.OwnIter
import PyProof.CollectWalk
import PyProof.WalksMore
import PyProof.StrOps2
import HandS.ExcInit
import HandS.ExcField
import HandS.TryOnly
import KE.KExcIs
import HandS.Records
import KE.KDictCopyH
import HandS.Iter
import KE.KDictOf
import KE.KDictDisplayH
import PyProof.DictTable
import HandS.List
import KE.SortData
import KE.KSortTup
import HandS.WideBits
import HandS.EndBits
import KE.KDictZip
import HandS.Zip
import PySem.Challenge.RW_keptcoin_k14_kinds
set_option Elab.async false
set_option linter.all false
section
open PySem PySem.W PyProof.Rows
set_option maxRecDepth 100000 in
set_option maxHeartbeats 0 in
open_top K14H.top for PySem.Challenge.rw_keptcoin_k14_kinds
end


set_option maxRecDepth 100000
set_option maxHeartbeats 4000000
/-! DLA: data without the heap: D (frozen), O (owned), what stands for what, the state's relation RE. -/
namespace DL
open PySem PySem.Spec PyProof.Rows L2 Evl

inductive D where
  | any | non | bl (b : Bool) | int (i : Int) | str (x : Str) | ty (n : String) | adr (a : Addr)
  | tup (xs : List D) | wtp (xs : List D) | lst (xs : List D) | scr (xs : List D) | dct (ks vs : List D) | ins (C : Addr) (ns : List Str) (vs : List D) | exc (c : Str) (a dd : Addr) (ns : List Str) (vs : List D)

inductive O where
  | im (d : D) | lst (xs : List O) | tup (xs : List O) | dct (ks : List D) (vs : List O) | ins (C : Addr) (ns : List Str) (vs : List O)

mutual
def O.flat : O → D
  | .im d => d
  | .lst xs => .lst (O.flats xs)
  | .tup xs => .tup (O.flats xs)
  | .dct ks vs => .dct ks (O.flats vs)
  | .ins C ns vs => .ins C ns (O.flats vs)
def O.flats : List O → List D
  | [] => []
  | o :: os => o.flat :: O.flats os
end
theorem flats_im : ∀ ds : List D, O.flats (ds.map O.im) = ds
  | [] => rfl
  | d :: ds => by
    show O.flat (O.im d) :: O.flats (ds.map O.im) = d :: ds
    rw [flats_im ds]
    rfl

def kD : Key → D
  | .inl i => .int i
  | .inr x => .str x
structure KB where
  K : PySem.W.Frag
  P : Program
  w : World
  mg : Str → Option Value
instance : Coe KB PySem.W.Frag := ⟨KB.K⟩
@[reducible] def _root_.L2.Cx.B (X : L2.Cx) : KB := ⟨X.K, X.prog, X.w, X.mg⟩
/-- a dict whose keys are tuples, the keys' own objects named: what is true of the dict's one object -/
def dXφ (K : KB) (a : Addr) (kvs : List (List Key × Addr × V)) (h : Heap) : Prop :=
  ∃ xs : List (List Key × Addr × Value), Paired (fun (p : List Key × Addr × V) (q : List Key × Addr × Value) => p.1 = q.1 ∧ p.2.1 = q.2.1 ∧ RelV p.2.2 q.2.2) kvs xs ∧
    ∃ o es ep, h.get? a = some o ∧ o.ExactDict ∧ o.data = .dict es ep ∧ es.toList = xs.map (entryOfKey (tupleKind (mixKind K.P K.w)))
def dX (K : KB) (a : Addr) (kvs : List (List Key × Addr × V)) : HO := .ext (dXφ K a kvs)
/-- the keys of such a dict -/
structure KeysOk (K : KB) (F : Hp) (a : Addr) (kvs : List (List Key × Addr × V)) : Prop where
  len : kvs.length ≤ sizeLine
  sys : (a == sysModules) = false
  nd : (kvs.map (·.1)).Nodup
  at_ : ∀ x ∈ kvs, SqT K F x.2.1 (x.1.map kV)
def DictAt (K : KB) (F : Hp) (a : Addr) (ho : HO) (ks : List D) (xs : List V) : Prop :=
  (∃ kvs : List (Key × V), ho = .dK kvs ∧ ((a == sysModules) = false ∧ (kvs.map (·.1)).Nodup) ∧ ks = kvs.map (fun p => kD p.1) ∧ xs = kvs.map (·.2)) ∨
  (∃ kvs : List (List Key × Addr × V), ho = dX K a kvs ∧ (kvs ≠ [] ∧ KeysOk K F a kvs) ∧ ks = kvs.map (fun p => D.tup (p.1.map kD)) ∧ xs = kvs.map (·.2.2))
theorem DictAt.mono {K : KB} {F F' : Hp} {a : Addr} {ho : HO} {ks : List D} {xs : List V} (e : Ex F F') (h : DictAt K F a ho ks xs) : DictAt K F' a ho ks xs := by
  rcases h with h | ⟨kvs, h1, h2, h3, h4⟩
  · exact .inl h
  · exact .inr ⟨kvs, h1, ⟨h2.1, h2.2.len, h2.2.sys, h2.2.nd, fun x hx => ex_t e (h2.2.at_ x hx)⟩, h3, h4⟩
/-- the values of such a dict are told by what stands there -/
def encV : V → Value
  | .non => .none
  | .bl b => .bool b
  | .int i => .int i 0
  | .str x => .str x 0
  | .byt b => .bytes b 0
  | .flt b => .float b 0
  | .ref a => .ref a
  | .ty n => .type n
theorem encV_rel : ∀ v : V, RelV v (encV v)
  | .non => rfl
  | .bl b => rfl
  | .int i => ⟨_, rfl⟩
  | .str x => ⟨_, rfl⟩
  | .byt b => ⟨_, rfl⟩
  | .flt b => ⟨_, rfl⟩
  | .ref a => rfl
  | .ty n => rfl
theorem dX_inj {K : KB} {a : Addr} {kvs kvs' : List (List Key × Addr × V)} (h : dX K a kvs = dX K a kvs') : kvs.map (·.2.2) = kvs'.map (·.2.2) := by
  have e : dXφ K a kvs = dXφ K a kvs' := HO.ext.inj h
  let xs : List (List Key × Addr × Value) := kvs.map fun p => (p.1, p.2.1, encV p.2.2)
  have hp : Paired (fun (p : List Key × Addr × V) (q : List Key × Addr × Value) => p.1 = q.1 ∧ p.2.1 = q.2.1 ∧ RelV p.2.2 q.2.2) kvs xs := by
    have key : ∀ l : List (List Key × Addr × V), Paired (fun (p : List Key × Addr × V) (q : List Key × Addr × Value) => p.1 = q.1 ∧ p.2.1 = q.2.1 ∧ RelV p.2.2 q.2.2) l (l.map fun p => (p.1, p.2.1, encV p.2.2)) := fun l => by
      induction l with
      | nil => exact .nil
      | cons p l ih => exact .cons ⟨rfl, rfl, encV_rel _⟩ ih
    exact key kvs
  let ob : Obj := { cls := .type "dict", data := .dict (xs.map (entryOfKey (tupleKind (mixKind K.P K.w)))).toArray 0 }
  let hp0 : Heap := ⟨Array.replicate (a + 1) ob, {}⟩
  have hg : hp0.get? a = some ob := by
    show (match (Array.replicate (a + 1) ob)[a]? with | some ⟨_, _, .freed, _⟩ => none | o => o) = some ob
    rw [show (Array.replicate (a + 1) ob)[a]? = some ob by simp]
  have h1 : dXφ K a kvs hp0 := ⟨xs, hp, ob, _, 0, hg, ⟨rfl, rfl, rfl⟩, rfl, by simp⟩
  rw [e] at h1
  obtain ⟨ys, hy, o, es, ep, g2, _, d2, e2⟩ := h1
  rw [hg] at g2
  cases g2
  cases d2
  have e3 : xs.map (entryOfKey (tupleKind (mixKind K.P K.w))) = ys.map (entryOfKey (tupleKind (mixKind K.P K.w))) := by simpa using e2
  have key : ∀ {l m : List (List Key × Addr × V)} {xs ys : List (List Key × Addr × Value)}, Paired (fun (p : List Key × Addr × V) (q : List Key × Addr × Value) => p.1 = q.1 ∧ p.2.1 = q.2.1 ∧ RelV p.2.2 q.2.2) l xs → Paired (fun (p : List Key × Addr × V) (q : List Key × Addr × Value) => p.1 = q.1 ∧ p.2.1 = q.2.1 ∧ RelV p.2.2 q.2.2) m ys →
      xs.map (entryOfKey (tupleKind (mixKind K.P K.w))) = ys.map (entryOfKey (tupleKind (mixKind K.P K.w))) → l.map (·.2.2) = m.map (·.2.2) := by
    intro l m xs ys h
    induction h generalizing m ys with
    | nil =>
      intro h2 e
      cases h2 with
      | nil => rfl
      | cons _ _ => simp at e
    | cons r t ih =>
      intro h2 e
      cases h2 with
      | nil => simp at e
      | cons r2 t2 =>
        rw [List.map_cons, List.map_cons] at e
        obtain ⟨e1, e2⟩ := List.cons.inj e
        rw [List.map_cons, List.map_cons, ih t2 e2]
        have e4 := congrArg DictEntry.val e1
        rw [RelV.inj r.2.2 (by
          have e5 : _ = _ := e4
          unfold entryOfKey at e5
          dsimp only at e5
          rw [e5]
          exact r2.2.2)]
  exact key hp hy e3

theorem rd_mono {F F' : Hp} (e : Ex F F') {a : Addr} {u : HO} (h : Rd F a u) : Rd F' a u := by
  rcases h with h | ⟨o, h⟩
  · exact .inl (e a _ h)
  · exact .inr ⟨o, e a _ h⟩
mutual
def Rep (K : KB) (F : Hp) : D → V → Prop
  | .any, _ => True
  | .non, v => v = .non
  | .bl b, v => v = .bl b
  | .int i, v => v = .int i
  | .str x, v => v = .str x
  | .ty n, v => v = .ty n
  | .adr a, v => v = .ref a
  | .tup ds, v => ∃ a xs, v = .ref a ∧ SqT K F a xs ∧ Reps K F ds xs
  | .wtp ds, v => ∃ a xs, v = .ref a ∧ SqT K F a xs ∧ Reps K F ds xs
  | .lst ds, v => ∃ a xs, v = .ref a ∧ F a = some (.lst xs) ∧ Reps K F ds xs
  | .scr ds, v => ∃ a xs, v = .ref a ∧ SqL K F a xs ∧ Reps K F ds xs
  | .dct ks ds, v => ∃ a ho xs, v = .ref a ∧ Rd F a ho ∧ DictAt K F a ho ks xs ∧ Reps K F ds xs
  | .ins C ns ds, v => ∃ a dx xs, v = .ref a ∧ F a = some (.ins C dx (ns.zip xs)) ∧ ns.length = xs.length ∧ Reps K F ds xs
  | .exc _ a dd ns ds, v => ∃ xs, v = .ref a ∧ F dd = some (.xd (ns.zip xs)) ∧ ns.length = xs.length ∧ Reps K F ds xs
def Reps (K : KB) (F : Hp) : List D → List V → Prop
  | [], xs => xs = []
  | d :: ds, xs => ∃ x r, xs = x :: r ∧ Rep K F d x ∧ Reps K F ds r
end
mutual
theorem Rep.mono {K : KB} {F F' : Hp} (e : Ex F F') : ∀ (d : D) (v : V), Rep K F d v → Rep K F' d v
  | .any, v, h => h
  | .non, v, h => h
  | .bl b, v, h => h
  | .int i, v, h => h
  | .str x, v, h => h
  | .ty n, v, h => h
  | .adr a, v, h => h
  | .tup ds, v, h => by
    obtain ⟨a, xs, e1, h1, h2⟩ := h
    exact ⟨a, xs, e1, ex_t e h1, Reps.mono e ds xs h2⟩
  | .wtp ds, v, h => by
    obtain ⟨a, xs, e1, h1, h2⟩ := h
    exact ⟨a, xs, e1, ex_t e h1, Reps.mono e ds xs h2⟩
  | .lst ds, v, h => by
    obtain ⟨a, xs, e1, h1, h2⟩ := h
    exact ⟨a, xs, e1, e a _ h1, Reps.mono e ds xs h2⟩
  | .scr ds, v, h => by
    obtain ⟨a, xs, e1, h1, h2⟩ := h
    exact ⟨a, xs, e1, ex_l e h1, Reps.mono e ds xs h2⟩
  | .dct ks ds, v, h => by
    obtain ⟨a, ho, xs, e1, h1, h2, h3⟩ := h
    exact ⟨a, ho, xs, e1, rd_mono e h1, h2.mono e, Reps.mono e ds xs h3⟩
  | .ins C ns ds, v, h => by
    obtain ⟨a, dx, xs, e1, h1, h2, h3⟩ := h
    exact ⟨a, dx, xs, e1, e a _ h1, h2, Reps.mono e ds xs h3⟩
  | .exc c a dd ns ds, v, h => by
    obtain ⟨xs, e1, h1, h2, h3⟩ := h
    exact ⟨xs, e1, e dd _ h1, h2, Reps.mono e ds xs h3⟩
theorem Reps.mono {K : KB} {F F' : Hp} (e : Ex F F') : ∀ (ds : List D) (xs : List V), Reps K F ds xs → Reps K F' ds xs
  | [], xs, h => h
  | d :: ds, xs, h => by
    obtain ⟨x, r, e1, h1, h2⟩ := h
    exact ⟨x, r, e1, Rep.mono e d x h1, Reps.mono e ds r h2⟩
end
theorem Reps.length {K : KB} {F : Hp} : ∀ {ds : List D} {xs : List V}, Reps K F ds xs → ds.length = xs.length
  | [], xs, h => by rw [show xs = [] from h]; rfl
  | d :: ds, xs, h => by
    obtain ⟨x, r, e1, h1, h2⟩ := h
    rw [e1, List.length_cons, List.length_cons, Reps.length h2]
theorem Reps.get {K : KB} {F : Hp} : ∀ {ds : List D} {xs : List V} (i : Nat) {d : D}, Reps K F ds xs → ds[i]? = some d → ∃ x, xs[i]? = some x ∧ Rep K F d x
  | [], xs, i, d, h, e => by simp at e
  | d0 :: ds, xs, 0, d, h, e => by
    obtain ⟨x, r, e1, h1, h2⟩ := h
    subst e1
    simp at e
    subst e
    exact ⟨x, rfl, h1⟩
  | d0 :: ds, xs, i + 1, d, h, e => by
    obtain ⟨x, r, e1, h1, h2⟩ := h
    subst e1
    have e' : ds[i]? = some d := by simpa using e
    obtain ⟨y, ey, hy⟩ := Reps.get i h2 e'
    exact ⟨y, by simpa using ey, hy⟩
theorem Reps.getV {K : KB} {F : Hp} : ∀ {ds : List D} {xs : List V} (i : Nat) {x : V}, Reps K F ds xs → xs[i]? = some x → ∃ d, ds[i]? = some d ∧ Rep K F d x
  | [], xs, i, x, h, e => by
    rw [show xs = [] from h] at e
    simp at e
  | d0 :: ds, xs, 0, x, h, e => by
    obtain ⟨x, r, e1, h1, h2⟩ := h
    subst e1
    simp at e
    subst e
    exact ⟨d0, rfl, h1⟩
  | d0 :: ds, xs, i + 1, x, h, e => by
    obtain ⟨x0, r, e1, h1, h2⟩ := h
    subst e1
    have e' : r[i]? = some x := by simpa using e
    obtain ⟨y, ey, hy⟩ := Reps.getV i h2 e'
    exact ⟨y, by simpa using ey, hy⟩
theorem Reps.append {K : KB} {F : Hp} : ∀ {ds es : List D} {xs ys : List V}, Reps K F ds xs → Reps K F es ys → Reps K F (ds ++ es) (xs ++ ys)
  | [], es, xs, ys, h, h' => by
    rw [show xs = [] from h]
    exact h'
  | d :: ds, es, xs, ys, h, h' => by
    obtain ⟨x, r, e1, h1, h2⟩ := h
    subst e1
    exact ⟨x, r ++ ys, rfl, h1, Reps.append h2 h'⟩

mutual
def Own (K : KB) (F H : Hp) : O → V → List Addr → Prop
  | .im d, v, fs => fs = [] ∧ Rep K F d v
  | .lst os, v, fs => ∃ a xs r, v = .ref a ∧ fs = a :: r ∧ H a = some (.lst xs) ∧ Owns K F H os xs r
  | .tup os, v, fs => ∃ a xs r, v = .ref a ∧ fs = a :: r ∧ H a = some (.tup xs) ∧ Owns K F H os xs r
  | .dct ks os, v, fs => ∃ a ho xs r, v = .ref a ∧ fs = a :: r ∧ H a = some ho ∧ DictAt K F a ho ks xs ∧ Owns K F H os xs r
  | .ins C ns os, v, fs => ∃ a dx xs r, v = .ref a ∧ fs = a :: r ∧ H a = some (.ins C dx (ns.zip xs)) ∧ ns.length = xs.length ∧ Owns K F H os xs r
def Owns (K : KB) (F H : Hp) : List O → List V → List Addr → Prop
  | [], xs, fs => xs = [] ∧ fs = []
  | o :: os, xs, fs => ∃ x r f1 f2, xs = x :: r ∧ fs = f1 ++ f2 ∧ Own K F H o x f1 ∧ Owns K F H os r f2
end
mutual
theorem Own.mono {K : KB} {F F' H H' : Hp} (e : Ex F F') : ∀ (o : O) (v : V) (fs : List Addr), (∀ p ∈ fs, ∀ u, H p = some u → H' p = some u) → Own K F H o v fs → Own K F' H' o v fs
  | .im d, v, fs, k, h => ⟨h.1, Rep.mono e d v h.2⟩
  | .lst os, v, fs, k, h => by
    obtain ⟨a, xs, r, e1, e2, h1, h2⟩ := h
    subst e2
    exact ⟨a, xs, r, e1, rfl, k a List.mem_cons_self _ h1, Owns.mono e os xs r (fun p hp => k p (List.mem_cons_of_mem _ hp)) h2⟩
  | .tup os, v, fs, k, h => by
    obtain ⟨a, xs, r, e1, e2, h1, h2⟩ := h
    subst e2
    exact ⟨a, xs, r, e1, rfl, k a List.mem_cons_self _ h1, Owns.mono e os xs r (fun p hp => k p (List.mem_cons_of_mem _ hp)) h2⟩
  | .dct ks os, v, fs, k, h => by
    obtain ⟨a, ho, xs, r, e1, e2, h1, h0, h2⟩ := h
    subst e2
    exact ⟨a, ho, xs, r, e1, rfl, k a List.mem_cons_self _ h1, h0.mono e, Owns.mono e os xs r (fun p hp => k p (List.mem_cons_of_mem _ hp)) h2⟩
  | .ins C ns os, v, fs, k, h => by
    obtain ⟨a, dx, xs, r, e1, e2, h1, h0, h2⟩ := h
    subst e2
    exact ⟨a, dx, xs, r, e1, rfl, k a List.mem_cons_self _ h1, h0, Owns.mono e os xs r (fun p hp => k p (List.mem_cons_of_mem _ hp)) h2⟩
theorem Owns.mono {K : KB} {F F' H H' : Hp} (e : Ex F F') : ∀ (os : List O) (xs : List V) (fs : List Addr), (∀ p ∈ fs, ∀ u, H p = some u → H' p = some u) → Owns K F H os xs fs → Owns K F' H' os xs fs
  | [], xs, fs, k, h => h
  | o :: os, xs, fs, k, h => by
    obtain ⟨x, r, f1, f2, e1, e2, h1, h2⟩ := h
    subst e2
    exact ⟨x, r, f1, f2, e1, rfl, Own.mono e o x f1 (fun p hp => k p (List.mem_append_left _ hp)) h1, Owns.mono e os r f2 (fun p hp => k p (List.mem_append_right _ hp)) h2⟩
end
mutual
/-- what is owned, frozen in a heap that has it -/
theorem Own.rep {K : KB} {F H F' : Hp} (e : Ex F F') : ∀ (o : O) (v : V) (fs : List Addr), (∀ p ∈ fs, ∀ u, H p = some u → F' p = some u) → Own K F H o v fs → Rep K F' o.flat v
  | .im d, v, fs, k, h => Rep.mono e d v h.2
  | .lst os, v, fs, k, h => by
    obtain ⟨a, xs, r, e1, e2, h1, h2⟩ := h
    subst e2
    exact ⟨a, xs, e1, k a List.mem_cons_self _ h1, Owns.rep e os xs r (fun p hp => k p (List.mem_cons_of_mem _ hp)) h2⟩
  | .tup os, v, fs, k, h => by
    obtain ⟨a, xs, r, e1, e2, h1, h2⟩ := h
    subst e2
    exact ⟨a, xs, e1, SqT.of (k a List.mem_cons_self _ h1), Owns.rep e os xs r (fun p hp => k p (List.mem_cons_of_mem _ hp)) h2⟩
  | .dct ks os, v, fs, k, h => by
    obtain ⟨a, ho, xs, r, e1, e2, h1, h0, h2⟩ := h
    subst e2
    exact ⟨a, ho, xs, e1, .inl (k a List.mem_cons_self _ h1), h0.mono e, Owns.rep e os xs r (fun p hp => k p (List.mem_cons_of_mem _ hp)) h2⟩
  | .ins C ns os, v, fs, k, h => by
    obtain ⟨a, dx, xs, r, e1, e2, h1, h0, h2⟩ := h
    subst e2
    exact ⟨a, dx, xs, e1, k a List.mem_cons_self _ h1, h0, Owns.rep e os xs r (fun p hp => k p (List.mem_cons_of_mem _ hp)) h2⟩
theorem Owns.rep {K : KB} {F H F' : Hp} (e : Ex F F') : ∀ (os : List O) (xs : List V) (fs : List Addr), (∀ p ∈ fs, ∀ u, H p = some u → F' p = some u) → Owns K F H os xs fs → Reps K F' (O.flats os) xs
  | [], xs, fs, k, h => h.1
  | o :: os, xs, fs, k, h => by
    obtain ⟨x, r, f1, f2, e1, e2, h1, h2⟩ := h
    subst e2
    exact ⟨x, r, e1, Own.rep e o x f1 (fun p hp => k p (List.mem_append_left _ hp)) h1, Owns.rep e os r f2 (fun p hp => k p (List.mem_append_right _ hp)) h2⟩
end
mutual
/-- what is owned stands in the heap -/
theorem Own.there {K : KB} {F H : Hp} : ∀ (o : O) (v : V) (fs : List Addr), Own K F H o v fs → ∀ p ∈ fs, H p ≠ none
  | .im d, v, fs, h, p, hp => by
    rw [h.1] at hp
    cases hp
  | .lst os, v, fs, h, p, hp => by
    obtain ⟨a, xs, r, e1, e2, h1, h2⟩ := h
    subst e2
    rcases List.mem_cons.mp hp with e | hp
    · rw [e, h1]; simp
    · exact Owns.there os xs r h2 p hp
  | .tup os, v, fs, h, p, hp => by
    obtain ⟨a, xs, r, e1, e2, h1, h2⟩ := h
    subst e2
    rcases List.mem_cons.mp hp with e | hp
    · rw [e, h1]; simp
    · exact Owns.there os xs r h2 p hp
  | .dct ks os, v, fs, h, p, hp => by
    obtain ⟨a, ho, xs, r, e1, e2, h1, h0, h2⟩ := h
    subst e2
    rcases List.mem_cons.mp hp with e | hp
    · rw [e, h1]; simp
    · exact Owns.there os xs r h2 p hp
  | .ins C ns os, v, fs, h, p, hp => by
    obtain ⟨a, dx, xs, r, e1, e2, h1, h0, h2⟩ := h
    subst e2
    rcases List.mem_cons.mp hp with e | hp
    · rw [e, h1]; simp
    · exact Owns.there os xs r h2 p hp
theorem Owns.there {K : KB} {F H : Hp} : ∀ (os : List O) (xs : List V) (fs : List Addr), Owns K F H os xs fs → ∀ p ∈ fs, H p ≠ none
  | [], xs, fs, h, p, hp => by
    rw [h.2] at hp
    cases hp
  | o :: os, xs, fs, h, p, hp => by
    obtain ⟨x, r, f1, f2, e1, e2, h1, h2⟩ := h
    subst e2
    rcases List.mem_append.mp hp with hp | hp
    · exact Own.there o x f1 h1 p hp
    · exact Owns.there os r f2 h2 p hp
end
theorem owns_im {K : KB} {F H : Hp} : ∀ {ds : List D} {xs : List V}, Reps K F ds xs → Owns K F H (ds.map O.im) xs []
  | [], xs, h => ⟨h, rfl⟩
  | d :: ds, xs, h => by
    obtain ⟨x, r, e1, h1, h2⟩ := h
    exact ⟨x, r, [], [], e1, rfl, ⟨rfl, h1⟩, owns_im h2⟩
theorem of_owns_im {K : KB} {F H : Hp} : ∀ {ds : List D} {xs : List V} {fs : List Addr}, Owns K F H (ds.map O.im) xs fs → Reps K F ds xs ∧ fs = []
  | [], xs, fs, h => h
  | d :: ds, xs, fs, h => by
    obtain ⟨x, r, f1, f2, e1, e2, h1, h2⟩ := h
    obtain ⟨h3, h4⟩ := of_owns_im h2
    refine ⟨⟨x, r, e1, h1.2, h3⟩, ?_⟩
    rw [e2, h1.1, h4]
    rfl
theorem Owns.append {K : KB} {F H : Hp} : ∀ {os ps : List O} {xs ys : List V} {f g : List Addr}, Owns K F H os xs f → Owns K F H ps ys g → Owns K F H (os ++ ps) (xs ++ ys) (f ++ g)
  | [], ps, xs, ys, f, g, h, h' => by
    rw [h.1, h.2]
    exact h'
  | o :: os, ps, xs, ys, f, g, h, h' => by
    obtain ⟨x, r, f1, f2, e1, e2, h1, h2⟩ := h
    subst e1
    subst e2
    exact ⟨x, r ++ ys, f1, f2 ++ g, rfl, by rw [List.append_assoc], h1, Owns.append h2 h'⟩
theorem Owns.length {K : KB} {F H : Hp} : ∀ {os : List O} {xs : List V} {f : List Addr}, Owns K F H os xs f → os.length = xs.length
  | [], xs, f, h => by rw [h.1]; rfl
  | o :: os, xs, f, h => by
    obtain ⟨x, r, f1, f2, e1, e2, h1, h2⟩ := h
    rw [e1, List.length_cons, List.length_cons, Owns.length h2]

/-! ### the state -/
abbrev Slot := Option (Bool × O)
abbrev Env := List Slot
def Held (K : KB) (F H : Hp) : List (V × O) → List Addr → Prop
  | [], fs => fs = []
  | q :: r, fs => ∃ f1 f2, fs = f1 ++ f2 ∧ Own K F H q.2 q.1 f1 ∧ Held K F H r f2
def Slots : Env → L2.St → L2.St → List (V × O) → Prop
  | [], σ, _, hs => σ = [] ∧ hs = []
  | none :: e, σ, σ0, hs => ∃ x r, σ = x :: r ∧ Slots e r σ0.tail hs
  | some q :: e, σ, σ0, hs => ∃ v r hr, σ = some v :: r ∧ (q.1 = true → σ0.head? = some (some v)) ∧ hs = (v, q.2) :: hr ∧ Slots e r σ0.tail hr
structure Ctx where
  G : Hp
  F0 : Hp
  σ0 : L2.St
structure RE (K : KB) (c : Ctx) (F H : Hp) (σ : L2.St) (e : Env) (ts : List (V × O)) : Prop where
  g : Ex c.G H
  f0 : Ex c.F0 F
  fh : Ex F H
  nw : ∀ p, F p ≠ none → c.F0 p ≠ none ∨ c.G p = none
  hd : ∃ hs fs, Slots e σ c.σ0 hs ∧ Held K F H (ts ++ hs) fs ∧ fs.Nodup ∧ ∀ p ∈ fs, F p = none ∧ c.G p = none

section
variable {K : KB} {c : Ctx} {F F' H H' : Hp} {σ : L2.St} {e : Env} {ts : List (V × O)}
theorem Held.mono (ef : Ex F F') : ∀ {hs : List (V × O)} {fs : List Addr}, (∀ p ∈ fs, ∀ u, H p = some u → H' p = some u) → Held K F H hs fs → Held K F' H' hs fs
  | [], fs, k, h => h
  | q :: r, fs, k, h => by
    obtain ⟨f1, f2, e1, h1, h2⟩ := h
    subst e1
    exact ⟨f1, f2, rfl, Own.mono ef _ _ f1 (fun p hp => k p (List.mem_append_left _ hp)) h1, Held.mono ef (fun p hp => k p (List.mem_append_right _ hp)) h2⟩
theorem Held.there : ∀ {hs : List (V × O)} {fs : List Addr}, Held K F H hs fs → ∀ p ∈ fs, H p ≠ none
  | [], fs, h, p, hp => by
    rw [show fs = [] from h] at hp
    cases hp
  | q :: r, fs, h, p, hp => by
    obtain ⟨f1, f2, e1, h1, h2⟩ := h
    subst e1
    rcases List.mem_append.mp hp with hp | hp
    · exact Own.there _ _ f1 h1 p hp
    · exact Held.there h2 p hp
theorem Held.split : ∀ {A B : List (V × O)} {fs : List Addr}, Held K F H (A ++ B) fs → ∃ f1 f2, fs = f1 ++ f2 ∧ Held K F H A f1 ∧ Held K F H B f2
  | [], B, fs, h => ⟨[], fs, rfl, rfl, h⟩
  | q :: A, B, fs, h => by
    obtain ⟨f1, f2, e1, h1, h2⟩ := h
    obtain ⟨g1, g2, e2, h3, h4⟩ := Held.split h2
    exact ⟨f1 ++ g1, g2, by rw [e1, e2, List.append_assoc], ⟨f1, g1, rfl, h1, h3⟩, h4⟩
theorem Held.join : ∀ {A B : List (V × O)} {f1 f2 : List Addr}, Held K F H A f1 → Held K F H B f2 → Held K F H (A ++ B) (f1 ++ f2)
  | [], B, f1, f2, h, h' => by
    rw [show f1 = [] from h]
    exact h'
  | q :: A, B, f1, f2, h, h' => by
    obtain ⟨g1, g2, e1, h1, h2⟩ := h
    subst e1
    exact ⟨g1, g2 ++ f2, by rw [List.append_assoc], h1, Held.join h2 h'⟩
theorem Slots.len : ∀ {e : Env} {σ σ0 : L2.St} {hs : List (V × O)}, Slots e σ σ0 hs → σ.length = e.length
  | [], σ, σ0, hs, h => by rw [h.1]; rfl
  | none :: e, σ, σ0, hs, h => by
    obtain ⟨x, r, e1, h1⟩ := h
    rw [e1, List.length_cons, List.length_cons, Slots.len h1]
  | some q :: e, σ, σ0, hs, h => by
    obtain ⟨v, r, hr, e1, _, _, h1⟩ := h
    rw [e1, List.length_cons, List.length_cons, Slots.len h1]
/-- a slot that holds: its value; another holding there, with the same value -/
theorem Slots.at : ∀ {e : Env} {σ σ0 : L2.St} {hs : List (V × O)} (i : Nat) {b : Bool} {o : O}, Slots e σ σ0 hs → e[i]? = some (some (b, o)) →
    ∃ v A B, hs = A ++ (v, o) :: B ∧ σ[i]? = some (some v) ∧ (b = true → σ0[i]? = some (some v)) ∧ ∀ o', Slots (e.set i (some (b, o'))) σ σ0 (A ++ (v, o') :: B)
  | [], σ, σ0, hs, i, b, o, h, he => by simp at he
  | none :: e, σ, σ0, hs, 0, b, o, h, he => by simp at he
  | some q :: e, σ, σ0, hs, 0, b, o, h, he => by
    obtain ⟨v, r, hr, e1, hb, e2, h1⟩ := h
    have eq : q = (b, o) := by simpa using he
    subst eq
    subst e1
    refine ⟨v, [], hr, by rw [e2]; rfl, rfl, fun z => ?_, fun o' => ⟨v, r, hr, rfl, hb, rfl, h1⟩⟩
    have z' := hb z
    cases σ0 with
    | nil => simp at z'
    | cons y ys => simpa using z'
  | none :: e, σ, σ0, hs, i + 1, b, o, h, he => by
    obtain ⟨x, r, e1, h1⟩ := h
    subst e1
    obtain ⟨v, A, B, k1, k2, k3, k4⟩ := Slots.at i h1 (by simpa using he)
    refine ⟨v, A, B, k1, by simpa using k2, fun z => ?_, fun o' => ⟨x, r, rfl, k4 o'⟩⟩
    have z' := k3 z
    cases σ0 with
    | nil => simp at z'
    | cons y ys => simpa using z'
  | some q :: e, σ, σ0, hs, i + 1, b, o, h, he => by
    obtain ⟨v0, r, hr, e1, hb, e2, h1⟩ := h
    subst e1
    obtain ⟨v, A, B, k1, k2, k3, k4⟩ := Slots.at i h1 (by simpa using he)
    refine ⟨v, (v0, q.2) :: A, B, by rw [e2, k1]; rfl, by simpa using k2, fun z => ?_, fun o' => ⟨v0, r, _, rfl, hb, rfl, k4 o'⟩⟩
    have z' := k3 z
    cases σ0 with
    | nil => simp at z'
    | cons y ys => simpa using z'
/-- may be stored to: there, and not pinned -/
def Env.free (e : Env) (i : Nat) : Bool := match e[i]? with
  | some none => true
  | some (some (b, _)) => !b
  | none => false
theorem Slots.put : ∀ {e : Env} {σ σ0 : L2.St} {hs : List (V × O)} (i : Nat), Slots e σ σ0 hs → e.free i = true →
    ∃ A M B, hs = A ++ (M ++ B) ∧ (∀ v o, Slots (e.set i (some (false, o))) (σ.set i (some v)) σ0 (A ++ (v, o) :: B)) ∧ ∀ x, Slots (e.set i none) (σ.set i x) σ0 (A ++ B)
  | [], σ, σ0, hs, i, h, he => by simp [Env.free] at he
  | none :: e, σ, σ0, hs, 0, h, he => by
    obtain ⟨x, r, e1, h1⟩ := h
    subst e1
    exact ⟨[], [], hs, rfl, fun v o => ⟨v, r, hs, rfl, (fun z => by cases z), rfl, h1⟩, fun x => ⟨x, r, rfl, h1⟩⟩
  | some q :: e, σ, σ0, hs, 0, h, he => by
    obtain ⟨v0, r, hr, e1, hb, e2, h1⟩ := h
    subst e1
    exact ⟨[], [(v0, q.2)], hr, by rw [e2]; rfl, fun v o => ⟨v, r, hr, rfl, (fun z => by cases z), rfl, h1⟩, fun x => ⟨x, r, rfl, h1⟩⟩
  | none :: e, σ, σ0, hs, i + 1, h, he => by
    obtain ⟨x, r, e1, h1⟩ := h
    subst e1
    obtain ⟨A, M, B, k1, k2, k3⟩ := Slots.put i h1 (by simpa [Env.free] using he)
    exact ⟨A, M, B, k1, fun v o => ⟨x, _, rfl, k2 v o⟩, fun y => ⟨x, _, rfl, k3 y⟩⟩
  | some q :: e, σ, σ0, hs, i + 1, h, he => by
    obtain ⟨v0, r, hr, e1, hb, e2, h1⟩ := h
    subst e1
    obtain ⟨A, M, B, k1, k2, k3⟩ := Slots.put i h1 (by simpa [Env.free] using he)
    exact ⟨(v0, q.2) :: A, M, B, by rw [e2, k1]; rfl, fun v o => ⟨v0, _, _, rfl, hb, rfl, k2 v o⟩, fun y => ⟨v0, _, _, rfl, hb, rfl, k3 y⟩⟩

/-- new frozen things are new in the heap -/
def Fresh (F H F' : Hp) : Prop := ∀ p, F' p ≠ none → F p ≠ none ∨ H p = none
theorem Fresh.refl : Fresh F H F := fun _ h => .inl h
theorem none_of_ex {A B : Hp} (e : Ex A B) {p : Addr} (h : B p = none) : A p = none := fresh_back e h
theorem RE.grow (R : RE K c F H σ e ts) (ef : Ex F F') (eh : Ex H H') (fh : Ex F' H') (fr : Fresh F H F') : RE K c F' H' σ e ts := by
  obtain ⟨hs, fs, h1, h2, h3, h4⟩ := R.hd
  refine ⟨R.g.trans eh, R.f0.trans ef, fh, fun p hp => ?_, hs, fs, h1, Held.mono ef (fun p _ u z => eh p u z) h2, h3, fun p hp => ⟨?_, (h4 p hp).2⟩⟩
  · rcases fr p hp with z | z
    · exact R.nw p z
    · exact .inr (none_of_ex R.g z)
  · cases q : F' p with
    | none => rfl
    | some u =>
      rcases fr p (by rw [q]; simp) with z | z
      · exact absurd (h4 p hp).1 z
      · exact absurd z (Held.there h2 p hp)
/-- the heap alone grows -/
theorem RE.ex (R : RE K c F H σ e ts) (eh : Ex H H') : RE K c F H' σ e ts := R.grow (Ex.refl _) eh (R.fh.trans eh) Fresh.refl
/-- a new object, frozen at once -/
theorem RE.newF {p : Addr} {o : HO} (R : RE K c F H σ e ts) (hp : H p = none) : RE K c (upd F p o) (upd H p o) σ e ts := by
  refine R.grow (Ex.new (none_of_ex R.fh hp)) (Ex.new hp) (fun a u z => ?_) (fun a z => ?_)
  · by_cases q : a = p
    · subst q
      rw [upd_same] at z ⊢
      exact z
    · rw [upd_ne q] at z ⊢
      exact R.fh a u z
  · by_cases q : a = p
    · subst q
      exact .inr hp
    · rw [upd_ne q] at z
      exact .inl z
/-- a temporary is dropped -/
theorem RE.drop {t : V × O} (R : RE K c F H σ e (t :: ts)) : RE K c F H σ e ts := by
  obtain ⟨hs, fs, h1, h2, h3, h4⟩ := R.hd
  obtain ⟨f1, f2, e1, _, h5⟩ := h2
  subst e1
  exact ⟨R.g, R.f0, R.fh, R.nw, hs, f2, h1, h5, (List.nodup_append.mp h3).2.1, fun p hp => h4 p (List.mem_append_right _ hp)⟩
/-- a new object, owned -/
theorem RE.newO {p : Addr} {u : HO} {o : O} (R : RE K c F H σ e ts) (hp : H p = none) (ho : Own K F (upd H p u) o (.ref p) [p]) : RE K c F (upd H p u) σ e ((.ref p, o) :: ts) := by
  have R' := R.ex (Ex.new (o := u) hp)
  obtain ⟨hs, fs, h1, h2, h3, h4⟩ := R'.hd
  obtain ⟨hs0, fs0, h10, h20, h30, h40⟩ := R.hd
  refine ⟨R'.g, R'.f0, R'.fh, R'.nw, hs0, p :: fs0, h10, ⟨[p], fs0, rfl, ho, Held.mono (Ex.refl _) (fun q _ w z => Ex.new hp q w z) h20⟩, List.nodup_cons.mpr ⟨fun z => Held.there h20 p z hp, h30⟩, fun q hq => ?_⟩
  rcases List.mem_cons.mp hq with z | z
  · rw [z]
    exact ⟨none_of_ex R.fh hp, none_of_ex R.g hp⟩
  · exact h40 q z
/-- what a holding is, read -/
theorem RE.slot {i : Nat} {b : Bool} {o : O} (R : RE K c F H σ e ts) (h : e[i]? = some (some (b, o))) : ∃ v fs, σ[i]? = some (some v) ∧ Own K F H o v fs := by
  obtain ⟨hs, fs, h1, h2, h3, h4⟩ := R.hd
  obtain ⟨v, A, B, k1, k2, _, _⟩ := h1.at i h
  subst k1
  rw [← List.append_assoc] at h2
  obtain ⟨f1, f2, _, _, h5⟩ := h2.split
  obtain ⟨g1, g2, _, h6, _⟩ := h5
  exact ⟨v, g1, k2, h6⟩
theorem RE.slotIm {i : Nat} {b : Bool} {d : D} (R : RE K c F H σ e ts) (h : e[i]? = some (some (b, .im d))) : ∃ v, σ[i]? = some (some v) ∧ Rep K F d v := by
  obtain ⟨v, fs, h1, h2⟩ := R.slot h
  exact ⟨v, h1, h2.2⟩
theorem RE.temp {v : V} {o : O} (R : RE K c F H σ e ((v, o) :: ts)) : ∃ fs, Own K F H o v fs := by
  obtain ⟨hs, fs, h1, h2, h3, h4⟩ := R.hd
  obtain ⟨f1, f2, e1, h5, _⟩ := h2
  exact ⟨f1, h5⟩
/-- what is held may be frozen where all of it stands in the heap -/
theorem Own.view {o : O} {v : V} {fs : List Addr} (h : Own K F H o v fs) (e : Ex F H) : Rep K H o.flat v := Own.rep e o v fs (fun _ _ _ z => z) h
/-- store a frozen value -/
theorem RE.setIm {i : Nat} {v : V} {d : D} (R : RE K c F H σ e ts) (hi : e.free i = true) (h : Rep K F d v) : RE K c F H (σ.set i (some v)) (e.set i (some (false, .im d))) ts := by
  obtain ⟨hs, fs, h1, h2, h3, h4⟩ := R.hd
  obtain ⟨A, M, B, k1, k2, _⟩ := h1.put i hi
  subst k1
  rw [← List.append_assoc] at h2
  obtain ⟨f1, f2, e1, h5, h6⟩ := h2.split
  obtain ⟨g1, g2, e2, h7, h8⟩ := h6.split
  subst e2
  subst e1
  refine ⟨R.g, R.f0, R.fh, R.nw, _, f1 ++ g2, k2 v (.im d), ?_, ?_, fun p hp => h4 p ?_⟩
  · rw [← List.append_assoc]
    exact Held.join h5 ⟨[], g2, rfl, ⟨rfl, h⟩, h8⟩
  · refine List.Nodup.sublist ?_ h3
    exact List.Sublist.append_left (List.sublist_append_right g1 g2) f1
  · rcases List.mem_append.mp hp with z | z
    · exact List.mem_append_left _ z
    · exact List.mem_append_right _ (List.mem_append_right _ z)
/-- store a temporary -/
theorem RE.setO {i : Nat} {v : V} {o : O} (R : RE K c F H σ e ((v, o) :: ts)) (hi : e.free i = true) : RE K c F H (σ.set i (some v)) (e.set i (some (false, o))) ts := by
  obtain ⟨hs, fs, h1, h2, h3, h4⟩ := R.hd
  obtain ⟨A, M, B, k1, k2, _⟩ := h1.put i hi
  subst k1
  obtain ⟨f0, fr, e0, h0, hr⟩ := h2
  rw [show ts.append (A ++ (M ++ B)) = ts ++ (A ++ (M ++ B)) from rfl, ← List.append_assoc] at hr
  obtain ⟨f1, f2, e1, h5, h6⟩ := hr.split
  obtain ⟨g1, g2, e2, h7, h8⟩ := h6.split
  subst e2
  subst e1
  subst e0
  refine ⟨R.g, R.f0, R.fh, R.nw, _, f1 ++ (f0 ++ g2), k2 v o, ?_, ?_, fun p hp => h4 p ?_⟩
  · rw [← List.append_assoc]
    exact Held.join h5 ⟨f0, g2, rfl, h0, h8⟩
  · have hp : (f1 ++ (f0 ++ g2)).Perm (f0 ++ (f1 ++ g2)) := by
      rw [← List.append_assoc, ← List.append_assoc]
      exact List.Perm.append_right g2 List.perm_append_comm
    refine hp.nodup_iff.mpr (List.Nodup.sublist ?_ h3)
    exact List.Sublist.append_left (List.Sublist.append_left (List.sublist_append_right g1 g2) f1) f0
  · rcases List.mem_append.mp hp with z | z
    · exact List.mem_append_right _ (List.mem_append_left _ z)
    · rcases List.mem_append.mp z with z | z
      · exact List.mem_append_left _ z
      · exact List.mem_append_right _ (List.mem_append_right _ (List.mem_append_right _ z))
end
end DL

/-! DLB: freezing, changing; denotations; the judgements. -/
namespace DL
open PySem PySem.Spec PyProof.Rows L2 Evl
section
variable {K : KB} {c : Ctx} {F F' H H' : Hp} {σ : L2.St} {e : Env} {ts : List (V × O)}
/-- F and what of H stands at fs -/
def addF (F H : Hp) (fs : List Addr) : Hp := fun p => if p ∈ fs then H p else F p
theorem addF_in {fs : List Addr} {p : Addr} (h : p ∈ fs) : addF F H fs p = H p := if_pos h
theorem addF_out {fs : List Addr} {p : Addr} (h : ¬ p ∈ fs) : addF F H fs p = F p := if_neg h
theorem ex_addF {fs : List Addr} (h : ∀ p ∈ fs, F p = none) : Ex F (addF F H fs) := fun p u z => by
  by_cases q : p ∈ fs
  · rw [h p q] at z
    cases z
  · rw [addF_out q]
    exact z
theorem addF_ex {fs : List Addr} (h : Ex F H) : Ex (addF F H fs) H := fun p u z => by
  by_cases q : p ∈ fs
  · rw [addF_in q] at z
    exact z
  · rw [addF_out q] at z
    exact h p u z
theorem nodup_mid {α : Type} {a b c : List α} (h : (a ++ (b ++ c)).Nodup) : (∀ x ∈ b, x ∉ a ∧ x ∉ c) ∧ (a ++ c).Nodup := by
  obtain ⟨h1, h2, h3⟩ := List.nodup_append.mp h
  obtain ⟨h4, h5, h6⟩ := List.nodup_append.mp h2
  refine ⟨fun x hx => ⟨fun z => h3 x z x (List.mem_append_left _ hx) rfl, fun z => h6 x hx x z rfl⟩, List.nodup_append.mpr ⟨h1, h5, fun x hx y hy => h3 x hx y (List.mem_append_right _ hy)⟩⟩
/-- a holding in the middle is changed -/
theorem Held.change {A B : List (V × O)} {v : V} {o : O} {fs : List Addr} (h : Held K F H (A ++ (v, o) :: B) fs) (nd : fs.Nodup) (fr : ∀ p ∈ fs, F p = none ∧ c.G p = none) :
    ∃ f1 f0 f2, fs = f1 ++ (f0 ++ f2) ∧ Own K F H o v f0 ∧ ∀ (F' H' : Hp) (o' : O) (f0' : List Addr), Ex F F' → (∀ q u, q ∉ f0 → H q = some u → H' q = some u) → Own K F' H' o' v f0' → f0'.Nodup →
      (∀ q ∈ f0', (q ∈ f0 ∨ H q = none) ∧ F' q = none ∧ c.G q = none) → (∀ p, F' p ≠ none → F p ≠ none ∨ H p = none ∨ p ∈ f0) →
      Held K F' H' (A ++ (v, o') :: B) (f1 ++ (f0' ++ f2)) ∧ (f1 ++ (f0' ++ f2)).Nodup ∧ ∀ p ∈ f1 ++ (f0' ++ f2), F' p = none ∧ c.G p = none := by
  obtain ⟨f1, f3, e1, h1, h3⟩ := h.split
  obtain ⟨f0, f2, e2, h0, h2⟩ := h3
  subst e2
  subst e1
  refine ⟨f1, f0, f2, rfl, h0, fun F' H' o' f0' ef keep ho nd' hq fw => ?_⟩
  obtain ⟨dj, nd2⟩ := nodup_mid nd
  have out : ∀ p, p ∈ f1 ∨ p ∈ f2 → p ∉ f0 := fun p hp z => by
    rcases hp with hp | hp
    · exact (dj p z).1 hp
    · exact (dj p z).2 hp
  have th : ∀ p, p ∈ f1 ∨ p ∈ f2 → H p ≠ none := fun p hp => by
    rcases hp with hp | hp
    · exact Held.there h1 p hp
    · exact Held.there h2 p hp
  have ff : ∀ p, p ∈ f1 ∨ p ∈ f2 → F' p = none ∧ c.G p = none := fun p hp => by
    have hm : p ∈ f1 ++ (f0 ++ f2) := by
      rcases hp with hp | hp
      · exact List.mem_append_left _ hp
      · exact List.mem_append_right _ (List.mem_append_right _ hp)
    refine ⟨?_, (fr p hm).2⟩
    cases q : F' p with
    | none => rfl
    | some u =>
      rcases fw p (by rw [q]; simp) with z | z | z
      · exact absurd (fr p hm).1 z
      · exact absurd z (th p hp)
      · exact absurd z (out p hp)
  refine ⟨Held.join (Held.mono ef (fun p hp u z => keep p u (out p (.inl hp)) z) h1) ⟨f0', f2, rfl, ho, Held.mono ef (fun p hp u z => keep p u (out p (.inr hp)) z) h2⟩, ?_, fun p hp => ?_⟩
  · obtain ⟨n1, n2, n3⟩ := List.nodup_append.mp nd2
    refine List.nodup_append.mpr ⟨n1, List.nodup_append.mpr ⟨nd', n2, fun x hx y hy z => ?_⟩, fun x hx y hy z => ?_⟩
    · subst z
      rcases (hq x hx).1 with w | w
      · exact (dj x w).2 hy
      · exact th x (.inr hy) w
    · subst z
      rcases List.mem_append.mp hy with hy | hy
      · rcases (hq x hy).1 with w | w
        · exact (dj x w).1 hx
        · exact th x (.inl hx) w
      · exact n3 x hx x hy rfl
  · rcases List.mem_append.mp hp with hp | hp
    · exact ff p (.inl hp)
    · rcases List.mem_append.mp hp with hp | hp
      · exact (hq p hp).2
      · exact ff p (.inr hp)
/-- the facts behind a change of what stands at f0 -/
structure Chg (c : Ctx) (F F' H H' : Hp) (f0 : List Addr) : Prop where
  ef : Ex F F'
  fh : Ex F' H'
  keep : ∀ q u, q ∉ f0 → H q = some u → H' q = some u
  nw : ∀ p, F' p ≠ none → F p ≠ none ∨ H p = none ∨ p ∈ f0
theorem RE.chg (R : RE K c F H σ e ts) {f0 : List Addr} (fr : ∀ p ∈ f0, c.G p = none) (C : Chg c F F' H H' f0) : Ex c.G H' ∧ Ex c.F0 F' ∧ Ex F' H' ∧ ∀ p, F' p ≠ none → c.F0 p ≠ none ∨ c.G p = none := by
  refine ⟨fun p u z => C.keep p u (fun hp => ?_) (R.g p u z), R.f0.trans C.ef, C.fh, fun p hp => ?_⟩
  · rw [fr p hp] at z
    cases z
  · rcases C.nw p hp with z | z | z
    · exact R.nw p z
    · exact .inr (none_of_ex R.g z)
    · exact .inr (fr p z)
theorem RE.mutSlot {i : Nat} {b : Bool} {o : O} (R : RE K c F H σ e ts) (h : e[i]? = some (some (b, o))) :
    ∃ v f0, σ[i]? = some (some v) ∧ Own K F H o v f0 ∧ f0.Nodup ∧ (∀ p ∈ f0, F p = none ∧ c.G p = none) ∧ ∀ (F' H' : Hp) (o' : O) (f0' : List Addr), Chg c F F' H H' f0 → Own K F' H' o' v f0' → f0'.Nodup →
      (∀ q ∈ f0', (q ∈ f0 ∨ H q = none) ∧ F' q = none ∧ c.G q = none) → RE K c F' H' σ (e.set i (some (b, o'))) ts := by
  obtain ⟨hs, fs, h1, h2, h3, h4⟩ := R.hd
  obtain ⟨v, A, B, k1, k2, k3, k4⟩ := h1.at i h
  subst k1
  rw [← List.append_assoc] at h2
  obtain ⟨f1, f0, f2, e1, ho, hc⟩ := Held.change (c := c) h2 h3 h4
  have g0 : ∀ p ∈ f0, F p = none ∧ c.G p = none := fun p hp => h4 p (by rw [e1]; exact List.mem_append_right _ (List.mem_append_left _ hp))
  have n0 : f0.Nodup := by
    rw [e1] at h3
    exact (List.nodup_append.mp (List.nodup_append.mp h3).2.1).1
  refine ⟨v, f0, k2, ho, n0, g0, fun F' H' o' f0' C hw nd' hq => ?_⟩
  obtain ⟨r1, r2, r3, r4⟩ := R.chg (fun p hp => (g0 p hp).2) C
  obtain ⟨q1, q2, q3⟩ := hc F' H' o' f0' C.ef C.keep hw nd' hq C.nw
  rw [List.append_assoc] at q1
  exact ⟨r1, r2, r3, r4, _, _, k4 o', q1, q2, q3⟩
theorem RE.mutTemp {v : V} {o : O} (R : RE K c F H σ e ((v, o) :: ts)) :
    ∃ f0, Own K F H o v f0 ∧ f0.Nodup ∧ (∀ p ∈ f0, F p = none ∧ c.G p = none) ∧ ∀ (F' H' : Hp) (o' : O) (f0' : List Addr), Chg c F F' H H' f0 → Own K F' H' o' v f0' → f0'.Nodup →
      (∀ q ∈ f0', (q ∈ f0 ∨ H q = none) ∧ F' q = none ∧ c.G q = none) → RE K c F' H' σ e ((v, o') :: ts) := by
  obtain ⟨hs, fs, h1, h2, h3, h4⟩ := R.hd
  obtain ⟨f1, f0, f2, e1, ho, hc⟩ := Held.change (c := c) (A := []) (B := ts ++ hs) h2 h3 h4
  have g0 : ∀ p ∈ f0, F p = none ∧ c.G p = none := fun p hp => h4 p (by rw [e1]; exact List.mem_append_right _ (List.mem_append_left _ hp))
  have n0 : f0.Nodup := by
    rw [e1] at h3
    exact (List.nodup_append.mp (List.nodup_append.mp h3).2.1).1
  refine ⟨f0, ho, n0, g0, fun F' H' o' f0' C hw nd' hq => ?_⟩
  obtain ⟨r1, r2, r3, r4⟩ := R.chg (fun p hp => (g0 p hp).2) C
  obtain ⟨q1, q2, q3⟩ := hc F' H' o' f0' C.ef C.keep hw nd' hq C.nw
  exact ⟨r1, r2, r3, r4, _, _, h1, q1, q2, q3⟩
/-- a temporary, frozen -/
theorem RE.freezeT {v : V} {o : O} (R : RE K c F H σ e ((v, o) :: ts)) : ∃ F', Ex F F' ∧ RE K c F' H σ e ts ∧ Rep K F' o.flat v := by
  obtain ⟨f0, ho, n0, g0, hc⟩ := R.mutTemp
  have hr : Rep K (addF F H f0) o.flat v := Own.rep (ex_addF fun p hp => (g0 p hp).1) o v f0 (fun p hp u z => by rw [addF_in hp]; exact z) ho
  refine ⟨addF F H f0, ex_addF fun p hp => (g0 p hp).1, ?_, hr⟩
  exact (hc (addF F H f0) H (.im o.flat) [] ⟨ex_addF fun p hp => (g0 p hp).1, addF_ex R.fh, fun _ _ _ z => z, fun p hp => by
    by_cases q : p ∈ f0
    · exact .inr (.inr q)
    · rw [addF_out q] at hp
      exact .inl hp⟩ ⟨rfl, hr⟩ List.nodup_nil (fun q hq => nomatch hq)).drop
/-- a slot, frozen -/
theorem RE.freezeS {i : Nat} {b : Bool} {o : O} (R : RE K c F H σ e ts) (h : e[i]? = some (some (b, o))) : ∃ F' v, Ex F F' ∧ σ[i]? = some (some v) ∧ RE K c F' H σ (e.set i (some (b, .im o.flat))) ts ∧ Rep K F' o.flat v := by
  obtain ⟨v, f0, hv, ho, n0, g0, hc⟩ := R.mutSlot h
  have hr : Rep K (addF F H f0) o.flat v := Own.rep (ex_addF fun p hp => (g0 p hp).1) o v f0 (fun p hp u z => by rw [addF_in hp]; exact z) ho
  refine ⟨addF F H f0, v, ex_addF fun p hp => (g0 p hp).1, hv, ?_, hr⟩
  exact hc (addF F H f0) H (.im o.flat) [] ⟨ex_addF fun p hp => (g0 p hp).1, addF_ex R.fh, fun _ _ _ z => z, fun p hp => by
    by_cases q : p ∈ f0
    · exact .inr (.inr q)
    · rw [addF_out q] at hp
      exact .inl hp⟩ ⟨rfl, hr⟩ List.nodup_nil (fun q hq => nomatch hq)
end

/-! ### denotations -/
/-- an exception: its class, its fields -/
structure Xn where
  cls : Str
  fs : List (Str × D)
inductive Res (α : Type) where
  | ok (m : Bool) (e : Env) (a : α)
  | err (m : Bool) (e : Env) (x : Xn)
abbrev Den (α : Type) := Env → Option (Res α)
inductive Rv where
  | im (d : D) | new (o : O) | bor (i : Nat) (o : O)
inductive SRes where
  | nx (m : Bool) (e : Env) | rt (m : Bool) (e : Env) (r : Rv) | bk (m : Bool) (e : Env) | ct (m : Bool) (e : Env) | er (m : Bool) (e : Env) (x : Xn)
abbrev SDen := Env → Option SRes
def dpure {α : Type} (a : α) : Den α := fun e => some (.ok false e a)
def dlift {α : Type} (a : Option α) : Den α := fun e => match a with
  | some a => some (.ok false e a)
  | none => none
def Res.more {α β : Type} (m : Bool) : Option (Res β) → Option (Res β)
  | some (.ok m' e b) => some (.ok (m || m') e b)
  | some (.err m' e x) => some (.err (m || m') e x)
  | none => none
def dbind {α β : Type} (d : Den α) (f : α → Den β) : Den β := fun e => match d e with
  | some (.ok m e a) => Res.more (β := β) (α := α) m (f a e)
  | some (.err m e x) => some (.err m e x)
  | none => none
def XRel (K : KB) (F H : Hp) (x : Xn) (cls : Value) (d : Option Addr) : Prop :=
  (∃ C, K.mg x.cls = some (.ref C) ∧ cls = .ref C) ∧ match d with
    | none => x.fs = []
    | some a => ∃ vs : List V, F a = some (.xd ((x.fs.map (·.1)).zip vs)) ∧ Reps K F (x.fs.map (·.2)) vs

/-! ### judgements -/
abbrev Rel (α β : Type) := KB → Ctx → Hp → Hp → L2.St → Env → List (V × O) → α → β → Prop
def relI : Rel D V := fun K c F H σ e ts d v => RE K c F H σ e ts ∧ Rep K F d v
def relV : Rel D V := fun K c F H σ e ts d v => RE K c F H σ e ts ∧ Rep K H d v
def relR : Rel Rv V := fun K c F H σ e ts r v => match r with
  | .im d => RE K c F H σ e ts ∧ Rep K F d v
  | .new o => RE K c F H σ e ((v, o) :: ts)
  | .bor i o => RE K c F H σ e ts ∧ σ[i]? = some (some v) ∧ ∃ b, e[i]? = some (some (b, o))
def relB : Rel Bool Bool := fun K c F H σ e ts d v => RE K c F H σ e ts ∧ d = v
def relA : Rel (List D) (List V) := fun K c F H σ e ts d v => RE K c F H σ e ts ∧ Reps K F d v
/-- from here on: what is known of how it ends -/
def At {α β : Type} (rel : Rel α β) (K : KB) (W : WX) (den : Den α) (c : Ctx) (F : Hp) (σ : L2.St) (e : Env) (ts : List (V × O)) (H : Hp) (Q : β → Hp → Prop) : Prop :=
  ∃ r, den e = some r ∧ match r with
    | .ok m e' a => ∀ F' H' v, Ex F F' → (m = false → Ex H H') → rel K c F' H' σ e' ts a v → Q v H'
    | .err m e' x => ∀ F' H' cls d, Ex F F' → (m = false → Ex H H') → RE K c F' H' σ e' ts → XRel K F' H' x cls d → W cls d σ H'
def rd {α β : Type} (rel : Rel α β) (K : KB) (W : WX) (den : Den α) : L2.St → Hp → (β → Hp → Prop) → Prop :=
  fun σ H Q => ∃ c F e ts, RE K c F H σ e ts ∧ At rel K W den c F σ e ts H Q
theorem At.bind {α β γ δ : Type} {rel : Rel α β} {rel2 : Rel γ δ} {K : KB} {W : WX} {den : Den α} {f : α → Den γ} {c : Ctx} {F H : Hp} {σ : L2.St} {e : Env} {ts : List (V × O)} {Q : δ → Hp → Prop} {Q' : β → Hp → Prop}
    (h : At rel2 K W (dbind den f) c F σ e ts H Q) (k : ∀ F1 H1 e1 a v, Ex F F1 → rel K c F1 H1 σ e1 ts a v → At rel2 K W (f a) c F1 σ e1 ts H1 Q → Q' v H1) : At rel K W den c F σ e ts H Q' := by
  obtain ⟨r, hr, post⟩ := h
  unfold dbind at hr
  cases hd : den e with
  | none =>
    rw [hd] at hr
    cases hr
  | some r1 =>
    rw [hd] at hr
    cases r1 with
    | err m e1 x =>
      cases hr
      exact ⟨_, hd, post⟩
    | ok m e1 a =>
      refine ⟨_, hd, fun F1 H1 v ef eh hrel => k F1 H1 e1 a v ef hrel ?_⟩
      dsimp only at hr
      cases hf : f a e1 with
      | none =>
        rw [hf] at hr
        cases hr
      | some r2 =>
        rw [hf] at hr
        refine ⟨r2, hf, ?_⟩
        cases r2 with
        | err m2 e2 x =>
          cases hr
          exact fun F' H' cls d ef' eh' R hx => post F' H' cls d (ef.trans ef') (fun z => by
            have z1 : m = false := by cases m <;> first | rfl | cases z
            have z2 : m2 = false := by cases m2 <;> first | rfl | (cases m <;> cases z)
            exact (eh z1).trans (eh' z2)) R hx
        | ok m2 e2 b =>
          cases hr
          exact fun F' H' w ef' eh' hrel' => post F' H' w (ef.trans ef') (fun z => by
            have z1 : m = false := by cases m <;> first | rfl | cases z
            have z2 : m2 = false := by cases m2 <;> first | rfl | (cases m <;> cases z)
            exact (eh z1).trans (eh' z2)) hrel'
theorem At.lift {α β : Type} {rel : Rel α β} {K : KB} {W : WX} {a : Option α} {c : Ctx} {F H : Hp} {σ : L2.St} {e : Env} {ts : List (V × O)} {Q : β → Hp → Prop}
    (h : At rel K W (dlift a) c F σ e ts H Q) : ∃ x, a = some x ∧ ∀ F' H' v, Ex F F' → Ex H H' → rel K c F' H' σ e ts x v → Q v H' := by
  obtain ⟨r, hr, post⟩ := h
  cases a with
  | none => cases hr
  | some x =>
    cases hr
    exact ⟨x, rfl, fun F' H' v ef eh hrel => post F' H' v ef (fun _ => eh) hrel⟩
theorem At.pure {α β : Type} {rel : Rel α β} {K : KB} {W : WX} {a : α} {c : Ctx} {F H : Hp} {σ : L2.St} {e : Env} {ts : List (V × O)} {Q : β → Hp → Prop}
    (h : At rel K W (dpure a) c F σ e ts H Q) : ∀ F' H' v, Ex F F' → Ex H H' → rel K c F' H' σ e ts a v → Q v H' := by
  obtain ⟨r, hr, post⟩ := h
  cases hr
  exact fun F' H' v ef eh hrel => post F' H' v ef (fun _ => eh) hrel

structure DE (X : Cx) (W : WX) (ex : Expr) (den : Den Rv) : Prop where
  run : PE X ex (rd relR X.B W den)
structure DI (X : Cx) (W : WX) (ex : Expr) (den : Den D) : Prop where
  run : PE X ex (rd relI X.B W den)
structure DV (X : Cx) (W : WX) (ex : Expr) (den : Den D) : Prop where
  run : PE X ex (rd relV X.B W den)
structure DT (X : Cx) (W : WX) (ex : Expr) (den : Den Bool) : Prop where
  run : PT X ex (rd relB X.B W den)
structure DA (X : Cx) (W : WX) (es : List Expr) (den : Den (List D)) : Prop where
  run : PA X es (rd relA X.B W den)

section
variable {X : Cx} {W : WX} {ex a b : Expr} {pos : Pos}
theorem pe_weak {t t' : TE} (h : PE X ex t) (k : ∀ σ H Q, t' σ H Q → t σ H Q) : PE X ex t' := ⟨fun pins s σ H Q I q => h.run pins s σ H Q I (k σ H Q q)⟩
theorem pt_weak {t t' : TT} (h : PT X ex t) (k : ∀ σ H Q, t' σ H Q → t σ H Q) : PT X ex t' := ⟨fun pins s σ H Q I q => h.run pins s σ H Q I (k σ H Q q)⟩
theorem pa_weak {es : List Expr} {t t' : TA} (h : PA X es t) (k : ∀ σ H Q, t' σ H Q → t σ H Q) : PA X es t' := ⟨fun pos pins s σ H Q I q => h.run pos pins s σ H Q I (k σ H Q q)⟩
theorem ps_weak {st : Stmt} {t t' : TS} (h : PS X st t) (k : ∀ D σ H, t' D σ H → t D σ H) : PS X st t' := ⟨fun pins s σ H D I q => h.run pins s σ H D I (k D σ H q)⟩
theorem pss_weak {st : List Stmt} {t t' : TS} (h : PSs X st t) (k : ∀ D σ H, t' D σ H → t D σ H) : PSs X st t' := ⟨fun pins s σ H D I q => h.run pins s σ H D I (k D σ H q)⟩
/-- frozen -/
def frz (d : Den Rv) : Den D := dbind d fun r e => match r with
  | .im d => some (.ok false e d)
  | .new o => some (.ok false e o.flat)
  | .bor i o => match e[i]? with
    | some (some (b, _)) => some (.ok false (e.set i (some (b, .im o.flat))) o.flat)
    | _ => none
/-- seen, not kept -/
def vw (d : Den Rv) : Den D := dbind d fun r => match r with
  | .im d => dpure d
  | .new o => dpure o.flat
  | .bor _ o => dpure o.flat
theorem DE.i {den : Den Rv} (h : DE X W ex den) : DI X W ex (frz den) := ⟨pe_weak h.run fun σ H Q q => by
  obtain ⟨c, F, e, ts, R, q⟩ := q
  refine ⟨c, F, e, ts, R, q.bind fun F1 H1 e1 a v ef hrel q2 => ?_⟩
  cases a with
  | im d => exact At.pure (a := d) q2 F1 H1 v (Ex.refl _) (Ex.refl _) hrel
  | new o =>
    obtain ⟨F3, e3, R3, h3⟩ := RE.freezeT hrel
    exact At.pure (a := o.flat) q2 F3 H1 v e3 (Ex.refl _) ⟨R3, h3⟩
  | bor i o =>
    obtain ⟨R2, hv, b, hb⟩ := hrel
    obtain ⟨F3, v3, e3, hv3, R3, h3⟩ := R2.freezeS hb
    rw [hv] at hv3
    cases hv3
    obtain ⟨r, hr3, post⟩ := q2
    dsimp only at hr3
    rw [hb] at hr3
    cases hr3
    exact post F3 H1 v e3 (fun _ => Ex.refl _) ⟨R3, h3⟩⟩
theorem DE.v {den : Den Rv} (h : DE X W ex den) : DV X W ex (vw den) := ⟨pe_weak h.run fun σ H Q q => by
  obtain ⟨c, F, e, ts, R, q⟩ := q
  refine ⟨c, F, e, ts, R, q.bind fun F1 H1 e1 a v ef hrel q2 => ?_⟩
  cases a with
  | im d => exact At.pure (a := d) q2 F1 H1 v (Ex.refl _) (Ex.refl _) ⟨hrel.1, Rep.mono hrel.1.fh _ _ hrel.2⟩
  | new o =>
    obtain ⟨fs, ho⟩ := RE.temp hrel
    exact At.pure (a := o.flat) q2 F1 H1 v (Ex.refl _) (Ex.refl _) ⟨RE.drop hrel, ho.view (RE.fh hrel)⟩
  | bor i o =>
    obtain ⟨R2, hv, b, hb⟩ := hrel
    obtain ⟨w, fs, hw, ho⟩ := R2.slot hb
    rw [hv] at hw
    cases hw
    exact At.pure (a := o.flat) q2 F1 H1 v (Ex.refl _) (Ex.refl _) ⟨R2, ho.view R2.fh⟩⟩
def imR (d : Den D) : Den Rv := dbind d fun d => dpure (.im d)
theorem DI.e {den : Den D} (h : DI X W ex den) : DE X W ex (imR den) := ⟨pe_weak h.run fun σ H Q q => by
  obtain ⟨c, F, e, ts, R, q⟩ := q
  refine ⟨c, F, e, ts, R, q.bind fun F1 H1 e1 a v ef hrel q2 => ?_⟩
  exact At.pure (a := Rv.im a) q2 F1 H1 v (Ex.refl _) (Ex.refl _) hrel⟩
theorem DI.v {den : Den D} (h : DI X W ex den) : DV X W ex den := ⟨pe_weak h.run fun σ H Q q => by
  obtain ⟨c, F, e, ts, R, r, hr, post⟩ := q
  refine ⟨c, F, e, ts, R, r, hr, ?_⟩
  cases r with
  | ok m e1 a => exact fun F' H' v ef eh hrel => post F' H' v ef eh ⟨hrel.1, Rep.mono hrel.1.fh _ _ hrel.2⟩
  | err m e1 x => exact post⟩

/-! ### names, constants -/
def dvar (i : Nat) : Den Rv := fun e => match e[i]? with
  | some (some (_, .im d)) => some (.ok false e (.im d))
  | some (some (_, o)) => some (.ok false e (.bor i o))
  | _ => none
theorem de_var {i : Nat} (h : PE X ex (tVar i)) : DE X W ex (dvar i) := ⟨pe_weak h fun σ H Q q => by
  obtain ⟨c, F, e, ts, R, r, hr, post⟩ := q
  unfold dvar at hr
  cases he : e[i]? with
  | none =>
    rw [he] at hr
    cases hr
  | some s =>
    rw [he] at hr
    cases s with
    | none => cases hr
    | some q =>
      obtain ⟨b, o⟩ := q
      obtain ⟨v, fs, hv, ho⟩ := R.slot he
      refine ⟨v, hv, ?_⟩
      cases o with
      | im d =>
        cases hr
        exact post F H v (Ex.refl _) (fun _ => Ex.refl _) ⟨R, ho.2⟩
      | lst os =>
        cases hr
        exact post F H v (Ex.refl _) (fun _ => Ex.refl _) ⟨R, hv, b, he⟩
      | tup os =>
        cases hr
        exact post F H v (Ex.refl _) (fun _ => Ex.refl _) ⟨R, hv, b, he⟩
      | dct ks os =>
        cases hr
        exact post F H v (Ex.refl _) (fun _ => Ex.refl _) ⟨R, hv, b, he⟩
      | ins C ns os =>
        cases hr
        exact post F H v (Ex.refl _) (fun _ => Ex.refl _) ⟨R, hv, b, he⟩⟩
/-- a constant -/
theorem di_c {v : V} {d : D} (h : PE X ex (tC v)) (hr : ∀ F, Rep X.B F d v) : DI X W ex (dpure d) := ⟨pe_weak h fun σ H Q q => by
  obtain ⟨c, F, e, ts, R, q⟩ := q
  exact At.pure q F H v (Ex.refl _) (Ex.refl _) ⟨R, hr F⟩⟩
theorem di_int {i : Int} {j : Nat} : DI X W (.Constant (.int i) j pos) (dpure (.int i)) := di_c pe_int fun _ => rfl
theorem di_bl {b : Bool} {j : Nat} : DI X W (.Constant (.bool b) j pos) (dpure (.bl b)) := di_c pe_bl fun _ => rfl
theorem di_str {x : Str} {j : Nat} : DI X W (.Constant (.str x) j pos) (dpure (.str x)) := di_c pe_str fun _ => rfl
end
end DL

/-! DLC: operators, comparisons, tests, calls of built-ins, tuples and lists written, subscripts. -/
namespace DL
open PySem PySem.Spec PyProof.Rows L2 Evl

/-! ### data that may be compared -/
mutual
def D.py : D → Option PyData
  | .non => some .none
  | .bl b => some (.bool b)
  | .int i => some (.int i)
  | .str x => some (.str x)
  | .tup ds => (D.pys ds).map PyData.tuple
  | .wtp ds => (D.pys ds).map PyData.tuple
  | .lst ds => (D.pys ds).map PyData.list
  | .scr ds => (D.pys ds).map PyData.list
  | .any => none
  | .ty _ => none
  | .adr _ => none
  | .exc _ _ _ _ _ => none
  | .dct _ _ => none
  | .ins _ _ _ => none
def D.pys : List D → Option (List PyData)
  | [] => some []
  | d :: ds => match D.py d, D.pys ds with
    | some p, some ps => some (p :: ps)
    | _, _ => none
end
mutual
theorem Rep.dp {K : KB} {H : Hp} : ∀ (d : D) (v : V) (p : PyData), Rep K H d v → d.py = some p → Dp K H v p
  | .non, v, p, h, e => by cases e; rw [show v = V.non from h]; exact .non
  | .bl b, v, p, h, e => by cases e; rw [show v = V.bl b from h]; exact .bl b
  | .int i, v, p, h, e => by cases e; rw [show v = V.int i from h]; exact .int i
  | .str x, v, p, h, e => by cases e; rw [show v = V.str x from h]; exact .str x
  | .tup ds, v, p, h, e => by
    obtain ⟨a, xs, rfl, h1, h2⟩ := h
    unfold D.py at e
    obtain ⟨q, e1, rfl⟩ := Option.map_eq_some_iff.mp e
    exact .tup (h1) (Reps.dp ds xs q h2 e1)
  | .wtp ds, v, p, h, e => by
    obtain ⟨a, xs, rfl, h1, h2⟩ := h
    unfold D.py at e
    obtain ⟨q, e1, rfl⟩ := Option.map_eq_some_iff.mp e
    exact .tup h1 (Reps.dp ds xs q h2 e1)
  | .lst ds, v, p, h, e => by
    obtain ⟨a, xs, rfl, h1, h2⟩ := h
    unfold D.py at e
    obtain ⟨q, e1, rfl⟩ := Option.map_eq_some_iff.mp e
    exact .lst (SqL.of h1) (Reps.dp ds xs q h2 e1)
  | .scr ds, v, p, h, e => by
    obtain ⟨a, xs, rfl, h1, h2⟩ := h
    unfold D.py at e
    obtain ⟨q, e1, rfl⟩ := Option.map_eq_some_iff.mp e
    exact .lst h1 (Reps.dp ds xs q h2 e1)
  | .any, v, p, h, e => by cases e
  | .ty _, v, p, h, e => by cases e
  | .adr _, v, p, h, e => by cases e
  | .exc _ _ _ _ _, v, p, h, e => by cases e
  | .dct _ _, v, p, h, e => by cases e
  | .ins _ _ _, v, p, h, e => by cases e
theorem Reps.dp {K : KB} {H : Hp} : ∀ (ds : List D) (xs : List V) (ps : List PyData), Reps K H ds xs → D.pys ds = some ps → DpAll K H xs ps
  | [], xs, ps, h, e => by
    rw [show xs = [] from h]
    cases e
    exact .nil
  | d :: ds, xs, ps, h, e => by
    obtain ⟨x, r, rfl, h1, h2⟩ := h
    unfold D.pys at e
    cases e1 : D.py d with
    | none => rw [e1] at e; cases e
    | some p =>
      cases e2 : D.pys ds with
      | none => rw [e1, e2] at e; cases e
      | some q =>
        rw [e1, e2] at e
        cases e
        exact .cons (Rep.dp d x p h1 e1) (Reps.dp ds r q h2 e2)
end
def eqD (a b : D) : Option Bool := match a.py, b.py with
  | some p, some q => if SeqAt.shaped p && SeqAt.shaped q then some (PyData.eqv p q) else none
  | _, _ => none

/-! ### operators over frozen data -/
def OpOk (K : KB) (r : R2) (g : D → D → Option D) : Prop := ∀ (F H : Hp) (x y : V) (dx dy d : D), Ex F H → Rep K F dx x → Rep K F dy y → g dx dy = some d →
  ∀ Q : VK, (∀ F' H' v, Ex F F' → Ex H H' → Ex F' H' → Fresh F H F' → Rep K F' d v → Q v H') → r x y H Q
/-- over data that is seen -/
def CmpOk (K : KB) (r : R2) (g : D → D → Option Bool) : Prop := ∀ (H : Hp) (x y : V) (dx dy : D) (b : Bool), Rep K H dx x → Rep K H dy y → g dx dy = some b → ∀ Q : VK, Q (.bl b) H → r x y H Q
def dbin (da db : Den D) (g : D → D → Option D) : Den D := dbind da fun x => dbind db fun y => dlift (g x y)
/-- what changes nothing -/
def dq {α : Type} (d : Den α) : Den α := fun e => match d e with
  | some (.ok false e' a) => some (.ok false e' a)
  | some (.err m e' x) => some (.err m e' x)
  | _ => none
def dcmp (da db : Den D) (g : D → D → Option Bool) : Den D := dbind da fun x => dbind (dq db) fun y => dlift ((g x y).map D.bl)
theorem At.quiet {α β : Type} {rel : Rel α β} {K : KB} {W : WX} {den : Den α} {c : Ctx} {F H : Hp} {σ : L2.St} {e : Env} {ts : List (V × O)} {Q : β → Hp → Prop}
    (h : At rel K W (dq den) c F σ e ts H Q) : At rel K W den c F σ e ts H (fun v H' => Ex H H' ∧ (Ex H H' → Q v H')) := by
  obtain ⟨r, hr, post⟩ := h
  unfold dq at hr
  cases hd : den e with
  | none => rw [hd] at hr; cases hr
  | some r1 =>
    rw [hd] at hr
    cases r1 with
    | err m e1 x =>
      cases hr
      exact ⟨_, hd, post⟩
    | ok m e1 a =>
      cases m with
      | true => cases hr
      | false =>
        cases hr
        exact ⟨_, hd, fun F' H' v ef eh hrel => ⟨eh rfl, fun _ => post F' H' v ef eh hrel⟩⟩
section
variable {X : Cx} {W : WX} {ex a b : Expr} {pos : Pos} {da db : Den D}
theorem di_opr {r : R2} {g : D → D → Option D} (h : ∀ {ta tb}, PE X a ta → PE X b tb → PE X ex (tOp r ta tb)) (hg : OpOk X.B r g) (ha : DI X W a da) (hb : DI X W b db) : DI X W ex (dbin da db g) :=
  ⟨pe_weak (h ha.run hb.run) fun σ H Q q => by
    obtain ⟨c, F, e, ts, R, q⟩ := q
    refine ⟨c, F, e, ts, R, q.bind (rel := relI) fun F1 H1 e1 x v ef hr q1 => ⟨c, F1, e1, ts, hr.1, q1.bind (rel := relI) fun F2 H2 e2 y u ef2 hr2 q2 => ?_⟩⟩
    obtain ⟨d, hd, k⟩ := q2.lift
    exact hg F2 H2 v u x y d hr2.1.fh (Rep.mono ef2 _ _ hr.2) hr2.2 hd Q fun F' H' w ef eh fh fr hw => k F' H' w ef eh ⟨hr2.1.grow ef eh fh fr, hw⟩⟩
theorem di_op {op : Operator} {r : R2} {g : D → D → Option D} (ho : OpR X (binaryOp op) r) (hg : OpOk X.B r g) (ha : DI X W a da) (hb : DI X W b db) : DI X W (.BinOp a op b pos) (dbin da db g) := di_opr (pe_op ho) hg ha hb
theorem cmp_rd {r : R2} {g : D → D → Option Bool} (hg : CmpOk X.B r g) {ta tb : TE} {σ : L2.St} {H : Hp} {Q : VK} (q : rd relI X.B W (dcmp da db g) σ H Q) : tOp r (rd relV X.B W da) (rd relV X.B W db) σ H Q := by
  obtain ⟨c, F, e, ts, R, q⟩ := q
  refine ⟨c, F, e, ts, R, q.bind (rel := relV) fun F1 H1 e1 x v ef hr q1 => ⟨c, F1, e1, ts, hr.1, ?_⟩⟩
  have q2 := (q1.bind (rel := relV) (Q' := fun u H2 => Ex H1 H2 → r v u H2 Q) fun F2 H2 e2 y u ef2 hr2 q2 ee => by
    obtain ⟨d, hd, k⟩ := q2.lift
    obtain ⟨b, hb, rfl⟩ := Option.map_eq_some_iff.mp hd
    exact hg H2 v u x y b (Rep.mono ee _ _ hr.2) hr2.2 hb Q (k F2 H2 (.bl b) (Ex.refl _) (Ex.refl _) ⟨hr2.1, rfl⟩)).quiet
  obtain ⟨rr, h1, post⟩ := q2
  refine ⟨rr, h1, ?_⟩
  cases rr with
  | err m e1 x => exact post
  | ok m e1 a => exact fun F' H' v' ef' eh hrel => let z := post F' H' v' ef' eh hrel; z.2 z.1 z.1
theorem di_cmp {op : CmpOp} {r : R2} {g : D → D → Option Bool} (ho : OpR X (compareOp op) r) (hg : CmpOk X.B r g) (ha : DV X W a da) (hb : DV X W b db) (hm : behindInMarks op b = false) : DI X W (.Compare a [op] [b] pos) (dcmp da db g) :=
  ⟨pe_weak (pe_cmpR ho ha.run hb.run hm) fun σ H Q q => cmp_rd (ta := rd relV X.B W da) (tb := rd relV X.B W db) hg q⟩
def dtB (d : Den D) : Den Bool := dbind d fun x => dlift (match x with
  | .bl b => some b
  | _ => none)
theorem tB_rd {σ : L2.St} {H : Hp} {Q : Bool → Hp → Prop} (q : rd relB X.B W (dtB da) σ H Q) : rd relI X.B W da σ H (fun x H' => ∃ k, x = .bl k ∧ Q k H') := by
  obtain ⟨c, F, e, ts, R, q⟩ := q
  refine ⟨c, F, e, ts, R, q.bind (rel := relI) fun F1 H1 e1 x v ef hr q1 => ?_⟩
  obtain ⟨b, hb, k⟩ := q1.lift
  cases x <;> cases hb
  exact ⟨b, hr.2, k F1 H1 b (Ex.refl _) (Ex.refl _) ⟨hr.1, rfl⟩⟩
theorem dt_cmp {op : CmpOp} {r : R2} {g : D → D → Option Bool} (ho : OpR X (compareOp op) r) (hg : CmpOk X.B r g) (ha : DV X W a da) (hb : DV X W b db) (hm : behindInMarks op b = false) : DT X W (.Compare a [op] [b] pos) (dtB (dcmp da db g)) :=
  ⟨pt_weak (pt_cmpR ho ha.run hb.run hm) fun σ H Q q => cmp_rd (ta := rd relV X.B W da) (tb := rd relV X.B W db) hg (tB_rd q)⟩
/-- truth of what is seen -/
@[simp] def truD : D → Option Bool
  | .non => some false
  | .bl b => some b
  | .int i => some (i != 0)
  | .str y => if y.length ≤ sizeLine then some ((y.length : Int) != 0) else none
  | .tup ds => some (!ds.isEmpty)
  | .wtp ds => some (!ds.isEmpty)
  | .lst ds => some (!ds.isEmpty)
  | .scr ds => some (!ds.isEmpty)
  | _ => none
theorem Reps.isEmpty {K : KB} {F : Hp} {ds : List D} {xs : List V} (h : Reps K F ds xs) : xs.isEmpty = ds.isEmpty := by
  cases ds with
  | nil => rw [show xs = [] from h]; rfl
  | cons d ds =>
    obtain ⟨x, r, rfl, _⟩ := h
    rfl
theorem tru_of {K : KB} {H : Hp} {d : D} {v : V} {k : Bool} (h : Rep K H d v) (e : truD d = some k) : TruV K v H k := by
  cases d with
  | non => cases e; rw [show v = V.non from h]; exact rfl
  | bl b => cases e; rw [show v = V.bl _ from h]; exact rfl
  | int i => cases e; rw [show v = V.int _ from h]; exact rfl
  | str y =>
    rw [show v = V.str _ from h]
    have e : (if y.length ≤ sizeLine then some ((y.length : Int) != 0) else none) = some k := e
    split at e
    · rename_i hz
      cases e
      exact ⟨hz, rfl⟩
    · cases e
  | tup ds =>
    obtain ⟨a, xs, rfl, h1, h2⟩ := h
    cases e
    exact .inr (.inl ⟨xs, h1, by rw [h2.isEmpty]⟩)
  | wtp ds =>
    obtain ⟨a, xs, rfl, h1, h2⟩ := h
    cases e
    exact .inr (.inl ⟨xs, h1, by rw [h2.isEmpty]⟩)
  | lst ds =>
    obtain ⟨a, xs, rfl, h1, h2⟩ := h
    cases e
    exact .inl ⟨xs, SqL.of h1, by rw [h2.isEmpty]⟩
  | scr ds =>
    obtain ⟨a, xs, rfl, h1, h2⟩ := h
    cases e
    exact .inl ⟨xs, h1, by rw [h2.isEmpty]⟩
  | _ => cases e
def dtru (d : Den D) : Den Bool := dbind d fun d => dlift (truD d)
theorem dt_tru (h : DV X W ex da) (he : ∀ whole, isTrue ex X.env whole = (do let v ← whole; standAt ex.pos; holding [v] (truthy v)) := by intro _; rfl) : DT X W ex (dtru da) :=
  ⟨pt_weak (pt_truth h.run he) fun σ H Q q => by
    obtain ⟨c, F, e, ts, R, q⟩ := q
    refine ⟨c, F, e, ts, R, q.bind (rel := relV) fun F1 H1 e1 x v ef hr q1 => ?_⟩
    obtain ⟨b, hb, k⟩ := q1.lift
    exact ⟨b, tru_of hr.2 hb, k F1 H1 b (Ex.refl _) (Ex.refl _) ⟨hr.1, rfl⟩⟩⟩
/-! ### and, or, not, if else -/
structure DW (X : Cx) (W : WX) (ex : Expr) (den : Den Bool) : Prop where
  run : PW X ex (rd relB X.B W den)
theorem pw_weak {t t' : TT} (h : PW X ex t) (k : ∀ σ H Q, t' σ H Q → t σ H Q) : PW X ex t' := ⟨fun wh pins s σ H Q I q => h.run wh pins s σ H Q I (k σ H Q q)⟩
variable {ta tb : Den Bool} {rest : List Expr}
def dand (d f : Den Bool) : Den Bool := dbind d fun b => if b then f else dpure false
def dor (d f : Den Bool) : Den Bool := dbind d fun b => if b then dpure true else f
def dnot (d : Den Bool) : Den Bool := dbind d fun b => dpure (!b)
theorem DW.t (h : DW X W ex ta) : DT X W ex ta := ⟨h.run.pt⟩
theorem dw_and1 (h : DT X W a ta) : DW X W (.BoolOp .And [a] pos) ta := ⟨pw_and1 h.run⟩
theorem dw_or1 (h : DT X W a ta) : DW X W (.BoolOp .Or [a] pos) ta := ⟨pw_or1 h.run⟩
theorem dw_and (h : DT X W a ta) (h2 : DW X W (.BoolOp .And (b :: rest) pos) tb) : DW X W (.BoolOp .And (a :: b :: rest) pos) (dand ta tb) := ⟨pw_weak (pw_and h.run h2.run) fun σ H Q q => by
  obtain ⟨c, F, e, ts, R, q⟩ := q
  refine ⟨c, F, e, ts, R, q.bind (rel := relB) fun F1 H1 e1 x v ef hr q1 => ?_⟩
  obtain ⟨R1, rfl⟩ := hr
  cases x with
  | true => exact ⟨c, F1, e1, ts, R1, q1⟩
  | false => exact At.pure (a := false) q1 F1 H1 false (Ex.refl _) (Ex.refl _) ⟨R1, rfl⟩⟩
theorem dw_or (h : DT X W a ta) (h2 : DW X W (.BoolOp .Or (b :: rest) pos) tb) : DW X W (.BoolOp .Or (a :: b :: rest) pos) (dor ta tb) := ⟨pw_weak (pw_or h.run h2.run) fun σ H Q q => by
  obtain ⟨c, F, e, ts, R, q⟩ := q
  refine ⟨c, F, e, ts, R, q.bind (rel := relB) fun F1 H1 e1 x v ef hr q1 => ?_⟩
  obtain ⟨R1, rfl⟩ := hr
  cases x with
  | false => exact ⟨c, F1, e1, ts, R1, q1⟩
  | true => exact At.pure (a := true) q1 F1 H1 true (Ex.refl _) (Ex.refl _) ⟨R1, rfl⟩⟩
theorem dt_not (h : DT X W a ta) : DT X W (.UnaryOp .Not a pos) (dnot ta) := ⟨pt_weak (pt_not h.run) fun σ H Q q => by
  obtain ⟨c, F, e, ts, R, q⟩ := q
  refine ⟨c, F, e, ts, R, q.bind (rel := relB) fun F1 H1 e1 x v ef hr q1 => ?_⟩
  obtain ⟨R1, rfl⟩ := hr
  exact At.pure q1 F1 H1 (!x) (Ex.refl _) (Ex.refl _) ⟨R1, rfl⟩⟩
/-- .. as values -/
def dandV (d f : Den D) : Den D := dbind (dtB d) fun b => if b then f else dpure (.bl false)
def dorV (d f : Den D) : Den D := dbind (dtB d) fun b => if b then dpure (.bl true) else f
def dnotV (d : Den D) : Den D := dbind (dtB d) fun b => dpure (.bl (!b))
theorem At.boolV {γ δ : Type} {rel2 : Rel γ δ} {K : KB} {f : Bool → Den γ} {c : Ctx} {F H : Hp} {σ : L2.St} {e : Env} {ts : List (V × O)} {Q : δ → Hp → Prop} {Q' : V → Hp → Prop}
    (h : At rel2 K W (dbind (dtB da) f) c F σ e ts H Q) (k : ∀ F1 H1 e1 b, Ex F F1 → RE K c F1 H1 σ e1 ts → At rel2 K W (f b) c F1 σ e1 ts H1 Q → Q' (.bl b) H1) : At relI K W da c F σ e ts H Q' := by
  have h1 := h.bind (rel := relB) (Q' := fun b H' => Q' (.bl b) H') fun F1 H1 e1 b b' ef hr q => by
    obtain ⟨R1, rfl⟩ := hr
    exact k F1 H1 e1 b ef R1 q
  exact h1.bind (rel := relI) fun F1 H1 e1 x v ef hr q => by
    obtain ⟨b, hb, kk⟩ := q.lift
    cases x <;> cases hb
    rw [show v = V.bl b from hr.2]
    exact kk F1 H1 b (Ex.refl _) (Ex.refl _) ⟨hr.1, rfl⟩
theorem di_one {op} (h : DI X W a da) : DI X W (.BoolOp op [a] pos) da := ⟨pe_one h.run⟩
theorem di_and (h : DI X W a da) (h2 : DI X W (.BoolOp .And (b :: rest) pos) db) : DI X W (.BoolOp .And (a :: b :: rest) pos) (dandV da db) := ⟨pe_weak (pe_and h.run h2.run) fun σ H Q q => by
  obtain ⟨c, F, e, ts, R, q⟩ := q
  refine ⟨c, F, e, ts, R, q.boolV fun F1 H1 e1 x ef R1 q1 => ⟨x, rfl, ?_⟩⟩
  cases x with
  | true => exact ⟨c, F1, e1, ts, R1, q1⟩
  | false => exact At.pure (a := D.bl false) q1 F1 H1 _ (Ex.refl _) (Ex.refl _) ⟨R1, rfl⟩⟩
theorem di_not (h : DI X W a da) : DI X W (.UnaryOp .Not a pos) (dnotV da) := ⟨pe_weak (pe_not h.run) fun σ H Q q => by
  obtain ⟨c, F, e, ts, R, q⟩ := q
  exact ⟨c, F, e, ts, R, q.boolV fun F1 H1 e1 x ef R1 q1 => ⟨x, rfl, At.pure q1 F1 H1 _ (Ex.refl _) (Ex.refl _) ⟨R1, rfl⟩⟩⟩⟩
def dif {α : Type} (t : Den Bool) (x y : Den α) : Den α := dbind t fun b => if b then x else y

/-! ### argument lists -/
theorem da_nil : DA X W [] (dpure []) := ⟨pa_weak pa_nil fun σ H Q q => by
  obtain ⟨c, F, e, ts, R, q⟩ := q
  exact At.pure q F H [] (Ex.refl _) (Ex.refl _) ⟨R, rfl⟩⟩
def dcons (d : Den D) (ds : Den (List D)) : Den (List D) := dbind d fun x => dbind ds fun xs => dpure (x :: xs)
theorem da_cons {es : List Expr} {ds : Den (List D)} (h : DI X W a da) (hr : DA X W es ds) (hs : starEach (a :: es) X.env = (false, eval a X.env) :: starEach es X.env := by rfl) : DA X W (a :: es) (dcons da ds) :=
  ⟨pa_weak (pa_cons h.run hr.run hs) fun σ H Q q => by
    obtain ⟨c, F, e, ts, R, q⟩ := q
    refine ⟨c, F, e, ts, R, q.bind (rel := relI) fun F1 H1 e1 x v ef hr q1 => ⟨c, F1, e1, ts, hr.1, q1.bind (rel := relA) fun F2 H2 e2 y u ef2 hr2 q2 => ?_⟩⟩
    exact At.pure q2 F2 H2 (v :: u) (Ex.refl _) (Ex.refl _) ⟨hr2.1, v, u, rfl, Rep.mono ef2 _ _ hr.2, hr2.2⟩⟩
/-- seen arguments -/
def relAV : Rel (List D) (List V) := fun K c F H σ e ts d v => RE K c F H σ e ts ∧ Reps K H d v
structure DAV (X : Cx) (W : WX) (es : List Expr) (den : Den (List D)) : Prop where
  run : PA X es (rd relAV X.B W den)
theorem dv_nil : DAV X W [] (dpure []) := ⟨pa_weak pa_nil fun σ H Q q => by
  obtain ⟨c, F, e, ts, R, q⟩ := q
  exact At.pure q F H [] (Ex.refl _) (Ex.refl _) ⟨R, rfl⟩⟩
def dconsV (d : Den D) (ds : Den (List D)) : Den (List D) := dbind d fun x => dbind (dq ds) fun xs => dpure (x :: xs)
theorem dv_cons {es : List Expr} {ds : Den (List D)} (h : DV X W a da) (hr : DAV X W es ds) (hs : starEach (a :: es) X.env = (false, eval a X.env) :: starEach es X.env := by rfl) : DAV X W (a :: es) (dconsV da ds) :=
  ⟨pa_weak (pa_cons h.run hr.run hs) fun σ H Q q => by
    obtain ⟨c, F, e, ts, R, q⟩ := q
    refine ⟨c, F, e, ts, R, q.bind (rel := relV) fun F1 H1 e1 x v ef hr q1 => ⟨c, F1, e1, ts, hr.1, ?_⟩⟩
    have q2 := (q1.bind (rel := relAV) (Q' := fun u H2 => Ex H1 H2 → Q (v :: u) H2) fun F2 H2 e2 y u ef2 hr2 q2 ee =>
      At.pure q2 F2 H2 (v :: u) (Ex.refl _) (Ex.refl _) ⟨hr2.1, v, u, rfl, Rep.mono ee _ _ hr.2, hr2.2⟩).quiet
    obtain ⟨rr, h1, post⟩ := q2
    refine ⟨rr, h1, ?_⟩
    cases rr with
    | err m e1 x => exact post
    | ok m e1 a => exact fun F' H' v' ef' eh hrel => let z := post F' H' v' ef' eh hrel; z.2 z.1 z.1⟩
abbrev R1 := List V → Hp → VK → Prop
/-- of seen arguments; what comes needs no heap -/
def CallOkV (K : KB) (r : R1) (g : List D → Option D) : Prop := ∀ (H : Hp) (xs : List V) (ds : List D) (d : D), Reps K H ds xs → g ds = some d →
  ∃ v, (∀ F, Rep K F d v) ∧ ∀ Q : VK, Q v H → r xs H Q
variable {es : List Expr} {ds : Den (List D)} {x : Str} {p : Pos} {id : String}
theorem di_callBV {r : R1} {g : List D → Option D} (hc : CallR X (.builtin id) r) (hk : CallOkV X.B r g) (hg : Gl X x) (hm : X.mg x = none) (hv : bootBuiltins x = some (.builtin id)) (ha : DAV X W (a :: es) ds) (hn : x ≠ "__name__" := by decide)
    (hdb : (x == ("__debug__" : Str)) = false := by decide) (he : starEach (a :: es) X.env = (false, eval a X.env) :: starEach es X.env := by rfl) (hpl : (backTo pos (starEach es X.env)).any (·.1) = false := by rfl) :
    DI X W (.Call (.Name x p) (a :: es) [] pos) (dbind ds fun vs => dlift (g vs)) :=
  ⟨pe_weak (pe_callB hc hg hm hv ha.run hn hdb he hpl) fun σ H Q q => by
    obtain ⟨c, F, e, ts, R, q⟩ := q
    refine ⟨c, F, e, ts, R, q.bind (rel := relAV) fun F1 H1 e1 y v ef hr q1 => ?_⟩
    obtain ⟨d, hd, k⟩ := q1.lift
    obtain ⟨w, hw, kk⟩ := hk H1 v y d hr.2 hd
    exact kk Q (k F1 H1 w (Ex.refl _) (Ex.refl _) ⟨hr.1, hw F1⟩)⟩
theorem di_callTV {r : R1} {g : List D → Option D} {T : String} (hc : CallR X (.type T) r) (hk : CallOkV X.B r g) (hg : Gl X x) (hm : X.mg x = none) (hv : bootBuiltins x = some (.type T)) (ha : DAV X W (a :: es) ds) (hn : x ≠ "__name__" := by decide)
    (hdb : (x == ("__debug__" : Str)) = false := by decide) (he : starEach (a :: es) X.env = (false, eval a X.env) :: starEach es X.env := by rfl) (hpl : (backTo pos (starEach es X.env)).any (·.1) = false := by rfl) :
    DI X W (.Call (.Name x p) (a :: es) [] pos) (dbind ds fun vs => dlift (g vs)) :=
  ⟨pe_weak (pe_callTy hc hg hm hv ha.run hn hdb he hpl) fun σ H Q q => by
    obtain ⟨c, F, e, ts, R, q⟩ := q
    refine ⟨c, F, e, ts, R, q.bind (rel := relAV) fun F1 H1 e1 y v ef hr q1 => ?_⟩
    obtain ⟨d, hd, k⟩ := q1.lift
    obtain ⟨w, hw, kk⟩ := hk H1 v y d hr.2 hd
    exact kk Q (k F1 H1 w (Ex.refl _) (Ex.refl _) ⟨hr.1, hw F1⟩)⟩
def dtup (ds : Den (List D)) : Den D := dbind ds fun xs => dlift (if xs.length ≤ sizeLine then some (.tup xs) else none)
def dlst (ds : Den (List D)) : Den Rv := dbind ds fun xs => dlift (if xs.length ≤ sizeLine then some (.new (.lst (xs.map O.im))) else none)
theorem di_tup {n1} (h : DA X W es ds) : DI X W (.Tuple es n1 pos) (dtup ds) :=
  ⟨pe_weak (pe_tup h.run) fun σ H Q q => by
    obtain ⟨c, F, e, ts, R, q⟩ := q
    refine ⟨c, F, e, ts, R, q.bind (rel := relA) fun F1 H1 e1 y v ef hr q1 => ?_⟩
    obtain ⟨d, hd, k⟩ := q1.lift
    split at hd
    · rename_i hz
      cases hd
      refine ⟨by rw [← hr.2.length]; exact hz, fun a ha => k (upd F1 a (.tup v)) (upd H1 a (.tup v)) (.ref a) (Ex.new (none_of_ex hr.1.fh ha)) (Ex.new ha) ⟨hr.1.newF ha, a, v, rfl, SqT.of upd_same, Reps.mono (Ex.new (none_of_ex hr.1.fh ha)) _ _ hr.2⟩⟩
    · cases hd⟩
theorem de_lst (h : DA X W es ds) : DE X W (.List es pos) (dlst ds) :=
  ⟨pe_weak (pe_lst h.run) fun σ H Q q => by
    obtain ⟨c, F, e, ts, R, q⟩ := q
    refine ⟨c, F, e, ts, R, q.bind (rel := relA) fun F1 H1 e1 y v ef hr q1 => ?_⟩
    obtain ⟨d, hd, k⟩ := q1.lift
    split at hd
    · rename_i hz
      cases hd
      refine ⟨by rw [← hr.2.length]; exact hz, fun a ha => k F1 (upd H1 a (.lst v)) (.ref a) (Ex.refl _) (Ex.new ha) ?_⟩
      exact hr.1.newO ha ⟨a, v, [], rfl, rfl, upd_same, owns_im hr.2⟩
    · cases hd⟩
end
end DL

/-! DLD: statements, defs, calls of defs. -/
namespace DL
open PySem PySem.Spec PyProof.Rows L2 Evl

def SRes.more (m : Bool) : Option SRes → Option SRes
  | some (.nx m' e) => some (.nx (m || m') e)
  | some (.rt m' e r) => some (.rt (m || m') e r)
  | some (.bk m' e) => some (.bk (m || m') e)
  | some (.ct m' e) => some (.ct (m || m') e)
  | some (.er m' e x) => some (.er (m || m') e x)
  | none => none
def PostS (K : KB) (W : WX) (D : Ends) (c : Ctx) (F : Hp) (ts : List (V × O)) (H : Hp) (r : SRes) : Prop := match r with
    | .nx m e' => ∀ F' H' σ', Ex F F' → (m = false → Ex H H') → RE K c F' H' σ' e' ts → D.nx σ' H'
    | .rt m e' rv => ∀ F' H' σ' v, Ex F F' → (m = false → Ex H H') → relR K c F' H' σ' e' ts rv v → D.rt v H'
    | .bk m e' => ∀ F' H' σ', Ex F F' → (m = false → Ex H H') → RE K c F' H' σ' e' ts → D.bk σ' H'
    | .ct m e' => ∀ F' H' σ', Ex F F' → (m = false → Ex H H') → RE K c F' H' σ' e' ts → D.ct σ' H'
    | .er m e' x => ∀ F' H' σ' cls d, Ex F F' → (m = false → Ex H H') → RE K c F' H' σ' e' ts → XRel K F' H' x cls d → W cls d σ' H'
def AtS (K : KB) (W : WX) (den : SDen) (D : Ends) (c : Ctx) (F : Hp) (σ : L2.St) (e : Env) (ts : List (V × O)) (H : Hp) : Prop := ∃ r, den e = some r ∧ PostS K W D c F ts H r
def rdS (K : KB) (W : WX) (den : SDen) : TS := fun D σ H => ∃ c F e ts, RE K c F H σ e ts ∧ AtS K W den D c F σ e ts H
structure DS (X : Cx) (W : WX) (st : Stmt) (den : SDen) : Prop where
  run : PS X st (rdS X.B W den)
structure DSs (X : Cx) (W : WX) (st : List Stmt) (den : SDen) : Prop where
  run : PSs X st (rdS X.B W den)
/-- Ends, the next turned -/
abbrev withNx (D : Ends) (N : L2.St → Hp → Prop) : Ends := { D with nx := N }
def snext : SDen := fun e => some (.nx false e)
def sseq (a b : SDen) : SDen := fun e => match a e with
  | some (.nx m e') => SRes.more m (b e')
  | r => r
def sbind {α : Type} (d : Den α) (f : α → SDen) : SDen := fun e => match d e with
  | some (.ok m e' a) => SRes.more m (f a e')
  | some (.err m e' x) => some (.er m e' x)
  | none => none
section
variable {K : KB} {W : WX} {c : Ctx} {F H : Hp} {σ : L2.St} {e : Env} {ts : List (V × O)}
theorem or_l {a b : Bool} (h : (a || b) = false) : a = false := by cases a <;> first | rfl | cases h
theorem or_r {a b : Bool} (h : (a || b) = false) : b = false := by cases a <;> first | exact h | cases h
/-- the rest of a way: what it wants, behind a first part that ended at F1, H1 -/
theorem AtS.more {r2 : SDen} {e1 : Env} {m : Bool} {D : Ends} {F1 H1 : Hp} {σ1 : L2.St} {r : SRes} (hr : SRes.more m (r2 e1) = some r) (ef : Ex F F1) (eh : m = false → Ex H H1)
    (post : PostS K W D c F ts H r) : AtS K W r2 D c F1 σ1 e1 ts H1 := by
  cases h2 : r2 e1 with
  | none => rw [h2] at hr; cases hr
  | some q =>
    rw [h2] at hr
    refine ⟨q, h2, ?_⟩
    cases q with
    | nx m2 e2 =>
      cases hr
      exact fun F' H' σ' ef' eh' R => post F' H' σ' (ef.trans ef') (fun z => (eh (or_l z)).trans (eh' (or_r z))) R
    | rt m2 e2 rv =>
      cases hr
      exact fun F' H' σ' v ef' eh' R => post F' H' σ' v (ef.trans ef') (fun z => (eh (or_l z)).trans (eh' (or_r z))) R
    | bk m2 e2 =>
      cases hr
      exact fun F' H' σ' ef' eh' R => post F' H' σ' (ef.trans ef') (fun z => (eh (or_l z)).trans (eh' (or_r z))) R
    | ct m2 e2 =>
      cases hr
      exact fun F' H' σ' ef' eh' R => post F' H' σ' (ef.trans ef') (fun z => (eh (or_l z)).trans (eh' (or_r z))) R
    | er m2 e2 x =>
      cases hr
      exact fun F' H' σ' cls d ef' eh' R hx => post F' H' σ' cls d (ef.trans ef') (fun z => (eh (or_l z)).trans (eh' (or_r z))) R hx
theorem AtS.sbind {α β : Type} {rel : Rel α β} {den : Den α} {f : α → SDen} {D : Ends} {Q' : β → Hp → Prop} (h : AtS K W (sbind den f) D c F σ e ts H)
    (k : ∀ F1 H1 e1 a v, Ex F F1 → rel K c F1 H1 σ e1 ts a v → AtS K W (f a) D c F1 σ e1 ts H1 → Q' v H1) : At rel K W den c F σ e ts H Q' := by
  obtain ⟨r, hr, post⟩ := h
  unfold DL.sbind at hr
  cases hd : den e with
  | none => rw [hd] at hr; cases hr
  | some r1 =>
    rw [hd] at hr
    cases r1 with
    | err m e1 x =>
      cases hr
      exact ⟨_, hd, fun F' H' cls d ef eh R hx => post F' H' σ cls d ef eh R hx⟩
    | ok m e1 a => exact ⟨_, hd, fun F1 H1 v ef eh hrel => k F1 H1 e1 a v ef hrel (AtS.more hr ef eh post)⟩
theorem AtS.seq {d f : SDen} {D : Ends} {N : L2.St → Hp → Prop} (h : AtS K W (sseq d f) D c F σ e ts H)
    (k : ∀ F1 H1 σ1 e1, Ex F F1 → RE K c F1 H1 σ1 e1 ts → AtS K W f D c F1 σ1 e1 ts H1 → N σ1 H1) : AtS K W d (withNx D N) c F σ e ts H := by
  obtain ⟨r, hr, post⟩ := h
  unfold sseq at hr
  cases hd : d e with
  | none => rw [hd] at hr; cases hr
  | some r1 =>
    rw [hd] at hr
    refine ⟨r1, hd, ?_⟩
    cases r1 with
    | nx m e1 => exact fun F1 H1 σ1 ef eh R => k F1 H1 σ1 e1 ef R (AtS.more hr ef eh post)
    | rt m e1 rv => cases hr; exact post
    | bk m e1 => cases hr; exact post
    | ct m e1 => cases hr; exact post
    | er m e1 x => cases hr; exact post
/-- the ends weakened -/
theorem AtS.imp {d : SDen} {D D' : Ends} (h : AtS K W d D c F σ e ts H) (k1 : ∀ σ' H', D.nx σ' H' → D'.nx σ' H') (k2 : ∀ v H', D.rt v H' → D'.rt v H') (k3 : ∀ σ' H', D.bk σ' H' → D'.bk σ' H') (k4 : ∀ σ' H', D.ct σ' H' → D'.ct σ' H') : AtS K W d D' c F σ e ts H := by
  obtain ⟨r, hr, post⟩ := h
  refine ⟨r, hr, ?_⟩
  cases r with
  | nx m e1 => exact fun F1 H1 σ1 ef eh R => k1 _ _ (post F1 H1 σ1 ef eh R)
  | rt m e1 rv => exact fun F1 H1 σ1 v ef eh R => k2 _ _ (post F1 H1 σ1 v ef eh R)
  | bk m e1 => exact fun F1 H1 σ1 ef eh R => k3 _ _ (post F1 H1 σ1 ef eh R)
  | ct m e1 => exact fun F1 H1 σ1 ef eh R => k4 _ _ (post F1 H1 σ1 ef eh R)
  | er m e1 x => exact post
theorem AtS.next {D : Ends} (h : AtS K W snext D c F σ e ts H) (R : RE K c F H σ e ts) : D.nx σ H := by
  obtain ⟨r, hr, post⟩ := h
  cases hr
  exact post F H σ (Ex.refl _) (fun _ => Ex.refl _) R
end
section
variable {X : Cx} {W : WX} {ex : Expr} {pos : Pos} {st : Stmt} {rest body : List Stmt} {d f : SDen}
theorem dss_nil : DSs X W [] snext := ⟨pss_weak pss_nil fun D σ H q => by
  obtain ⟨c, F, e, ts, R, q⟩ := q
  exact q.next R⟩
theorem dss_one (h : DS X W st d) : DSs X W [st] d := ⟨pss_one h.run⟩
theorem dss_cons (h : DS X W st d) (h2 : DSs X W rest f) : DSs X W (st :: rest) (sseq d f) := ⟨pss_weak (pss_cons h.run h2.run) fun D σ H q => by
  obtain ⟨c, F, e, ts, R, q⟩ := q
  exact ⟨c, F, e, ts, R, q.seq fun F1 H1 σ1 e1 ef R1 q1 => ⟨c, F1, e1, ts, R1, q1⟩⟩⟩
/-- what is not come to -/
theorem ds_never : DS X W st (fun _ => none) := ⟨ps_weak ps_never fun D σ H q => by
  obtain ⟨c, F, e, ts, R, r, hr, _⟩ := q
  cases hr⟩
def sif (t : Den Bool) (a b : SDen) : SDen := sbind t fun k => if k then a else b
theorem ds_if {t : Expr} {dt : Den Bool} {a b : List Stmt} {da db : SDen} (h : DT X W t dt) (h1 : DSs X W a da) (h2 : DSs X W b db) : DS X W (.If t a b pos) (sif dt da db) := ⟨ps_weak (ps_if h.run h1.run h2.run) fun D σ H q => by
  obtain ⟨c, F, e, ts, R, q⟩ := q
  refine ⟨c, F, e, ts, R, q.sbind (rel := relB) fun F1 H1 e1 x v ef hr q1 => ?_⟩
  obtain ⟨R1, rfl⟩ := hr
  cases x with
  | true => exact ⟨c, F1, e1, ts, R1, q1⟩
  | false => exact ⟨c, F1, e1, ts, R1, q1⟩⟩
def srt (d : Den Rv) : SDen := sbind d fun rv e => some (.rt false e rv)
theorem ds_ret {de : Den Rv} (h : DE X W ex de) : DS X W (.Return (some ex) pos) (srt de) := ⟨ps_weak (ps_ret h.run) fun D σ H q => by
  obtain ⟨c, F, e, ts, R, q⟩ := q
  refine ⟨c, F, e, ts, R, q.sbind (rel := relR) fun F1 H1 e1 x v ef hr q1 => ?_⟩
  obtain ⟨r, hr2, post⟩ := q1
  cases hr2
  exact post F1 H1 σ v (Ex.refl _) (fun _ => Ex.refl _) hr⟩
def sdrop (d : Den Rv) : SDen := sbind d fun _ => snext
/-- a name takes a value -/
def sset (i : Nat) (d : Den Rv) : SDen := sbind d fun rv e => if e.free i = true then (match rv with
  | .im d => some (.nx false (e.set i (some (false, .im d))))
  | .new o => some (.nx false (e.set i (some (false, o))))
  | .bor j o => match e[j]? with
    | some (some (b, _)) => if Env.free (e.set j (some (b, .im o.flat))) i = true then some (.nx false ((e.set j (some (b, .im o.flat))).set i (some (false, .im o.flat)))) else none
    | _ => none) else none
theorem AtS.set {K : KB} {c : Ctx} {F H : Hp} {σ : L2.St} {e : Env} {ts : List (V × O)} {D : Ends} {i : Nat} {de : Den Rv} (q : AtS K W (sset i de) D c F σ e ts H) : At relR K W de c F σ e ts H (fun x H1 => D.nx (σ.set i (some x)) H1) := by
  refine q.sbind (rel := relR) fun F1 H1 e1 rv v ef hr q1 => ?_
  obtain ⟨r, hr2, post⟩ := q1
  dsimp only at hr2
  split at hr2
  · rename_i hfree
    cases rv with
    | im d =>
      cases hr2
      exact post F1 H1 _ (Ex.refl _) (fun _ => Ex.refl _) (hr.1.setIm hfree hr.2)
    | new o =>
      cases hr2
      exact post F1 H1 _ (Ex.refl _) (fun _ => Ex.refl _) (RE.setO hr hfree)
    | bor j o =>
      obtain ⟨R1, hv, b, hb⟩ := hr
      dsimp only at hr2
      rw [hb] at hr2
      dsimp only at hr2
      split at hr2
      · rename_i hf2
        cases hr2
        obtain ⟨F2, v2, e2, hv2, R2, hrep⟩ := R1.freezeS hb
        rw [hv] at hv2
        cases hv2
        exact post F2 H1 _ e2 (fun _ => Ex.refl _) (R2.setIm hf2 hrep)
      · cases hr2
  · cases hr2
theorem ds_set {i : Nat} {x : Str} {pos' : Pos} {de : Den Rv} (hN : X.N.Nodup) (hi : X.N[i]? = some x) (hx : Loc X.env.scope x) (h : DE X W ex de) (hs : swapsWith ex (some (.Name x pos')) pos.line X.env = pure false := by rfl)
    (hf : X.fn x = true ∨ X.env.scope.names.lookup x = some .local := by first | exact .inl rfl | exact .inr rfl | assumption) : DS X W (.Assign [.Name x pos'] ex pos) (sset i de) := ⟨ps_weak (ps_set (i := i) hN hi hx h.run hs) fun D σ H q => by
  obtain ⟨c, F, e, ts, R, q⟩ := q
  exact ⟨c, F, e, ts, R, q.set⟩⟩
/-! ### targets -/
/-- what a store leaves: all slots but these -/
def Off (sl : List Nat) (σ σ' : L2.St) : Prop := σ'.length = σ.length ∧ ∀ j, j ∉ sl → σ'[j]? = σ[j]?
theorem Off.refl {sl : List Nat} {σ : L2.St} : Off sl σ σ := ⟨rfl, fun _ _ => rfl⟩
theorem Off.trans {s1 s2 : List Nat} {σ σ1 σ2 : L2.St} (h : Off s1 σ σ1) (h2 : Off s2 σ1 σ2) : Off (s1 ++ s2) σ σ2 :=
  ⟨h2.1.trans h.1, fun j hj => (h2.2 j fun z => hj (List.mem_append_right _ z)).trans (h.2 j fun z => hj (List.mem_append_left _ z))⟩
def tgR (K : KB) (bind : D → Env → Option Env) (sl : List Nat) : TG := fun v σ H Q => ∃ c F e ts d e', RE K c F H σ e ts ∧ Rep K F d v ∧ bind d e = some e' ∧ ∀ σ', RE K c F H σ' e' ts → Off sl σ σ' → Q σ' H
structure DG (X : Cx) (tg : Expr) (bind : D → Env → Option Env) (sl : List Nat) : Prop where
  run : PG X tg (tgR X.B bind sl)
theorem pg_weak {tg : Expr} {t t' : TG} (h : PG X tg t) (k : ∀ v σ H Q, t' v σ H Q → t v σ H Q) : PG X tg t' := ⟨fun pins s σ H v u Q I r q => h.run pins s σ H v u Q I r (k v σ H Q q)⟩
def bName (i : Nat) : D → Env → Option Env := fun d e => if e.free i = true then some (e.set i (some (false, .im d))) else none
theorem dg_name {i : Nat} {x : Str} (hN : X.N.Nodup) (hi : X.N[i]? = some x) (hx : Loc X.env.scope x) (hf : X.fn x = true ∨ X.env.scope.names.lookup x = some .local := by first | exact .inl rfl | exact .inr rfl | assumption) : DG X (.Name x pos) (bName i) [i] :=
  ⟨pg_weak (pg_name hN hi hx hf) fun v σ H Q q => by
    obtain ⟨c, F, e, ts, d, e', R, hr, hb, k⟩ := q
    unfold bName at hb
    split at hb
    · rename_i hfree
      cases hb
      exact k _ (R.setIm hfree hr) ⟨by rw [List.length_set], fun j hj => List.getElem?_set_ne (fun z => hj (by rw [z]; exact List.mem_cons_self))⟩
    · cases hb⟩
def tgsR (K : KB) (bind : List D → Env → Option Env) (sl : List Nat) : TGs := fun vs σ H Q => ∃ c F e tt ds e', RE K c F H σ e tt ∧ Reps K F ds vs ∧ bind ds e = some e' ∧ ∀ σ', RE K c F H σ' e' tt → Off sl σ σ' → Q σ' H
structure DGs (X : Cx) (ts : List Expr) (bind : List D → Env → Option Env) (sl : List Nat) : Prop where
  run : PGs X ts (tgsR X.B bind sl)
theorem pgs_weak {tg : List Expr} {t t' : TGs} (h : PGs X tg t) (k : ∀ v σ H Q, t' v σ H Q → t v σ H Q) : PGs X tg t' := ⟨fun pins s σ H v u Q I r q => h.run pins s σ H v u Q I r (k v σ H Q q)⟩
def bNil : List D → Env → Option Env := fun ds e => match ds with
  | [] => some e
  | _ => none
def bCons (b : D → Env → Option Env) (bs : List D → Env → Option Env) : List D → Env → Option Env := fun ds e => match ds with
  | d :: ds => (b d e).bind fun e' => bs ds e'
  | [] => none
theorem dgs_nil : DGs X [] bNil [] := ⟨pgs_weak pgs_nil fun vs σ H Q q => by
  obtain ⟨c, F, e, ts, ds, e', R, hr, hb, k⟩ := q
  cases ds with
  | nil =>
    cases hb
    exact ⟨hr, k σ R Off.refl⟩
  | cons d ds => cases hb⟩
theorem dgs_cons {tg : Expr} {tgs : List Expr} {b : D → Env → Option Env} {bs : List D → Env → Option Env} {s1 s2 : List Nat} (h : DG X tg b s1) (h2 : DGs X tgs bs s2) (hs : (assignEach (tg :: tgs) X.env).map (·.2) = assign tg X.env :: (assignEach tgs X.env).map (·.2) := by rfl) :
    DGs X (tg :: tgs) (bCons b bs) (s1 ++ s2) := ⟨pgs_weak (pgs_cons h.run h2.run hs) fun vs σ H Q q => by
  obtain ⟨c, F, e, ts, ds, e', R, hr, hb, k⟩ := q
  cases ds with
  | nil => cases hb
  | cons d ds =>
    obtain ⟨x, r, e1, h1, h2⟩ := hr
    obtain ⟨e2, hb1, hb2⟩ := Option.bind_eq_some_iff.mp hb
    exact ⟨x, r, e1, c, F, e, ts, d, e2, R, h1, hb1, fun σ' R' o' => ⟨c, F, e2, ts, ds, e', R', h2, hb2, fun σ2 R2 o2 => k σ2 R2 (o'.trans o2)⟩⟩⟩
def bTup (n : Nat) (bs : List D → Env → Option Env) : D → Env → Option Env := fun d e => match d with
  | .tup ds => if ds.length = n then bs ds e else none
  | .wtp ds => if ds.length = n then bs ds e else none
  | _ => none
theorem dg_tup {es : List Expr} {k n : Nat} {bs : List D → Env → Option Env} {sl : List Nat} (hc : X.calm = true) (h : DGs X es bs sl) (hn : (assignEach es X.env).length = n := by rfl) (hst : (assignEach es X.env).findIdx? (·.1) = none := by rfl) :
    DG X (.Tuple es k pos) (bTup n bs) sl := ⟨pg_weak (pg_tup hc h.run hn hst) fun v σ H Q q => by
  obtain ⟨c, F, e, ts, d, e', R, hr, hb, k⟩ := q
  cases d with
  | tup ds =>
    obtain ⟨a, xs, rfl, h1, h2⟩ := hr
    unfold bTup at hb
    dsimp only at hb
    split at hb
    · rename_i hz
      exact ⟨a, xs, rfl, ex_t R.fh h1, by rw [← h2.length]; exact hz, c, F, e, ts, ds, e', R, h2, hb, k⟩
    · cases hb
  | wtp ds =>
    obtain ⟨a, xs, rfl, h1, h2⟩ := hr
    unfold bTup at hb
    dsimp only at hb
    split at hb
    · rename_i hz
      exact ⟨a, xs, rfl, ex_t R.fh h1, by rw [← h2.length]; exact hz, c, F, e, ts, ds, e', R, h2, hb, k⟩
    · cases hb
  | _ => cases hb⟩
/-- target = value, frozen -/
def sasg (b : D → Env → Option Env) (d : Den D) : SDen := sbind d fun x e => (b x e).map fun e' => SRes.nx false e'
theorem ds_asg {tg : Expr} {b : D → Env → Option Env} {sl : List Nat} {de : Den D} (h : DI X W ex de) (hg : DG X tg b sl) (hs : swapsWithSole [tg] ex pos.line X.env = pure false := by rfl) (hw : swappedStores [tg] ex X.env = pure none := by rfl)
    (h1 : (assignEach [tg] X.env).map (·.2) = [assign tg X.env] := by rfl) : DS X W (.Assign [tg] ex pos) (sasg b de) := ⟨ps_weak (ps_asg h.run hg.run hs hw h1) fun D σ H q => by
  obtain ⟨c, F, e, ts, R, q⟩ := q
  refine ⟨c, F, e, ts, R, q.sbind (rel := relI) fun F1 H1 e1 x v ef hr q1 => ?_⟩
  obtain ⟨r, hr2, post⟩ := q1
  obtain ⟨e2, hb, he2⟩ := Option.map_eq_some_iff.mp hr2
  subst he2
  exact ⟨c, F1, e1, ts, x, e2, hr.1, hr.2, hb, fun σ' R' _ => post F1 H1 σ' (Ex.refl _) (fun _ => Ex.refl _) R'⟩⟩
end
end DL

/-! DLE: defs as functions of data; calls. -/
namespace DL
open PySem PySem.Spec PyProof.Rows L2 Evl

inductive FRv where
  | im (d : D) | new (o : O)
inductive FRes where
  | ok (m : Bool) (os : List O) (r : FRv)
  | err (m : Bool) (os : List O) (x : Xn)
abbrev FDen := List O → Option FRes
def frvs : FRv → V → List (V × O)
  | .im _, _ => []
  | .new o, v => [(v, o)]
def FRep (K : KB) (F : Hp) : FRv → V → Prop
  | .im d, v => Rep K F d v
  | .new _, _ => True
def PostF (K : KB) (F H : Hp) (fs : List Addr) (Q : VK) (E : XK) (vs : List V) : FRes → Prop
  | .ok m os' rv => ∀ F' H' v fs', Ex F F' → Ex F' H' → (m = false → Ex H H') → (∀ p u, p ∉ fs → H p = some u → H' p = some u) → (∀ p, F' p ≠ none → F p ≠ none ∨ H p = none ∨ p ∈ fs) → FRep K F' rv v →
      Held K F' H' (frvs rv v ++ vs.zip os') fs' → fs'.Nodup → (∀ p ∈ fs', F' p = none ∧ (p ∈ fs ∨ H p = none)) → Q v H'
  | .err m os' x => ∀ F' H' cls d fs', Ex F F' → Ex F' H' → (m = false → Ex H H') → (∀ p u, p ∉ fs → H p = some u → H' p = some u) → (∀ p, F' p ≠ none → F p ≠ none ∨ H p = none ∨ p ∈ fs) → XRel K F' H' x cls d →
      Held K F' H' (vs.zip os') fs' → fs'.Nodup → (∀ p ∈ fs', F' p = none ∧ (p ∈ fs ∨ H p = none)) → E cls d H'
def spD (K : KB) (n : Nat) (f : FDen) : Sp := fun vs H Q E => vs.length = n ∧ ∃ F os fs r, os.length = n ∧ Held K F H (vs.zip os) fs ∧ fs.Nodup ∧ (∀ p ∈ fs, F p = none) ∧ Ex F H ∧ f os = some r ∧ PostF K F H fs Q E vs r
@[simp] def slot0 : O → Slot
  | .im d => some (false, .im d)
  | o => some (true, o)
def env0 (os : List O) (n : Nat) : Env := os.map slot0 ++ List.replicate (n - os.length) none
def outs : List O → Env → Option (List O)
  | [], _ => some []
  | .im d :: os, _ :: e => (outs os e).map fun r => O.im d :: r
  | _ :: os, some (true, o') :: e => (outs os e).map fun r => o' :: r
  | _, _ => none
def fnden (n : Nat) (den : SDen) : FDen := fun os => match den (env0 os n) with
  | some (.nx m e) => (outs os e).map fun os' => .ok m os' (.im .non)
  | some (.rt m e (.im d)) => (outs os e).map fun os' => .ok m os' (.im d)
  | some (.rt m e (.new o)) => (outs os e).map fun os' => .ok m os' (.new o)
  | some (.rt m e (.bor i o)) => match e[i]? with
    | some (some (false, _)) => (outs os (e.set i none)).map fun os' => .ok m os' (.new o)
    | _ => none
  | some (.er m e x) => (outs os e).map fun os' => .err m os' x
  | _ => none
section
variable {K : KB} {c : Ctx} {F F' H H' : Hp} {σ : L2.St} {e : Env} {ts : List (V × O)}
theorem slot0_eq (o : O) : ∃ b, slot0 o = some (b, o) := by
  cases o <;> exact ⟨_, rfl⟩
theorem slots_none : ∀ (n : Nat) (σ0 : L2.St), Slots (List.replicate n none) (List.replicate n none) σ0 []
  | 0, σ0 => ⟨rfl, rfl⟩
  | n + 1, σ0 => ⟨none, _, rfl, slots_none n _⟩
theorem slots_start : ∀ (vs : List V) (os : List O) (n : Nat) (τ : L2.St), vs.length = os.length → Slots (os.map slot0 ++ List.replicate n none) (vs.map some ++ List.replicate n none) (vs.map some ++ τ) (vs.zip os)
  | [], [], n, τ, _ => slots_none n _
  | v :: vs, o :: os, n, τ, h => by
    obtain ⟨b, hb⟩ := slot0_eq o
    have ih := slots_start vs os n τ (by simpa using h)
    show Slots (slot0 o :: _) (some v :: _) (some v :: _) ((v, o) :: _)
    rw [hb]
    exact ⟨v, _, _, rfl, fun _ => rfl, rfl, ih⟩
  | [], _ :: _, _, _, h => by simp at h
  | _ :: _, [], _, _, h => by simp at h
/-- a slot's holding, taken out -/
theorem RE.take {i : Nat} {o : O} {v : V} (R : RE K c F H σ e ts) (h : e[i]? = some (some (false, o))) (hv : σ[i]? = some (some v)) : RE K c F H σ (e.set i none) ((v, o) :: ts) := by
  obtain ⟨hs, fs, h1, h2, h3, h4⟩ := R.hd
  obtain ⟨v', A, B, k1, k2, _, _⟩ := h1.at i h
  rw [hv] at k2
  cases k2
  have hfree : e.free i = true := by unfold Env.free; rw [h]; rfl
  obtain ⟨A', M, B', k3, _, k5⟩ := h1.put i hfree
  have hset : σ.set i (some v) = σ := by
    have hl : i < σ.length := (List.getElem?_eq_some_iff.mp hv).1
    have := (List.getElem?_eq_some_iff.mp hv).2
    rw [← this]
    exact List.set_getElem_self hl
  have k5' := k5 (some v)
  rw [hset] at k5'
  -- the split is at the same place
  have key : ∀ (e : Env) (σ σ0 : L2.St) (hs : List (V × O)) (i : Nat), Slots e σ σ0 hs → e[i]? = some (some (false, o)) → σ[i]? = some (some v) → ∃ A B, hs = A ++ (v, o) :: B ∧ Slots (e.set i none) σ σ0 (A ++ B) := by
    intro e
    induction e with
    | nil => intro σ σ0 hs i _ he; simp at he
    | cons s e ih =>
      intro σ σ0 hs i hsl he hvv
      cases i with
      | zero =>
        have es : s = some (false, o) := by simpa using he
        subst es
        obtain ⟨w, r, hr, e1, hb, e2, h5⟩ := hsl
        subst e1
        have : w = v := by simpa using hvv
        subst this
        exact ⟨[], hr, e2, some w, r, rfl, h5⟩
      | succ i =>
        cases s with
        | none =>
          obtain ⟨x, r, e1, h5⟩ := hsl
          subst e1
          obtain ⟨A, B, q1, q2⟩ := ih _ _ _ i h5 (by simpa using he) (by simpa using hvv)
          exact ⟨A, B, q1, x, r, rfl, q2⟩
        | some q =>
          obtain ⟨w, r, hr, e1, hb, e2, h5⟩ := hsl
          subst e1
          obtain ⟨A, B, q1, q2⟩ := ih _ _ _ i h5 (by simpa using he) (by simpa using hvv)
          exact ⟨(w, q.2) :: A, B, by rw [e2, q1]; rfl, w, r, _, rfl, hb, rfl, q2⟩
  obtain ⟨A2, B2, q1, q2⟩ := key e σ c.σ0 hs i h1 h hv
  subst q1
  rw [← List.append_assoc] at h2
  obtain ⟨f1, f2, e1, h5, h6⟩ := h2.split
  obtain ⟨g0, g2, e2, h7, h8⟩ := h6
  subst e2
  subst e1
  obtain ⟨g1, g3, e3, h9, h10⟩ := h5.split
  subst e3
  refine ⟨R.g, R.f0, R.fh, R.nw, A2 ++ B2, g0 ++ (g1 ++ (g3 ++ g2)), q2, ⟨g0, _, rfl, h7, Held.join h9 (Held.join h10 h8)⟩, ?_, fun p hp => h4 p ?_⟩
  · have hp : (g0 ++ (g1 ++ (g3 ++ g2))).Perm (g1 ++ g3 ++ (g0 ++ g2)) := by
      rw [show g0 ++ (g1 ++ (g3 ++ g2)) = (g0 ++ (g1 ++ g3)) ++ g2 by simp, show g1 ++ g3 ++ (g0 ++ g2) = ((g1 ++ g3) ++ g0) ++ g2 by simp]
      exact List.Perm.append_right g2 List.perm_append_comm
    exact hp.nodup_iff.mpr h3
  · rcases List.mem_append.mp hp with z | z
    · exact List.mem_append_right _ (List.mem_append_left _ z)
    · rcases List.mem_append.mp z with z | z
      · exact List.mem_append_left _ (List.mem_append_left _ z)
      · rcases List.mem_append.mp z with z | z
        · exact List.mem_append_left _ (List.mem_append_right _ z)
        · exact List.mem_append_right _ (List.mem_append_right _ z)
theorem outs_ok (ef : Ex F F') : ∀ (os : List O) (vs : List V) (e : Env) (σ σ0 : L2.St) (hs : List (V × O)) (fs fz : List Addr) (os' : List O), Slots e σ σ0 hs → Held K F' H' hs fs → vs.length = os.length →
    (∀ (i : Nat) (v : V), vs[i]? = some v → σ0[i]? = some (some v)) → Held K F H (vs.zip os) fz → outs os e = some os' → os'.length = os.length ∧ ∃ fs1, Held K F' H' (vs.zip os') fs1 ∧ fs1.Sublist fs
  | [], [], e, σ, σ0, hs, fs, fz, os', h1, h2, hl, h0, hz, ho => by
    cases e <;> (cases ho; exact ⟨rfl, [], rfl, List.nil_sublist _⟩)
  | o :: os, v :: vs, [], σ, σ0, hs, fs, fz, os', h1, h2, hl, h0, hz, ho => by
    cases o <;> cases ho
  | o :: os, v :: vs, s :: e, σ, σ0, hs, fs, fz, os', h1, h2, hl, h0, hz, ho => by
    obtain ⟨z1, z2, _, hz1, hz2⟩ := hz
    -- the rest of the slots
    have rest : ∃ (σ1 : L2.St) (hs1 : List (V × O)) (f1 f2 : List Addr), Slots e σ1 σ0.tail hs1 ∧ fs = f1 ++ f2 ∧ Held K F' H' hs1 f2 ∧ (∀ b o', s = some (b, o') → ∃ w, (b = true → σ0.head? = some (some w)) ∧ Own K F' H' o' w f1) := by
      cases s with
      | none =>
        obtain ⟨x, r, e1, h3⟩ := h1
        exact ⟨r, hs, [], fs, h3, rfl, h2, fun b o' z => by cases z⟩
      | some q =>
        obtain ⟨w, r, hr, e1, hb, e2, h3⟩ := h1
        subst e2
        obtain ⟨f1, f2, e3, h4, h5⟩ := h2
        exact ⟨r, hr, f1, f2, h3, e3, h5, fun b o' z => by
          cases z
          exact ⟨w, hb, h4⟩⟩
    obtain ⟨σ1, hs1, f1, f2, h3, e3, h4, hown⟩ := rest
    subst e3
    have h0' : ∀ (i : Nat) (v : V), vs[i]? = some v → σ0.tail[i]? = some (some v) := fun i w hw => by
      have := h0 (i + 1) w (by simpa using hw)
      cases σ0 with
      | nil => simp at this
      | cons a b => simpa using this
    have hv0 : σ0.head? = some (some v) := by
      have := h0 0 v rfl
      cases σ0 with
      | nil => simp at this
      | cons a b => simpa using this
    have own_case : ∀ (hb : ∃ o', s = some (true, o') ∧ (outs os e).map (fun r => o' :: r) = some os'), os'.length = (o :: os).length ∧ ∃ fs1, Held K F' H' ((v :: vs).zip os') fs1 ∧ fs1.Sublist (f1 ++ f2) := by
      rintro ⟨o', es, hm⟩
      obtain ⟨r, hr, e5⟩ := Option.map_eq_some_iff.mp hm
      subst e5
      obtain ⟨l1, g, hg, hsub⟩ := outs_ok ef os vs e σ1 σ0.tail hs1 f2 z2 r h3 h4 (by simpa using hl) h0' hz2 hr
      obtain ⟨w, hw, how⟩ := hown true o' es
      have := hw rfl
      rw [hv0] at this
      cases this
      exact ⟨by rw [List.length_cons, List.length_cons, l1], f1 ++ g, ⟨f1, g, rfl, how, hg⟩, List.Sublist.append_left hsub f1⟩
    cases o with
    | im d =>
      obtain ⟨r, hr, e5⟩ := Option.map_eq_some_iff.mp (show (outs os e).map (fun r => O.im d :: r) = some os' from ho)
      subst e5
      obtain ⟨l1, g, hg, hsub⟩ := outs_ok ef os vs e σ1 σ0.tail hs1 f2 z2 r h3 h4 (by simpa using hl) h0' hz2 hr
      exact ⟨by rw [List.length_cons, List.length_cons, l1], g, ⟨[], g, rfl, ⟨rfl, Rep.mono ef _ _ hz1.2⟩, hg⟩, hsub.trans (List.sublist_append_right f1 f2)⟩
    | lst os2 => cases s with
      | none => cases ho
      | some q => obtain ⟨b, o'⟩ := q; cases b with
        | false => cases ho
        | true => exact own_case ⟨o', rfl, ho⟩
    | tup os2 => cases s with
      | none => cases ho
      | some q => obtain ⟨b, o'⟩ := q; cases b with
        | false => cases ho
        | true => exact own_case ⟨o', rfl, ho⟩
    | dct ks os2 => cases s with
      | none => cases ho
      | some q => obtain ⟨b, o'⟩ := q; cases b with
        | false => cases ho
        | true => exact own_case ⟨o', rfl, ho⟩
    | ins C ns os2 => cases s with
      | none => cases ho
      | some q => obtain ⟨b, o'⟩ := q; cases b with
        | false => cases ho
        | true => exact own_case ⟨o', rfl, ho⟩
  | [], v :: vs, e, σ, σ0, hs, fs, fz, os', h1, h2, hl, h0, hz, ho => by simp at hl
  | o :: os, [], e, σ, σ0, hs, fs, fz, os', h1, h2, hl, h0, hz, ho => by simp at hl
end
/-- a def as it stands behind the top, with defaults or without -/
structure Df (K : PySem.W.Frag) (x qual : Str) (st : Stmt) (f : Addr) (fd : FuncData) : Prop where
  ex : ∃ (oc : Value) (od : Option Addr) (dV kV doc pm : Value) (an : Option Addr) (cdv ct : Value) (osl : Array (Option Value)),
    fd = PySem.W.fnOf x qual (defArgs st) (defBody st) (defScope st) dV kV doc pm an cdv ct ∧ K.lookup f = some ⟨oc, od, .func fd, osl⟩ ∧ PySem.W.codeIn K cdv qual = true
  kp : PySem.W.keepIn K (.ref f) = true
theorem df_mk {K : PySem.W.Frag} {x qual : Str} {st : Stmt} {f : Addr} {oc : Value} {od an : Option Addr} {osl : Array (Option Value)} {dV kV doc pm cdv ct : Value} (l : K.lookup f = some ⟨oc, od, .func (PySem.W.fnOf x qual (defArgs st) (defBody st) (defScope st) dV kV doc pm an cdv ct), osl⟩)
    (c : PySem.W.codeIn K cdv qual = true) (k : PySem.W.keepIn K (.ref f) = true) : Df K x qual st f (PySem.W.fnOf x qual (defArgs st) (defBody st) (defScope st) dV kV doc pm an cdv ct) := ⟨⟨oc, od, dV, kV, doc, pm, an, cdv, ct, osl, rfl, l, c⟩, k⟩
/-- THE RULE for a def: what its body's denotation says, it does -/
theorem fn_okD {P : Program} {w : World} {K : PySem.W.Frag} {mg : Str → Option Value} {base : Heap} {x qual : Str} {st : Stmt} {f : Addr} {fd : FuncData} {N ps : List Str} {k : Nat} {den : SDen} (Fn : Df K x qual st f fd) (S : FnScope N ps (defScope st))
    (hb : ∀ (cdv : Value) (A : Around) (outer : List PySem.Env) (s : Shared) (H : Hp) (E : XK), Room k (A.deeper (envOfC qual (defScope st) s.heap.objs.size f cdv)) →
      DSs (cxOf (L2.CX P w) P w K mg base N qual (defScope st) f cdv A outer s H E) (fun cls d _ H' => E cls d H') (defBody st) den) :
    FnOk P w K mg base (L2.CX P w) (k + 1) f fd ps (spD ⟨K, P, w, mg⟩ ps.length (fnden N.length den)) := by
  obtain ⟨oc, od, dV, kV, doc, pm, an, cdv, ct, osl, rfl, lk, hcd⟩ := Fn.ex
  refine fn_of lk hcd S (fun vs H Q E h => h.1) (fun A outer s H vs Q E hr h => ?_)
  refine ⟨rdS ⟨K, P, w, mg⟩ (fun cls d _ H' => E cls d H') den, (hb cdv A outer s H E hr).run, ?_⟩
  obtain ⟨hl, F, os, fs, r, hlo, hh, nd, fr, ef, hf, post⟩ := h
  have hlv : vs.length = os.length := hl.trans hlo.symm
  have hN : ps.length ≤ N.length := by
    have := congrArg List.length S.pre
    rw [List.length_take] at this
    omega
  have hst : L2.start N vs = vs.map some ++ List.replicate (N.length - os.length) none := by rw [← hlv]; rfl
  let c : Ctx := ⟨fun p => if p ∈ fs then none else H p, F, L2.start N vs⟩
  have gin : ∀ p, p ∈ fs → c.G p = none := fun p hp => if_pos hp
  have gout : ∀ p, p ∉ fs → c.G p = H p := fun p hp => if_neg hp
  have R : RE ⟨K, P, w, mg⟩ c F H (L2.start N vs) (env0 os N.length) [] := by
    refine ⟨fun p u z => ?_, Ex.refl _, ef, fun p hp => .inl hp, vs.zip os, fs, ?_, hh, nd, fun p hp => ⟨fr p hp, gin p hp⟩⟩
    · by_cases hp : p ∈ fs
      · rw [gin p hp] at z
        cases z
      · rw [gout p hp] at z
        exact z
    · show Slots _ (L2.start N vs) (L2.start N vs) _
      rw [hst]
      exact slots_start vs os _ _ hlv
  have hσ0 : ∀ (i : Nat) (v : V), vs[i]? = some v → (L2.start N vs)[i]? = some (some v) := fun i v hv => by
    have hi : i < vs.length := (List.getElem?_eq_some_iff.mp hv).1
    unfold L2.start
    rw [List.getElem?_append_left (by rw [List.length_map]; exact hi), List.getElem?_map, hv]
    rfl
  -- what a state at the end says
  have fin : ∀ {F' H' : Hp} {σ' : L2.St} {e' : Env} {ts : List (V × O)} {os' : List O}, RE ⟨K, P, w, mg⟩ c F' H' σ' e' ts → Ex F F' → outs os e' = some os' →
      Ex F' H' ∧ (∀ p u, p ∉ fs → H p = some u → H' p = some u) ∧ (∀ p, F' p ≠ none → F p ≠ none ∨ H p = none ∨ p ∈ fs) ∧ ∃ fs', Held ⟨K, P, w, mg⟩ F' H' (ts ++ vs.zip os') fs' ∧ fs'.Nodup ∧ ∀ p ∈ fs', F' p = none ∧ (p ∈ fs ∨ H p = none) := by
    intro F' H' σ' e' ts os' R' ef' ho
    refine ⟨R'.fh, fun p u hp z => R'.g p u ((gout p hp).trans z), fun p hp => ?_, ?_⟩
    · rcases R'.nw p hp with z | z
      · exact .inl z
      · by_cases hp2 : p ∈ fs
        · exact .inr (.inr hp2)
        · rw [gout p hp2] at z
          exact .inr (.inl z)
    · obtain ⟨hs, ff, h1, h2, h3, h4⟩ := R'.hd
      obtain ⟨f1, f2, e1, h5, h6⟩ := h2.split
      obtain ⟨_, g, hg, hsub⟩ := outs_ok ef' os vs e' σ' (L2.start N vs) hs f2 fs os' h1 h6 hlv hσ0 hh ho
      subst e1
      have sub2 : (f1 ++ g).Sublist (f1 ++ f2) := List.Sublist.append_left hsub f1
      refine ⟨f1 ++ g, Held.join h5 hg, h3.sublist sub2, fun p hp => ?_⟩
      obtain ⟨q1, q2⟩ := h4 p (sub2.subset hp)
      refine ⟨q1, ?_⟩
      by_cases hp2 : p ∈ fs
      · exact .inl hp2
      · rw [gout p hp2] at q2
        exact .inr q2
  refine ⟨c, F, env0 os N.length, [], R, ?_⟩
  unfold fnden at hf
  cases hd : den (env0 os N.length) with
  | none => rw [hd] at hf; cases hf
  | some q =>
    rw [hd] at hf
    refine ⟨q, hd, ?_⟩
    cases q with
    | nx m e1 =>
      obtain ⟨os', ho, e2⟩ := Option.map_eq_some_iff.mp hf
      subst e2
      intro F' H' σ' ef' eh' R'
      obtain ⟨a1, a2, a3, fs', a4, a5, a6⟩ := fin R' ef' ho
      exact post F' H' .non fs' ef' a1 eh' a2 a3 rfl a4 a5 a6
    | rt m e1 rv =>
      cases rv with
      | im d =>
        obtain ⟨os', ho, e2⟩ := Option.map_eq_some_iff.mp hf
        subst e2
        intro F' H' σ' v ef' eh' R'
        obtain ⟨a1, a2, a3, fs', a4, a5, a6⟩ := fin R'.1 ef' ho
        exact post F' H' v fs' ef' a1 eh' a2 a3 R'.2 a4 a5 a6
      | new o =>
        obtain ⟨os', ho, e2⟩ := Option.map_eq_some_iff.mp hf
        subst e2
        intro F' H' σ' v ef' eh' R'
        obtain ⟨a1, a2, a3, fs', a4, a5, a6⟩ := fin (ts := [(v, o)]) R' ef' ho
        exact post F' H' v fs' ef' a1 eh' a2 a3 True.intro a4 a5 a6
      | bor i o =>
        dsimp only at hf
        cases he : e1[i]? with
        | none => rw [he] at hf; cases hf
        | some s =>
          rw [he] at hf
          cases s with
          | none => cases hf
          | some s =>
            obtain ⟨b, o1⟩ := s
            cases b with
            | true => cases hf
            | false =>
              obtain ⟨os', ho, e2⟩ := Option.map_eq_some_iff.mp hf
              subst e2
              intro F' H' σ' v ef' eh' R'
              obtain ⟨R2, hv, b, hb⟩ := R'
              rw [he] at hb
              cases hb
              obtain ⟨a1, a2, a3, fs', a4, a5, a6⟩ := fin (ts := [(v, o)]) (R2.take he hv) ef' ho
              exact post F' H' v fs' ef' a1 eh' a2 a3 True.intro a4 a5 a6
    | bk m e1 => cases hf
    | ct m e1 => cases hf
    | er m e1 x =>
      obtain ⟨os', ho, e2⟩ := Option.map_eq_some_iff.mp hf
      subst e2
      intro F' H' σ' cls d ef' eh' R' hx
      obtain ⟨a1, a2, a3, fs', a4, a5, a6⟩ := fin R' ef' ho
      exact post F' H' cls d fs' ef' a1 eh' a2 a3 hx a4 a5 a6

/-! ### calls -/
section
variable {K : KB} {c : Ctx} {F F' H H' : Hp} {σ : L2.St} {e : Env} {ts : List (V × O)}
/-- behind a call of frozen arguments: a new thing is a temporary -/
theorem RE.called {v : V} {o : O} {fs : List Addr} (R : RE K c F H σ e ts) (ef : Ex F F') (eh : Ex H H') (fh : Ex F' H') (fr : Fresh F H F') (ho : Own K F' H' o v fs) (nd : fs.Nodup) (hn : ∀ p ∈ fs, F' p = none ∧ H p = none) :
    RE K c F' H' σ e ((v, o) :: ts) := by
  have R' := R.grow ef eh fh fr
  obtain ⟨hs0, fs0, h10, h20, h30, h40⟩ := R.hd
  obtain ⟨r1, r2, r3, r4, hs, fs1, h1, h2, h3, h4⟩ := R'
  have th : ∀ p ∈ fs0, H p ≠ none := Held.there h20
  have ff : ∀ p ∈ fs0, F' p = none := fun p hp => by
    cases q : F' p with
    | none => rfl
    | some u =>
      rcases fr p (by rw [q]; simp) with z | z
      · exact absurd (h40 p hp).1 z
      · exact absurd z (th p hp)
  refine ⟨r1, r2, r3, r4, hs0, fs ++ fs0, h10, ⟨fs, fs0, rfl, ho, Held.mono ef (fun q _ w z => eh q w z) h20⟩, List.nodup_append.mpr ⟨nd, h30, fun a ha b hb z => ?_⟩, fun p hp => ?_⟩
  · subst z
    exact th a hb (hn a ha).2
  · rcases List.mem_append.mp hp with z | z
    · exact ⟨(hn p z).1, none_of_ex R.g (hn p z).2⟩
    · exact ⟨ff p z, (h40 p z).2⟩
end
section
variable {X : Cx} {W : WX} {a : Expr} {es : List Expr} {pos p : Pos} {x : Str} {k : Nat} {f C : Addr} {fd : FuncData} {ps : List Str} {fn : FDen} {ds : Den (List D)}
end
end DL

/-! DLF: what the operators are over data. -/
namespace DL
open PySem PySem.Spec PyProof.Rows L2 Evl

theorem ok_of_val {K : KB} {F H : Hp} {d : D} {v : V} {Q : VK} (fh : Ex F H) (hr : Rep K F d v) (k : ∀ F' H' v, Ex F F' → Ex H H' → Ex F' H' → Fresh F H F' → Rep K F' d v → Q v H') : Q v H := k F H v (Ex.refl _) (Ex.refl _) fh Fresh.refl hr
theorem ok_of_int {K : KB} {F H : Hp} {i : Int} {Q : VK} (fh : Ex F H) (k : ∀ F' H' v, Ex F F' → Ex H H' → Ex F' H' → Fresh F H F' → Rep K F' (.int i) v → Q v H') : Q (.int i) H := ok_of_val fh (d := .int i) rfl k
theorem ok_of_str {K : KB} {F H : Hp} {i : Str} {Q : VK} (fh : Ex F H) (k : ∀ F' H' v, Ex F F' → Ex H H' → Ex F' H' → Fresh F H F' → Rep K F' (.str i) v → Q v H') : Q (.str i) H := ok_of_val fh (d := .str i) rfl k
/-- a result that is a new object, frozen -/
theorem ok_of_new {K : KB} {F H : Hp} {d : D} {Q : VK} {o : HO} {p : Addr} (fh : Ex F H) (hp : H p = none) (hr : Rep K (upd F p o) d (.ref p)) (k : ∀ F' H' v, Ex F F' → Ex H H' → Ex F' H' → Fresh F H F' → Rep K F' d v → Q v H') : Q (.ref p) (upd H p o) :=
  k (upd F p o) (upd H p o) (.ref p) (Ex.new (none_of_ex fh hp)) (Ex.new hp) (fun a u z => by
    by_cases q : a = p
    · subst q
      rw [upd_same] at z ⊢
      exact z
    · rw [upd_ne q] at z ⊢
      exact fh a u z) (fun a z => by
    by_cases q : a = p
    · subst q
      exact .inr hp
    · rw [upd_ne q] at z
      exact .inl z) hr

/-! ### arithmetic -/
@[simp] def addD : D → D → Option D
  | .int i, .int j => some (.int (i + j))
  | .str x, .str y => if x.length + y.length ≤ sizeLine then some (.str (x ++ y)) else none
  | .tup xs, .tup ys => if xs.length + ys.length ≤ sizeLine then some (.tup (xs ++ ys)) else none
  | _, _ => none
theorem reps_nil {K : KB} {F : Hp} {ds : List D} (h : Reps K F ds []) : ds = [] := by
  have := h.length
  cases ds with
  | nil => rfl
  | cons _ _ => simp at this
section
variable {X : Cx}
def rAdd3 (K : KB) : R2 := fun x y H Q => rI0 (fun i j => V.int (i + j)) x y H Q ∨ (∃ i j, x = .str i ∧ y = .str j ∧ i.length + j.length ≤ sizeLine ∧ Q (.str (i ++ j)) H) ∨ rCatA K x y H Q
theorem op_add3 : OpR X (binaryOp .Add) (rAdd3 X.B) := op_add.or (op_add_str.or op_catA)
theorem cat_ok {K : KB} {F H : Hp} {xs ys : List V} {ds es : List D} {a b : Addr} (fh : Ex F H) (ha : SqT K F a xs) (hb : SqT K F b ys) (h1 : Reps K F ds xs) (h2 : Reps K F es ys) (hz : ds.length + es.length ≤ sizeLine)
    (Q : VK) (k : ∀ F' H' v, Ex F F' → Ex H H' → Ex F' H' → Fresh F H F' → Rep K F' (.tup (ds ++ es)) v → Q v H') : rCatA K (.ref a) (.ref b) H Q := by
  refine ⟨a, b, xs, ys, rfl, rfl, ex_t fh ha, ex_t fh hb, by rw [← h1.length, ← h2.length]; exact hz, fun e => ?_, fun _ e => ?_, fun _ _ p hp => ?_⟩
  · subst e
    have e2 := reps_nil h1
    subst e2
    exact ok_of_val fh (d := .tup ([] ++ es)) ⟨b, ys, rfl, hb, h2⟩ k
  · subst e
    have e2 := reps_nil h2
    subst e2
    refine ok_of_val fh (d := .tup (ds ++ [])) ?_ k
    rw [List.append_nil]
    exact ⟨a, xs, rfl, ha, h1⟩
  · exact ok_of_new fh hp (d := .tup (ds ++ es)) ⟨p, xs ++ ys, rfl, SqT.of upd_same, Reps.mono (Ex.new (none_of_ex fh hp)) _ _ (h1.append h2)⟩ k
theorem ok_add {K : KB} : OpOk K (rAdd3 K) addD := by
  intro F H x y dx dy d fh h1 h2 hg Q k
  unfold addD at hg
  split at hg
  · cases hg
    exact .inl ⟨_, _, h1, h2, ok_of_int fh k⟩
  · split at hg
    · rename_i hz
      cases hg
      exact .inr (.inl ⟨_, _, h1, h2, hz, ok_of_str fh k⟩)
    · cases hg
  · split at hg
    · rename_i hz
      cases hg
      obtain ⟨a, xs, rfl, ha, hr⟩ := h1
      obtain ⟨b, ys, rfl, hb, hr2⟩ := h2
      exact .inr (.inr (cat_ok fh ha hb hr hr2 hz Q k))
    · cases hg
  · cases hg
@[simp] def subD : D → D → Option D
  | .int i, .int j => some (.int (i - j))
  | _, _ => none
theorem ok_sub {K : KB} : OpOk K (rI0 fun i j => V.int (i - j)) subD := by
  intro F H x y dx dy d fh h1 h2 hg Q k
  unfold subD at hg
  split at hg
  · cases hg
    exact ⟨_, _, h1, h2, ok_of_int fh k⟩
  · cases hg
def mulOk (i j : Int) : Bool := decide (i.natAbs < 2 ^ 64) || decide (j.natAbs < 2 ^ 64) || decide (i.natAbs.log2 + j.natAbs.log2 < 1000000)
@[simp] def mulD : D → D → Option D
  | .int i, .int j => if mulOk i j = true then some (.int (i * j)) else none
  | _, _ => none
def rMul2 : R2 := fun x y H Q => rI CMul (fun i j => V.int (i * j)) x y H Q ∨ rI CMulW (fun i j => V.int (i * j)) x y H Q
theorem op_mul2 : OpR X (binaryOp .Mult) rMul2 := op_mul.or op_mulW
theorem ok_mul {K : KB} : OpOk K rMul2 mulD := by
  intro F H x y dx dy d fh h1 h2 hg Q k
  unfold mulD at hg
  split at hg
  · split at hg
    · rename_i i j hz
      cases hg
      unfold mulOk at hz
      rw [Bool.or_eq_true, Bool.or_eq_true, decide_eq_true_eq, decide_eq_true_eq, decide_eq_true_eq] at hz
      rcases hz with (hz | hz) | hz
      · exact .inl ⟨i, j, h1, h2, .inl (by omega), ok_of_int fh k⟩
      · exact .inl ⟨i, j, h1, h2, .inr (by omega), ok_of_int fh k⟩
      · exact .inr ⟨i, j, h1, h2, hz, ok_of_int fh k⟩
    · cases hg
  · cases hg
def CDivX (i j : Int) : Prop := j ≠ 0 ∧ j.natAbs.log2 < 9000
theorem op_fdivX : OpR X (binaryOp .FloorDiv) (rI CDivX fun i j => .int (i.fdiv j)) := opI fun _ _ _ _ _ _ _ hc q => floordiv_int hc.1 q (.inl (PyProof.noPylong_of_log2 hc.2))
@[simp] def divD : D → D → Option D
  | .int i, .int j => if j ≠ 0 ∧ j.natAbs.log2 < 9000 then some (.int (i.fdiv j)) else none
  | _, _ => none
theorem ok_div {K : KB} : OpOk K (rI CDivX fun i j => .int (i.fdiv j)) divD := by
  intro F H x y dx dy d fh h1 h2 hg Q k
  unfold divD at hg
  split at hg
  · split at hg
    · rename_i i j hz
      cases hg
      exact ⟨i, j, h1, h2, hz, ok_of_int fh k⟩
    · cases hg
  · cases hg
@[simp] def modD : D → D → Option D
  | .int i, .int j => if j ≠ 0 then some (.int (i.fmod j)) else none
  | _, _ => none
theorem ok_mod {K : KB} : OpOk K (rI (fun _ j => j ≠ 0) fun i j => .int (i.fmod j)) modD := by
  intro F H x y dx dy d fh h1 h2 hg Q k
  unfold modD at hg
  split at hg
  · split at hg
    · rename_i i j hz
      cases hg
      exact ⟨i, j, h1, h2, hz, ok_of_int fh k⟩
    · cases hg
  · cases hg
@[simp] def powD : D → D → Option D
  | .int i, .int j => if 0 ≤ j ∧ j ≤ 1000000 ∧ i.natAbs < 2 ^ 64 then some (.int (i ^ j.toNat)) else none
  | _, _ => none
theorem ok_pow {K : KB} : OpOk K (rI CPow fun i j => .int (i ^ j.toNat)) powD := by
  intro F H x y dx dy d fh h1 h2 hg Q k
  unfold powD at hg
  split at hg
  · split at hg
    · rename_i i j hz
      cases hg
      exact ⟨i, j, h1, h2, hz, ok_of_int fh k⟩
    · cases hg
  · cases hg
variable {W : WX} {a b : Expr} {pos : Pos} {da db : Den D}
theorem di_add (ha : DI X W a da) (hb : DI X W b db) : DI X W (.BinOp a .Add b pos) (dbin da db addD) := di_op op_add3 ok_add ha hb
theorem di_sub (ha : DI X W a da) (hb : DI X W b db) : DI X W (.BinOp a .Sub b pos) (dbin da db subD) := di_op op_sub ok_sub ha hb
theorem di_mul (ha : DI X W a da) (hb : DI X W b db) : DI X W (.BinOp a .Mult b pos) (dbin da db mulD) := di_op op_mul2 ok_mul ha hb
theorem di_div (ha : DI X W a da) (hb : DI X W b db) : DI X W (.BinOp a .FloorDiv b pos) (dbin da db divD) := di_op op_fdivX ok_div ha hb
theorem di_mod (ha : DI X W a da) (hb : DI X W b db) : DI X W (.BinOp a .Mod b pos) (dbin da db modD) := di_op op_modN ok_mod ha hb
theorem di_pow (ha : DI X W a da) (hb : DI X W b db) : DI X W (.BinOp a .Pow b pos) (dbin da db powD) := di_op op_pow ok_pow ha hb
@[simp] def negD : D → Option D
  | .int i => some (.int (-i))
  | _ => none
theorem di_neg (ha : DI X W a da) : DI X W (.UnaryOp .USub a pos) (dbind da fun x => dlift (negD x)) := ⟨pe_weak (pe_un un_neg ha.run) fun σ H Q q => by
  obtain ⟨c, F, e, ts, R, q⟩ := q
  refine ⟨c, F, e, ts, R, q.bind (rel := relI) fun F1 H1 e1 x v ef hr q1 => ?_⟩
  obtain ⟨d, hd, k⟩ := q1.lift
  cases x <;> cases hd
  exact ⟨_, hr.2, k F1 H1 _ (Ex.refl _) (Ex.refl _) ⟨hr.1, rfl⟩⟩⟩

/-! ### comparisons -/
@[simp] def ltD : D → D → Option Bool
  | .int i, .int j => some (decide (i < j))
  | .str x, .str y => some (decide (x.cps.toList < y.cps.toList))
  | _, _ => none
@[simp] def leD : D → D → Option Bool
  | .int i, .int j => some (decide (i ≤ j))
  | _, _ => none
@[simp] def gtD : D → D → Option Bool
  | .int i, .int j => some (decide (j < i))
  | _, _ => none
@[simp] def geD : D → D → Option Bool
  | .int i, .int j => some (decide (j ≤ i))
  | _, _ => none
theorem ok_gt {K : KB} : CmpOk K (rI0 fun i j => V.bl (decide (j < i))) gtD := by
  intro H x y dx dy b h1 h2 hg Q q
  unfold gtD at hg
  split at hg
  · cases hg
    exact ⟨_, _, h1, h2, q⟩
  · cases hg
theorem ok_ge {K : KB} : CmpOk K (rI0 fun i j => V.bl (decide (j ≤ i))) geD := by
  intro H x y dx dy b h1 h2 hg Q q
  unfold geD at hg
  split at hg
  · cases hg
    exact ⟨_, _, h1, h2, q⟩
  · cases hg
theorem ok_eq {K : KB} : CmpOk K (rEqD K) eqD := by
  intro H x y dx dy b h1 h2 hg Q q
  unfold eqD at hg
  split at hg
  · rename_i p1 p2 e1 e2
    split at hg
    · rename_i hs
      cases hg
      rw [Bool.and_eq_true] at hs
      exact ⟨p1, p2, Rep.dp _ _ _ h1 e1, Rep.dp _ _ _ h2 e2, hs.1, hs.2, q⟩
    · cases hg
  · cases hg
@[simp] def neD (a b : D) : Option Bool := (eqD a b).map (!·)
theorem ok_ne {K : KB} : CmpOk K (rNeD K) neD := by
  intro H x y dx dy b h1 h2 hg Q q
  obtain ⟨b', hb, rfl⟩ := Option.map_eq_some_iff.mp hg
  unfold eqD at hb
  split at hb
  · rename_i p1 p2 e1 e2
    split at hb
    · rename_i hs
      cases hb
      rw [Bool.and_eq_true] at hs
      exact ⟨p1, p2, Rep.dp _ _ _ h1 e1, Rep.dp _ _ _ h2 e2, hs.1, hs.2, q⟩
    · cases hb
  · cases hb
/-- x in y -/
def flatD : D → Bool
  | .non => true
  | .bl _ => true
  | .int _ => true
  | .str _ => true
  | _ => false
def toV : D → V
  | .bl b => .bl b
  | .int i => .int i
  | .str x => .str x
  | _ => .non
theorem rep_flat {K : KB} {F : Hp} {d : D} {v : V} (h : Rep K F d v) (f : flatD d = true) : v = toV d ∧ flatV v = true := by
  cases d <;> first | (refine ⟨h, ?_⟩; rw [show v = _ from h]; rfl) | cases f
theorem reps_flat {K : KB} {F : Hp} : ∀ {ds : List D} {xs : List V}, Reps K F ds xs → ds.all flatD = true → xs = ds.map toV ∧ xs.all flatV = true
  | [], xs, h, _ => by rw [show xs = [] from h]; exact ⟨rfl, rfl⟩
  | d :: ds, xs, h, f => by
    obtain ⟨x, r, rfl, h1, h2⟩ := h
    rw [List.all_cons, Bool.and_eq_true] at f
    obtain ⟨e1, f1⟩ := rep_flat h1 f.1
    obtain ⟨e2, f2⟩ := reps_flat h2 f.2
    exact ⟨by rw [List.map_cons, ← e1, ← e2], by rw [List.all_cons, f1, f2]; rfl⟩
def inD : D → D → Option Bool
  | d, .lst ds => match d.py, D.pys ds with
    | some p, some ps => if SeqAt.shaped p && SeqAt.shaped (.list ps) then some (ps.any fun z => PyData.eqv z p) else none
    | _, _ => none
  | d, .scr ds => match d.py, D.pys ds with
    | some p, some ps => if SeqAt.shaped p && SeqAt.shaped (.list ps) then some (ps.any fun z => PyData.eqv z p) else none
    | _, _ => none
  | d, .tup ds => if flatD d && ds.all flatD then some (inV (toV d) (ds.map toV)) else none
  | d, .wtp ds => if flatD d && ds.all flatD then some (inV (toV d) (ds.map toV)) else none
  | .str i, .str j => some (!(Builtin.Str.occurrences j i 0 j.length 1).isEmpty)
  | _, _ => none
def rIn3 (K : KB) : R2 := fun x y H Q => rInD K x y H Q ∨ rIn K false x y H Q ∨ (∃ i j, x = .str i ∧ y = .str j ∧ Q (.bl (!(Builtin.Str.occurrences j i 0 j.length 1).isEmpty)) H)
def rNotIn3 (K : KB) : R2 := fun x y H Q => rNotInD K x y H Q ∨ rIn K true x y H Q ∨ (∃ i j, x = .str i ∧ y = .str j ∧ Q (.bl (!(!(Builtin.Str.occurrences j i 0 j.length 1).isEmpty))) H)
theorem op_notin3 (hu : X.A.units + 65 < cLine) : OpR X (compareOp .NotIn) (rNotIn3 X.B) := (op_notInD hu).or (op_notIn_seq.or op_notin_str)
@[simp] def notinD (a b : D) : Option Bool := (inD a b).map (!·)
theorem ok_notin {K : KB} : CmpOk K (rNotIn3 K) notinD := by
  intro H x y dx dy b h1 h2 hg' Q q
  obtain ⟨b', hg, rfl⟩ := Option.map_eq_some_iff.mp hg'
  unfold inD at hg
  split at hg
  · obtain ⟨a, xs, rfl, ha, hr⟩ := id h2
    split at hg
    · rename_i p1 p2 e1 e2
      split at hg
      · rename_i hs
        cases hg
        rw [Bool.and_eq_true] at hs
        exact .inl ⟨p1, p2, Rep.dp _ _ _ h1 e1, .lst (SqL.of ha) (Reps.dp _ _ _ hr e2), hs.1, hs.2, q⟩
      · cases hg
    · cases hg
  · obtain ⟨a, xs, rfl, ha, hr⟩ := id h2
    split at hg
    · rename_i p1 p2 e1 e2
      split at hg
      · rename_i hs
        cases hg
        rw [Bool.and_eq_true] at hs
        exact .inl ⟨p1, p2, Rep.dp _ _ _ h1 e1, .lst ha (Reps.dp _ _ _ hr e2), hs.1, hs.2, q⟩
      · cases hg
    · cases hg
  · obtain ⟨a, xs, rfl, ha, hr⟩ := id h2
    split at hg
    · rename_i hs
      cases hg
      rw [Bool.and_eq_true] at hs
      obtain ⟨e1, f1⟩ := rep_flat h1 hs.1
      obtain ⟨e2, f2⟩ := reps_flat hr hs.2
      refine .inr (.inl ⟨a, xs, rfl, .inr ha, f1, f2, ?_⟩)
      rw [if_pos rfl, e1, e2]
      exact q
    · cases hg
  · obtain ⟨a, xs, rfl, ha, hr⟩ := id h2
    split at hg
    · rename_i hs
      cases hg
      rw [Bool.and_eq_true] at hs
      obtain ⟨e1, f1⟩ := rep_flat h1 hs.1
      obtain ⟨e2, f2⟩ := reps_flat hr hs.2
      refine .inr (.inl ⟨a, xs, rfl, .inr ha, f1, f2, ?_⟩)
      rw [if_pos rfl, e1, e2]
      exact q
    · cases hg
  · cases hg
    exact .inr (.inr ⟨_, _, h1, h2, q⟩)
  · cases hg
@[simp] def isNoneD (d : D) : Bool := match d with
  | .non => true
  | _ => false
theorem rep_none {K : KB} {F : Hp} {d : D} {v : V} (h : Rep K F d v) (hd : d ≠ .any) : decide (v = .non) = isNoneD d := by
  cases d
  case any => exact absurd rfl hd
  case non => rw [show v = V.non from h]; rfl
  case bl b => rw [show v = V.bl b from h]; rfl
  case int b => rw [show v = V.int b from h]; rfl
  case str b => rw [show v = V.str b from h]; rfl
  case ty b => rw [show v = V.ty b from h]; rfl
  case adr b => rw [show v = V.ref b from h]; rfl
  all_goals
    obtain ⟨a, h⟩ := h
    first
      | (obtain ⟨e, _⟩ := h; rw [e]; rfl)
      | (obtain ⟨xs, e, _⟩ := h; rw [e]; rfl)
      | (obtain ⟨xs, ys, e, _⟩ := h; rw [e]; rfl)
@[simp] def noneD : D → Option D
  | .any => none
  | d => some (.bl (isNoneD d))
@[simp] def notNoneD : D → Option D
  | .any => none
  | d => some (.bl (!isNoneD d))
variable {j : Nat} {p2 : Pos}
theorem di_isN (ha : DV X W a da) : DI X W (.Compare a [.Is] [.Constant .none j p2] pos) (dbind da fun x => dlift (noneD x)) := ⟨pe_weak (pe_cmp (pc_isN ha.run)) fun σ H Q q => by
  obtain ⟨c, F, e, ts, R, q⟩ := q
  refine ⟨c, F, e, ts, R, q.bind (rel := relV) fun F1 H1 e1 x v ef hr q1 => ?_⟩
  obtain ⟨d, hd, k⟩ := q1.lift
  have hx : x ≠ .any := fun z => by subst z; cases hd
  rw [rep_none hr.2 hx]
  have hd' : d = .bl (isNoneD x) := by cases x <;> first | exact absurd rfl hx | (cases hd; rfl)
  subst hd'
  exact k F1 H1 _ (Ex.refl _) (Ex.refl _) ⟨hr.1, rfl⟩⟩
end
end DL

/-! DLG: what is owned, lent to a def; loops over what is owned. -/
namespace DL
open PySem PySem.Spec PyProof.Rows L2 Evl

section
variable {K : KB} {c : Ctx} {F F' H H' : Hp} {σ : L2.St} {e : Env} {ts : List (V × O)}
/-- a slot's holding, out and in again -/
theorem Slots.out : ∀ (e : Env) (σ σ0 : L2.St) (hs : List (V × O)) (i : Nat) {b : Bool} {o : O}, Slots e σ σ0 hs → e[i]? = some (some (b, o)) →
    ∃ v A B, hs = A ++ (v, o) :: B ∧ σ[i]? = some (some v) ∧ (b = true → σ0[i]? = some (some v)) ∧ Slots (e.set i none) σ σ0 (A ++ B)
  | [], σ, σ0, hs, i, b, o, h, he => by simp at he
  | none :: e, σ, σ0, hs, 0, b, o, h, he => by simp at he
  | some q :: e, σ, σ0, hs, 0, b, o, h, he => by
    obtain ⟨v, r, hr, e1, hb, e2, h1⟩ := h
    have eq : q = (b, o) := by simpa using he
    subst eq
    subst e1
    refine ⟨v, [], hr, e2, rfl, fun z => ?_, some v, r, rfl, h1⟩
    have z' := hb z
    cases σ0 with
    | nil => simp at z'
    | cons y ys => simpa using z'
  | none :: e, σ, σ0, hs, i + 1, b, o, h, he => by
    obtain ⟨x, r, e1, h1⟩ := h
    subst e1
    obtain ⟨v, A, B, k1, k2, k3, k4⟩ := Slots.out e r σ0.tail hs i h1 (by simpa using he)
    refine ⟨v, A, B, k1, by simpa using k2, fun z => ?_, x, r, rfl, k4⟩
    have z' := k3 z
    cases σ0 with
    | nil => simp at z'
    | cons y ys => simpa using z'
  | some q :: e, σ, σ0, hs, i + 1, b, o, h, he => by
    obtain ⟨v0, r, hr, e1, hb, e2, h1⟩ := h
    subst e1
    obtain ⟨v, A, B, k1, k2, k3, k4⟩ := Slots.out e r σ0.tail hr i h1 (by simpa using he)
    refine ⟨v, (v0, q.2) :: A, B, by rw [e2, k1]; rfl, by simpa using k2, fun z => ?_, v0, r, A ++ B, rfl, hb, rfl, k4⟩
    have z' := k3 z
    cases σ0 with
    | nil => simp at z'
    | cons y ys => simpa using z'
theorem Slots.inn : ∀ (e : Env) (σ σ0 : L2.St) (hs : List (V × O)) (i : Nat) {b : Bool} {v : V}, Slots e σ σ0 hs → e[i]? = some none → σ[i]? = some (some v) → (b = true → σ0[i]? = some (some v)) →
    ∃ A B, hs = A ++ B ∧ ∀ o, Slots (e.set i (some (b, o))) σ σ0 (A ++ (v, o) :: B)
  | [], σ, σ0, hs, i, b, v, h, he, hv, hb => by simp at he
  | none :: e, σ, σ0, hs, 0, b, v, h, he, hv, hb => by
    obtain ⟨x, r, e1, h1⟩ := h
    subst e1
    have ex : x = some v := by simpa using hv
    subst ex
    exact ⟨[], hs, rfl, fun o => ⟨v, r, hs, rfl, fun z => by
      have z' := hb z
      cases σ0 with
      | nil => simp at z'
      | cons y ys => simpa using z', rfl, h1⟩⟩
  | some q :: e, σ, σ0, hs, 0, b, v, h, he, hv, hb => by simp at he
  | none :: e, σ, σ0, hs, i + 1, b, v, h, he, hv, hb => by
    obtain ⟨x, r, e1, h1⟩ := h
    subst e1
    obtain ⟨A, B, k1, k2⟩ := Slots.inn e r σ0.tail hs i h1 (by simpa using he) (by simpa using hv) (fun z => by
      have z' := hb z
      cases σ0 with
      | nil => simp at z'
      | cons y ys => simpa using z')
    exact ⟨A, B, k1, fun o => ⟨x, r, rfl, k2 o⟩⟩
  | some q :: e, σ, σ0, hs, i + 1, b, v, h, he, hv, hb => by
    obtain ⟨v0, r, hr, e1, hb0, e2, h1⟩ := h
    subst e1
    obtain ⟨A, B, k1, k2⟩ := Slots.inn e r σ0.tail hr i h1 (by simpa using he) (by simpa using hv) (fun z => by
      have z' := hb z
      cases σ0 with
      | nil => simp at z'
      | cons y ys => simpa using z')
    exact ⟨(v0, q.2) :: A, B, by rw [e2, k1]; rfl, fun o => ⟨v0, r, _, rfl, hb0, rfl, k2 o⟩⟩
theorem perm_out {α : Type} (a b c d : List α) : (b ++ (a ++ (c ++ d))).Perm (a ++ (c ++ (b ++ d))) := by
  rw [show b ++ (a ++ (c ++ d)) = (b ++ (a ++ c)) ++ d by simp, show a ++ (c ++ (b ++ d)) = ((a ++ c) ++ b) ++ d by simp]
  exact List.Perm.append_right d List.perm_append_comm
theorem RE.out {i : Nat} {b : Bool} {o : O} (R : RE K c F H σ e ts) (h : e[i]? = some (some (b, o))) : ∃ v, σ[i]? = some (some v) ∧ (b = true → c.σ0[i]? = some (some v)) ∧ RE K c F H σ (e.set i none) ((v, o) :: ts) := by
  obtain ⟨hs, fs, h1, h2, h3, h4⟩ := R.hd
  obtain ⟨v, A, B, k1, k2, k3, k4⟩ := Slots.out e σ c.σ0 hs i h1 h
  subst k1
  obtain ⟨f1, f2, e1, h5, h6⟩ := h2.split
  obtain ⟨f3, f4, e2, h7, h8⟩ := h6.split
  obtain ⟨f5, f6, e3, h9, h10⟩ := h8
  subst e3
  subst e2
  subst e1
  have hp := perm_out f1 f5 f3 f6
  refine ⟨v, k2, k3, R.g, R.f0, R.fh, R.nw, A ++ B, f5 ++ (f1 ++ (f3 ++ f6)), k4, ⟨f5, _, rfl, h9, Held.join h5 (Held.join h7 h10)⟩, hp.nodup_iff.mpr h3, fun p hp2 => h4 p (hp.mem_iff.mp hp2)⟩
theorem RE.inn {i : Nat} {b : Bool} {o : O} {v : V} (R : RE K c F H σ e ((v, o) :: ts)) (h : e[i]? = some none) (hv : σ[i]? = some (some v)) (hb : b = true → c.σ0[i]? = some (some v)) : RE K c F H σ (e.set i (some (b, o))) ts := by
  obtain ⟨hs, fs, h1, h2, h3, h4⟩ := R.hd
  obtain ⟨A, B, k1, k2⟩ := Slots.inn e σ c.σ0 hs i h1 h hv hb
  subst k1
  obtain ⟨f5, fr, e1, h9, hr⟩ := h2
  obtain ⟨f1, f2, e2, h5, h6⟩ := Held.split (A := ts) (B := A ++ B) hr
  obtain ⟨f3, f6, e3, h7, h10⟩ := h6.split
  subst e3
  subst e2
  subst e1
  have hp := perm_out f1 f5 f3 f6
  refine ⟨R.g, R.f0, R.fh, R.nw, _, f1 ++ (f3 ++ (f5 ++ f6)), k2 o, Held.join h5 (Held.join h7 ⟨f5, f6, rfl, h9, h10⟩), hp.nodup_iff.mp h3, fun p hp2 => h4 p (hp.mem_iff.mpr hp2)⟩
/-- a slot is emptied -/
theorem RE.clear {i : Nat} {b : Bool} {o : O} (R : RE K c F H σ e ts) (h : e[i]? = some (some (b, o))) : RE K c F H σ (e.set i none) ts := by
  obtain ⟨v, _, _, R'⟩ := R.out h
  exact R'.drop
theorem held_ims : ∀ {os : List O} {vs : List V} {fs : List Addr}, (∀ o ∈ os, ∃ d, o = O.im d) → Held K F H (vs.zip os) fs → fs = []
  | [], vs, fs, k, h => by cases vs <;> exact h
  | o :: os, [], fs, k, h => h
  | o :: os, v :: vs, fs, k, h => by
    obtain ⟨d, rfl⟩ := k o List.mem_cons_self
    obtain ⟨f1, f2, e1, h1, h2⟩ := h
    rw [e1, h1.1, held_ims (fun o ho => k o (List.mem_cons_of_mem _ ho)) h2]
    rfl
/-- what a def is handed stands ahead of the temporaries -/
theorem RE.callee {n : Nat} {f : FDen} {vs : List V} {os : List O} {r : FRes} {Q : VK} {E : XK} (R : RE K c F H σ e (vs.zip os ++ ts)) (hv : vs.length = n) (ho : os.length = n) (hf : f os = some r)
    (post : match r with
      | .ok m os' rv => ∀ F' H' v, Ex F F' → (m = false ∨ (∀ o ∈ os, ∃ d, o = O.im d) → Ex H H') → RE K c F' H' σ e (frvs rv v ++ vs.zip os' ++ ts) → FRep K F' rv v → Q v H'
      | .err m os' x => ∀ F' H' cls d, Ex F F' → (m = false ∨ (∀ o ∈ os, ∃ d, o = O.im d) → Ex H H') → RE K c F' H' σ e (vs.zip os' ++ ts) → XRel K F' H' x cls d → E cls d H') : spD K n f vs H Q E := by
  obtain ⟨hs, fs, h1, h2, h3, h4⟩ := R.hd
  rw [List.append_assoc] at h2
  obtain ⟨f1, f2, e1, h5, h6⟩ := h2.split
  subst e1
  obtain ⟨n1, n2, n3⟩ := List.nodup_append.mp h3
  have th2 : ∀ p ∈ f2, H p ≠ none := Held.there h6
  have none1 : (∀ o ∈ os, ∃ d, o = O.im d) → f1 = [] := fun k => held_ims k h5
  have whole : ∀ {H' : Hp} {m : Bool}, (m = false → Ex H H') → (∀ p u, p ∉ f1 → H p = some u → H' p = some u) → (m = false ∨ (∀ o ∈ os, ∃ d, o = O.im d) → Ex H H') := fun eh keep z => by
    rcases z with z | z
    · exact eh z
    · have e0 := none1 z
      exact fun p u q => keep p u (by rw [e0]; exact fun w => nomatch w) q
  have core : ∀ {F' H' : Hp} {L : List (V × O)} {fs' : List Addr}, Ex F F' → Ex F' H' → (∀ p u, p ∉ f1 → H p = some u → H' p = some u) → (∀ p, F' p ≠ none → F p ≠ none ∨ H p = none ∨ p ∈ f1) → Held K F' H' L fs' → fs'.Nodup → (∀ p ∈ fs', F' p = none ∧ (p ∈ f1 ∨ H p = none)) →
      RE K c F' H' σ e (L ++ ts) := by
    intro F' H' L fs' ef fh keep nw hh nd hfs
    have out2 : ∀ p ∈ f2, p ∉ f1 := fun p hp hp1 => n3 p hp1 p hp rfl
    refine ⟨fun p u z => keep p u (fun hp => ?_) (R.g p u z), R.f0.trans ef, fh, fun p hp => ?_, hs, fs' ++ f2, h1, ?_, List.nodup_append.mpr ⟨nd, n2, fun a ha b hb z => ?_⟩, fun p hp => ?_⟩
    · rw [(h4 p (List.mem_append_left _ hp)).2] at z
      cases z
    · rcases nw p hp with z | z | z
      · exact R.nw p z
      · exact .inr (none_of_ex R.g z)
      · exact .inr (h4 p (List.mem_append_left _ z)).2
    · rw [List.append_assoc]
      exact Held.join hh (Held.mono ef (fun p hp u z => keep p u (out2 p hp) z) h6)
    · subst z
      rcases (hfs a ha).2 with z | z
      · exact out2 a hb z
      · exact th2 a hb z
    · rcases List.mem_append.mp hp with z | z
      · refine ⟨(hfs p z).1, ?_⟩
        rcases (hfs p z).2 with w | w
        · exact (h4 p (List.mem_append_left _ w)).2
        · exact none_of_ex R.g w
      · obtain ⟨q1, q2⟩ := h4 p (List.mem_append_right _ z)
        refine ⟨?_, q2⟩
        cases q : F' p with
        | none => rfl
        | some u =>
          rcases nw p (by rw [q]; simp) with w | w | w
          · exact absurd q1 w
          · exact absurd w (th2 p z)
          · exact absurd w (out2 p z)
  refine ⟨hv, F, os, f1, r, ho, h5, n1, fun p hp => (h4 p (List.mem_append_left _ hp)).1, R.fh, hf, ?_⟩
  cases r with
  | ok m os' rv =>
    intro F' H' v fs' ef fh eh keep nw hrep hh nd hfs
    exact post F' H' v ef (whole eh keep) (core ef fh keep nw hh nd hfs) hrep
  | err m os' x =>
    intro F' H' cls d fs' ef fh eh keep nw hx hh nd hfs
    exact post F' H' cls d ef (whole eh keep) (core ef fh keep nw hh nd hfs) hx
end

/-! ### arguments: frozen ones, lent slots -/
inductive AR where
  | im (d : D) | bor (i : Nat)
def ARel (K : KB) (F : Hp) (σ : L2.St) : List AR → List V → Prop
  | [], vs => vs = []
  | .im d :: as, vs => ∃ v r, vs = v :: r ∧ Rep K F d v ∧ ARel K F σ as r
  | .bor i :: as, vs => ∃ v r, vs = v :: r ∧ σ[i]? = some (some v) ∧ ARel K F σ as r
def relAR : Rel (List AR) (List V) := fun K c F H σ e ts as vs => RE K c F H σ e ts ∧ ARel K F σ as vs
theorem ARel.mono {K : KB} {F F' : Hp} {σ : L2.St} (ef : Ex F F') : ∀ {as : List AR} {vs : List V}, ARel K F σ as vs → ARel K F' σ as vs
  | [], vs, h => h
  | .im d :: as, vs, h => by
    obtain ⟨v, r, e1, h1, h2⟩ := h
    exact ⟨v, r, e1, Rep.mono ef _ _ h1, ARel.mono ef h2⟩
  | .bor i :: as, vs, h => by
    obtain ⟨v, r, e1, h1, h2⟩ := h
    exact ⟨v, r, e1, h1, ARel.mono ef h2⟩
theorem ARel.length {K : KB} {F : Hp} {σ : L2.St} : ∀ {as : List AR} {vs : List V}, ARel K F σ as vs → vs.length = as.length
  | [], vs, h => by rw [show vs = [] from h]; rfl
  | .im d :: as, vs, h => by
    obtain ⟨v, r, rfl, h1, h2⟩ := h
    rw [List.length_cons, List.length_cons, ARel.length h2]
  | .bor i :: as, vs, h => by
    obtain ⟨v, r, rfl, h1, h2⟩ := h
    rw [List.length_cons, List.length_cons, ARel.length h2]
/-- what the def is handed; the slots that are lent are empty meanwhile -/
def lend : List AR → Env → Option (List O × List (Option (Nat × Bool)) × Env)
  | [], e => some ([], [], e)
  | .im d :: as, e => (lend as e).map fun r => (.im d :: r.1, none :: r.2.1, r.2.2)
  | .bor i :: as, e => match lend as e with
    | some r => match r.2.2[i]? with
      | some (some (b, o)) => some (o :: r.1, some (i, b) :: r.2.1, r.2.2.set i none)
      | _ => none
    | none => none
def unlend : List (Option (Nat × Bool)) → List O → Env → Option Env
  | [], [], e => some e
  | none :: ks, _ :: os, e => unlend ks os e
  | some (i, b) :: ks, o :: os, e => match e[i]? with
    | some none => unlend ks os (e.set i (some (b, o)))
    | _ => none
  | _, _, _ => none
section
variable {K : KB} {c : Ctx} {F F' H H' : Hp} {σ : L2.St}
/-- the slots that are lent stand for what is at hand -/
def Lent (c : Ctx) (σ : L2.St) : List (Option (Nat × Bool)) → List V → Prop
  | [], vs => vs = []
  | none :: ks, vs => ∃ v r, vs = v :: r ∧ Lent c σ ks r
  | some (i, b) :: ks, vs => ∃ v r, vs = v :: r ∧ σ[i]? = some (some v) ∧ (b = true → c.σ0[i]? = some (some v)) ∧ Lent c σ ks r
theorem RE.lend {ts : List (V × O)} : ∀ {as : List AR} {vs : List V} {e : Env} {os : List O} {ks : List (Option (Nat × Bool))} {e' : Env}, RE K c F H σ e ts → ARel K F σ as vs → DL.lend as e = some (os, ks, e') →
    RE K c F H σ e' (vs.zip os ++ ts) ∧ os.length = as.length ∧ Lent c σ ks vs
  | [], vs, e, os, ks, e', R, h, hl => by
    cases hl
    rw [show vs = [] from h]
    exact ⟨R, rfl, rfl⟩
  | .im d :: as, vs, e, os, ks, e', R, h, hl => by
    obtain ⟨v, r, rfl, h1, h2⟩ := h
    obtain ⟨q, hq, e1⟩ := Option.map_eq_some_iff.mp hl
    obtain ⟨os1, ks1, e2⟩ := q
    cases e1
    obtain ⟨R1, l1, k1⟩ := RE.lend R h2 hq
    refine ⟨?_, by rw [List.length_cons, List.length_cons, l1], v, r, rfl, k1⟩
    obtain ⟨hs, fs, a1, a2, a3, a4⟩ := R1.hd
    exact ⟨R1.g, R1.f0, R1.fh, R1.nw, hs, fs, a1, ⟨[], fs, rfl, ⟨rfl, h1⟩, a2⟩, a3, a4⟩
  | .bor i :: as, vs, e, os, ks, e', R, h, hl => by
    obtain ⟨v, r, rfl, h1, h2⟩ := h
    unfold DL.lend at hl
    cases hq : DL.lend as e with
    | none => rw [hq] at hl; cases hl
    | some q =>
      rw [hq] at hl
      obtain ⟨os1, ks1, e2⟩ := q
      obtain ⟨R1, l1, k1⟩ := RE.lend R h2 hq
      dsimp only at hl
      cases hi : e2[i]? with
      | none => rw [hi] at hl; cases hl
      | some s =>
        rw [hi] at hl
        cases s with
        | none => cases hl
        | some s =>
          obtain ⟨b, o⟩ := s
          cases hl
          obtain ⟨w, hw, hb, R2⟩ := R1.out hi
          rw [h1] at hw
          cases hw
          exact ⟨R2, by rw [List.length_cons, List.length_cons, l1], v, r, rfl, h1, hb, k1⟩
theorem RE.unlend {ts : List (V × O)} : ∀ {ks : List (Option (Nat × Bool))} {vs : List V} {os : List O} {e e' : Env}, RE K c F H σ e (vs.zip os ++ ts) → Lent c σ ks vs → DL.unlend ks os e = some e' → RE K c F H σ e' ts
  | [], vs, [], e, e', R, h, hu => by
    cases hu
    rw [show vs = [] from h] at R
    exact R
  | none :: ks, vs, o :: os, e, e', R, h, hu => by
    obtain ⟨v, r, rfl, h1⟩ := h
    exact RE.unlend (RE.drop (t := (v, o)) R) h1 hu
  | some (i, b) :: ks, vs, o :: os, e, e', R, h, hu => by
    obtain ⟨v, r, rfl, h1, hb, h2⟩ := h
    unfold DL.unlend at hu
    cases hi : e[i]? with
    | none => rw [hi] at hu; cases hu
    | some s =>
      rw [hi] at hu
      cases s with
      | some s => cases hu
      | none => exact RE.unlend (RE.inn (v := v) (o := o) R hi h1 hb) h2 hu
  | [], vs, o :: os, e, e', R, h, hu => by cases hu
  | none :: ks, vs, [], e, e', R, h, hu => by cases hu
  | some (i, b) :: ks, vs, [], e, e', R, h, hu => by cases hu
/-- temporaries change places -/
theorem RE.perm {e : Env} {ts ts' : List (V × O)} (R : RE K c F H σ e ts) (p : ts.Perm ts') : RE K c F H σ e ts' := by
  obtain ⟨hs, fs, h1, h2, h3, h4⟩ := R.hd
  have key : ∀ {A B : List (V × O)}, A.Perm B → ∀ {fs : List Addr}, Held K F H A fs → ∃ fs', Held K F H B fs' ∧ fs.Perm fs' := by
    intro A B p
    induction p with
    | nil => intro fs h; exact ⟨fs, h, .refl _⟩
    | cons x _ ih =>
      intro fs h
      obtain ⟨f1, f2, e1, a1, a2⟩ := h
      obtain ⟨f3, b1, b2⟩ := ih a2
      exact ⟨f1 ++ f3, ⟨f1, f3, rfl, a1, b1⟩, by rw [e1]; exact List.Perm.append_left f1 b2⟩
    | swap x y l =>
      intro fs h
      obtain ⟨f1, f2, e1, a1, f3, f4, e2, a2, a3⟩ := h
      refine ⟨f3 ++ (f1 ++ f4), ⟨f3, _, rfl, a2, f1, f4, rfl, a1, a3⟩, ?_⟩
      rw [e1, e2, ← List.append_assoc, ← List.append_assoc]
      exact List.Perm.append_right f4 List.perm_append_comm
    | trans _ _ ih1 ih2 =>
      intro fs h
      obtain ⟨f1, a1, a2⟩ := ih1 h
      obtain ⟨f2, b1, b2⟩ := ih2 a1
      exact ⟨f2, b1, a2.trans b2⟩
  obtain ⟨fs', k1, k2⟩ := key (List.Perm.append_right hs p) h2
  exact ⟨R.g, R.f0, R.fh, R.nw, hs, fs', h1, k1, k2.nodup_iff.mp h3, fun p hp => h4 p (k2.mem_iff.mpr hp)⟩
end
/-- frozen all -/
@[simp] def allIm : List O → Bool
  | [] => true
  | .im _ :: os => allIm os
  | _ => false
theorem allIm_ok : ∀ {os : List O}, allIm os = true → ∀ o ∈ os, ∃ d, o = O.im d
  | [], _, o, ho => by cases ho
  | .im d :: os, h, o, ho => by
    rcases List.mem_cons.mp ho with e | ho
    · exact ⟨d, e⟩
    · exact allIm_ok (os := os) h o ho
  | .lst _ :: _, h, _, _ => by cases h
  | .tup _ :: _, h, _, _ => by cases h
  | .dct _ _ :: _, h, _, _ => by cases h
  | .ins _ _ _ :: _, h, _, _ => by cases h
/-- a called def, of any arguments -/
def dfnA (n : Nat) (f : FDen) (as : List AR) : Den Rv := fun e => if as.length = n then (match lend as e with
  | some (os, ks, e1) => match f os with
    | some (.ok m os' (.im d)) => (unlend ks os' e1).map fun e2 => .ok (m && !allIm os) e2 (.im d)
    | some (.ok m os' (.new o)) => (unlend ks os' e1).map fun e2 => .ok (m && !allIm os) e2 (.new o)
    | some (.err m os' x) => (unlend ks os' e1).map fun e2 => .err (m && !allIm os) e2 x
    | none => none
  | none => none) else none
theorem and_allIm {m : Bool} {os : List O} (h : (m && !allIm os) = false) : m = false ∨ ∀ o ∈ os, ∃ d, o = O.im d := by
  cases m with
  | false => exact .inl rfl
  | true =>
    refine .inr (allIm_ok ?_)
    cases q : allIm os with
    | true => rfl
    | false => rw [q] at h; cases h
theorem spD_ofA {K : KB} {c : Ctx} {F H : Hp} {σ : L2.St} {e : Env} {ts : List (V × O)} {W : WX} {n : Nat} {f : FDen} {as : List AR} {vs : List V} {Q : VK} (R : RE K c F H σ e ts) (hr : ARel K F σ as vs) (q : At relR K W (dfnA n f as) c F σ e ts H Q) :
    spD K n f vs H Q (fun cls d H' => W cls d σ H') := by
  obtain ⟨r, hr2, post⟩ := q
  unfold dfnA at hr2
  split at hr2
  · rename_i hn
    cases hl : lend as e with
    | none => rw [hl] at hr2; cases hr2
    | some q =>
      rw [hl] at hr2
      obtain ⟨os, ks, e1⟩ := q
      obtain ⟨R1, l1, k1⟩ := R.lend hr hl
      dsimp only at hr2
      cases hf : f os with
      | none => rw [hf] at hr2; cases hr2
      | some fr =>
        rw [hf] at hr2
        refine R1.callee (hr.length.trans hn) (l1.trans hn) hf ?_
        cases fr with
        | ok m os' rv =>
          intro F' H' v ef eh R2 hrep
          cases rv with
          | im d =>
            obtain ⟨e2, hu, e3⟩ := Option.map_eq_some_iff.mp hr2
            subst e3
            exact post F' H' v ef (fun z => eh (and_allIm z)) ⟨RE.unlend R2 k1 hu, hrep⟩
          | new o =>
            obtain ⟨e2, hu, e3⟩ := Option.map_eq_some_iff.mp hr2
            subst e3
            have R3 : RE K c F' H' σ e1 (vs.zip os' ++ ((v, o) :: ts)) := R2.perm (by
              show ((v, o) :: (vs.zip os' ++ ts)).Perm _
              exact (List.perm_middle).symm)
            exact post F' H' v ef (fun z => eh (and_allIm z)) (RE.unlend R3 k1 hu)
        | err m os' x =>
          intro F' H' cls d ef eh R2 hx
          obtain ⟨e2, hu, e3⟩ := Option.map_eq_some_iff.mp hr2
          subst e3
          exact post F' H' cls d ef (fun z => eh (and_allIm z)) (RE.unlend R2 k1 hu) hx
  · cases hr2
section
variable {X : Cx} {W : WX} {a : Expr} {es : List Expr} {pos p : Pos} {x : Str} {k : Nat} {f C : Addr} {fd : FuncData} {ps : List Str} {fn : FDen}
structure DAR (X : Cx) (W : WX) (es : List Expr) (den : Den (List AR)) : Prop where
  run : PA X es (rd relAR X.B W den)
theorem dar_nil : DAR X W [] (dpure []) := ⟨pa_weak pa_nil fun σ H Q q => by
  obtain ⟨c, F, e, ts, R, q⟩ := q
  exact At.pure q F H [] (Ex.refl _) (Ex.refl _) ⟨R, rfl⟩⟩
def darg (r : Rv) : AR := match r with
  | .im d => .im d
  | .new o => .im o.flat
  | .bor i _ => .bor i
def darcons (d : Den Rv) (ds : Den (List AR)) : Den (List AR) := dbind d fun x => dbind ds fun xs => dpure (darg x :: xs)
theorem dar_cons {da : Den Rv} {ds : Den (List AR)} (h : DE X W a da) (hr : DAR X W es ds) (hs : starEach (a :: es) X.env = (false, eval a X.env) :: starEach es X.env := by rfl) : DAR X W (a :: es) (darcons da ds) :=
  ⟨pa_weak (pa_cons h.run hr.run hs) fun σ H Q q => by
    obtain ⟨c, F, e, ts, R, q⟩ := q
    refine ⟨c, F, e, ts, R, q.bind (rel := relR) fun F1 H1 e1 x v ef hr q1 => ?_⟩
    cases x with
    | im d =>
      refine ⟨c, F1, e1, ts, hr.1, q1.bind (rel := relAR) fun F2 H2 e2 y u ef2 hr2 q2 => ?_⟩
      exact At.pure q2 F2 H2 (v :: u) (Ex.refl _) (Ex.refl _) ⟨hr2.1, v, u, rfl, Rep.mono ef2 _ _ hr.2, hr2.2⟩
    | new o =>
      obtain ⟨F3, e3, R3, h3⟩ := RE.freezeT hr
      have q1' : At relAR X.B W (dbind ds fun xs => dpure (darg (.new o) :: xs)) c F3 σ e1 ts H1 Q := by
        obtain ⟨r, hr4, post⟩ := q1
        refine ⟨r, hr4, ?_⟩
        cases r with
        | ok m e5 a => exact fun F' H' v' ef' eh hrel => post F' H' v' (e3.trans ef') eh hrel
        | err m e5 x => exact fun F' H' cls d ef' eh R hx => post F' H' cls d (e3.trans ef') eh R hx
      refine ⟨c, F3, e1, ts, R3, q1'.bind (rel := relAR) fun F2 H2 e2 y u ef2 hr2 q2 => ?_⟩
      exact At.pure q2 F2 H2 (v :: u) (Ex.refl _) (Ex.refl _) ⟨hr2.1, v, u, rfl, Rep.mono ef2 _ _ h3, hr2.2⟩
    | bor i o =>
      refine ⟨c, F1, e1, ts, hr.1, q1.bind (rel := relAR) fun F2 H2 e2 y u ef2 hr2 q2 => ?_⟩
      exact At.pure q2 F2 H2 (v :: u) (Ex.refl _) (Ex.refl _) ⟨hr2.1, v, u, rfl, hr.2.1, hr2.2⟩⟩
/-- f(a, ..) -/
theorem de_call {n : Nat} {ds : Den (List AR)} (Fn : FnOk X.prog X.w X.B X.mg X.base (L2.CX X.prog X.w) k f fd ps (spD X.B n fn)) (tk : Takes X W) (hr : Room k X.A) (hg : Gl X x) (hm : X.mg x = some (.ref f)) (hk : PySem.W.keepIn X.B (.ref f) = true) (hb : Binds X.B fd ps [])
    (ha : DAR X W (a :: es) ds) (hdb : (x == ("__debug__" : Str)) = false := by decide) (he : starEach (a :: es) X.env = (false, eval a X.env) :: starEach es X.env := by rfl) (hpl : (backTo pos (starEach es X.env)).any (·.1) = false := by rfl) :
    DE X W (.Call (.Name x p) (a :: es) [] pos) (dbind ds fun as => dfnA n fn as) := ⟨pe_weak (pe_callS Fn hr hg hm hk hb (fun σ => passAt tk σ) ha.run hdb he hpl) fun σ H Q q => by
  obtain ⟨c, F, e, ts, R, q⟩ := q
  refine ⟨c, F, e, ts, R, q.bind (rel := relAR) fun F1 H1 e1 dl v ef hr1 q1 => ?_⟩
  exact spD_ofA hr1.1 hr1.2 q1⟩
end
end DL

/-! DLH: loops. -/
namespace DL
open PySem PySem.Spec PyProof.Rows L2 Evl

section
variable {X : Cx} {tg : Expr}
/-- what is walked may be a list or a tuple -/
def iSeq (K : KB) (tl : TE) : TI := fun σ H R => tl σ H fun x H1 => ∃ a, x = .ref a ∧ (((∃ xs, SqL K H1 a xs) ∧ R (Itl K a) H1) ∨ ((∃ xs, SqT K H1 a xs) ∧ R (Itt K a) H1))
theorem pi_seq {l : Expr} {tl : TE} (hl : PE X l tl) : PI X tg l (iSeq X.B tl) := by
  refine ⟨fun pins s σ H R I h => ?_⟩
  refine thn (hl.run pins s σ H _ I h) fun v s1 ⟨x, H1, I1, r1, q1⟩ => ?_
  obtain ⟨a, e, q⟩ := q1
  subst e
  cases r1
  rcases q with ⟨⟨xs, hq⟩, q⟩ | ⟨⟨xs, hq⟩, q⟩
  · obtain ⟨its, rv, p, hz⟩ := I1.list hq
    refine wpAny_pyIter_list p.isList ?_
    refine ⟨s1.heap.objs.size, [s1.heap.objs.size], _, _, H1, rfl, I1.kept (t' := s1.toks) fun b o e => Heap.get?_push_of_some _ e, turn_list a _, ⟨_, Heap.get?_push_size _ rfl, rfl, rfl⟩, fun b hb => ?_, q⟩
    have e : b = s1.heap.objs.size := by simpa using hb
    subst e
    exact I1.fpOk (Nat.le_refl _) (I1.hok.fresh (Nat.le_refl _))
  · obtain ⟨its, rv, p, hz⟩ := I1.tuple hq
    refine wpAny_pyIter_tuple (show s1.heap.IsTuple a its.toArray from p) ?_
    refine ⟨s1.heap.objs.size, [s1.heap.objs.size], _, _, H1, rfl, I1.kept (t' := s1.toks) fun b o e => Heap.get?_push_of_some _ e, turn_tuple a _, ⟨_, Heap.get?_push_size _ rfl, rfl, rfl⟩, fun b hb => ?_, q⟩
    have e : b = s1.heap.objs.size := by simpa using hb
    subst e
    exact I1.fpOk (Nat.le_refl _) (I1.hok.fresh (Nat.le_refl _))
end
/-- a loop's turn, then the rest -/
def sturn (r : Option SRes) (rest : SDen) : Option SRes := match r with
  | some (.nx m e) => SRes.more m (rest e)
  | some (.ct m e) => SRes.more m (rest e)
  | some (.bk m e) => some (.nx m e)
  | some (.rt m e v) => some (.rt m e v)
  | some (.er m e x) => some (.er m e x)
  | none => none
def sloop (bind : D → Env → Option Env) (body : SDen) : List D → SDen
  | [] => snext
  | d :: ds => fun e => match bind d e with
    | some e1 => sturn (body e1) (sloop bind body ds)
    | none => none
section
variable {K : KB} {W : WX} {c : Ctx} {F H : Hp} {σ : L2.St} {e : Env} {ts : List (V × O)}
theorem AtS.turn {b rest : SDen} {D : Ends} {N : L2.St → Hp → Prop} (h : ∃ r, sturn (b e) rest = some r ∧ PostS K W D c F ts H r)
    (k : ∀ F1 H1 σ1 e1, Ex F F1 → RE K c F1 H1 σ1 e1 ts → AtS K W rest D c F1 σ1 e1 ts H1 → N σ1 H1) : AtS K W b { D with nx := N, ct := N, bk := D.nx } c F σ e ts H := by
  obtain ⟨r, hr, post⟩ := h
  cases hd : b e with
  | none => rw [hd] at hr; cases hr
  | some r1 =>
    rw [hd] at hr
    refine ⟨r1, hd, ?_⟩
    cases r1 with
    | nx m e1 => exact fun F1 H1 σ1 ef eh R => k F1 H1 σ1 e1 ef R (AtS.more hr ef eh post)
    | ct m e1 => exact fun F1 H1 σ1 ef eh R => k F1 H1 σ1 e1 ef R (AtS.more hr ef eh post)
    | bk m e1 => cases hr; exact post
    | rt m e1 v => cases hr; exact post
    | er m e1 x => cases hr; exact post
/-- what an iterator walks: P says what stands there -/
structure Src (J : It) (P : List V → Hp → Prop) : Prop where
  go : ∀ i xs H, P xs H → i < xs.length → J.go i H
  stop : ∀ i xs H, P xs H → xs.length ≤ i → J.stop i H
  yld : ∀ i xs H x H', P xs H → i < xs.length → J.yld i H x H' → H' = H ∧ xs[i]? = some x
theorem src_list {a : Addr} : Src (Itl K a) (fun xs H => SqL K H a xs) where
  go := fun i xs H h hi => ⟨xs, xs[i], h, List.getElem?_eq_getElem hi⟩
  stop := fun i xs H h hi => ⟨xs, h, hi⟩
  yld := fun i xs H x H' h _ hy => ⟨hy.1, hy.2 xs h⟩
theorem src_tup {a : Addr} : Src (Itt K a) (fun xs H => SqT K H a xs) where
  go := fun i xs H h hi => ⟨xs, xs[i], h, List.getElem?_eq_getElem hi⟩
  stop := fun i xs H h hi => ⟨xs, h, hi⟩
  yld := fun i xs H x H' h _ hy => ⟨hy.1, hy.2 xs h⟩
/-- the loop -/
theorem loop_ok {X : Cx} {J : It} {P : List V → Hp → Prop} (S : Src J P) {bind : D → Env → Option Env} {sl : List Nat} {body : SDen} {ds : List D} {D0 : Ends} (hP : ∀ F' H' σ' e', Ex F F' → RE X.B c F' H' σ' e' ts → ∃ xs, P xs H' ∧ Reps X.B F' ds xs) (R : RE X.B c F H σ e ts)
    (h : AtS X.B W (sloop bind body ds) D0 c F σ e ts H) :
    ∃ Wv : Nat → Nat → L2.St → Hp → Prop, (∃ m, Wv 0 m σ H) ∧ ∀ i m σ H, Wv i m σ H → (J.stop i H ∧ D0.nx σ H) ∨ (J.go i H ∧ ∃ N : L2.St → Hp → Prop, (∀ σ' H', N σ' H' → ∃ m', m' < m ∧ Wv (i + 1) m' σ' H') ∧
      ∀ x H', J.yld i H x H' → tgR X.B bind sl x σ H' fun σ2 H2 => rdS X.B W body { D0 with nx := N, ct := N, bk := D0.nx } σ2 H2) := by
  refine ⟨fun i m σ H => ∃ F1 e1, Ex F F1 ∧ RE X.B c F1 H σ e1 ts ∧ AtS X.B W (sloop bind body (ds.drop i)) D0 c F1 σ e1 ts H ∧ m + i = ds.length, ⟨ds.length, F, e, Ex.refl _, R, h, by omega⟩, ?_⟩
  rintro i m σ1 H1 ⟨F1, e1, ef, R1, h1, hm⟩
  obtain ⟨xs, p1, hr⟩ := hP F1 H1 σ1 e1 ef R1
  have hlen := hr.length
  by_cases hi : i < xs.length
  · refine .inr ⟨S.go i xs H1 p1 hi, fun σ' H' => ∃ F2 e2, Ex F F2 ∧ RE X.B c F2 H' σ' e2 ts ∧ AtS X.B W (sloop bind body (ds.drop (i + 1))) D0 c F2 σ' e2 ts H', ?_, ?_⟩
    · rintro σ' H' ⟨F2, e2, ef2, R2, h2⟩
      exact ⟨m - 1, by omega, F2, e2, ef2, R2, h2, by omega⟩
    · intro x H' hy
      obtain ⟨rfl, hx⟩ := S.yld i xs H1 x H' p1 hi hy
      obtain ⟨d, hd, hrep⟩ := hr.getV i hx
      have hdrop : ds.drop i = d :: ds.drop (i + 1) := by
        have hl : i < ds.length := by omega
        rw [List.drop_eq_getElem_cons hl]
        have := (List.getElem?_eq_some_iff.mp hd).2
        rw [this]
      rw [hdrop] at h1
      obtain ⟨r, hr2, post⟩ := h1
      unfold sloop at hr2
      cases hb : bind d e1 with
      | none => rw [hb] at hr2; cases hr2
      | some e2 =>
        rw [hb] at hr2
        refine ⟨c, F1, e1, ts, d, e2, R1, hrep, hb, fun σ' R' _ => ⟨c, F1, e2, ts, R', ?_⟩⟩
        exact AtS.turn ⟨r, hr2, post⟩ fun F3 H3 σ3 e3 ef3 R3 h3 => ⟨F3, e3, ef.trans ef3, R3, h3⟩
  · refine .inl ⟨S.stop i xs H1 p1 (by omega), ?_⟩
    have hdrop : ds.drop i = [] := List.drop_eq_nil_of_le (by omega)
    rw [hdrop] at h1
    exact AtS.next h1 R1
/-- what is pinned -/
def pins (e : Env) : List Bool := e.map fun s => match s with
  | some (true, _) => true
  | _ => false
theorem pins_get {e e' : Env} (h : pins e = pins e') {j : Nat} {o : O} (hj : e[j]? = some (some (true, o))) : ∃ o', e'[j]? = some (some (true, o')) := by
  have h1 : (pins e)[j]? = some true := by unfold pins; rw [List.getElem?_map, hj]; rfl
  rw [h] at h1
  unfold pins at h1
  rw [List.getElem?_map] at h1
  cases q : e'[j]? with
  | none => rw [q] at h1; cases h1
  | some s =>
    rw [q] at h1
    cases s with
    | none => cases h1
    | some s =>
      obtain ⟨b, o'⟩ := s
      cases b with
      | false => cases h1
      | true => exact ⟨o', rfl⟩
theorem Slots.repin : ∀ {e : Env} {σ τ τ' : L2.St} {hs : List (V × O)}, Slots e σ τ hs → (∀ (j : Nat) (v : V) (o : O), e[j]? = some (some (true, o)) → σ[j]? = some (some v) → τ'[j]? = some (some v)) → Slots e σ τ' hs
  | [], σ, τ, τ', hs, h, k => h
  | none :: e, σ, τ, τ', hs, h, k => by
    obtain ⟨x, r, e1, h1⟩ := h
    subst e1
    refine ⟨x, r, rfl, Slots.repin h1 fun j v o hj hv => ?_⟩
    have := k (j + 1) v o (by simpa using hj) (by simpa using hv)
    cases τ' with
    | nil => simp at this
    | cons y ys => simpa using this
  | some q :: e, σ, τ, τ', hs, h, k => by
    obtain ⟨v, r, hr, e1, hb, e2, h1⟩ := h
    subst e1
    refine ⟨v, r, hr, rfl, fun z => ?_, e2, Slots.repin h1 fun j w o hj hv => ?_⟩
    · have := k 0 v q.2 (by rw [show q = (q.1, q.2) from rfl, z]; rfl) rfl
      cases τ' with
      | nil => simp at this
      | cons y ys => simpa using this
    · have := k (j + 1) w o (by simpa using hj) (by simpa using hv)
      cases τ' with
      | nil => simp at this
      | cons y ys => simpa using this
theorem RE.repin {τ' : L2.St} (R : RE K c F H σ e ts) (k : ∀ (j : Nat) (v : V) (o : O), e[j]? = some (some (true, o)) → σ[j]? = some (some v) → τ'[j]? = some (some v)) : RE K { c with σ0 := τ' } F H σ e ts := by
  obtain ⟨hs, fs, h1, h2, h3, h4⟩ := R.hd
  exact ⟨R.g, R.f0, R.fh, R.nw, hs, fs, h1.repin k, h2, h3, h4⟩
/-- a slot lent to what follows: nothing is known of it, it is not stored to -/
def slend (i : Nat) (d : SDen) : SDen := fun e => match e[i]? with
  | some (some (b, o)) =>
    let e0 := e.set i (some (true, .im .any))
    let back : Env → Option Env := fun e' => if pins e' = pins e0 then (match e'[i]? with
      | some (some (true, _)) => some (e'.set i (some (b, o)))
      | _ => none) else none
    match d e0 with
    | some (.nx m e') => (back e').map fun e2 => SRes.nx m e2
    | some (.rt m e' (.im x)) => (back e').map fun e2 => SRes.rt m e2 (.im x)
    | some (.rt m e' (.new x)) => (back e').map fun e2 => SRes.rt m e2 (.new x)
    | some (.rt m e' (.bor j x)) => if j = i then none else (back e').map fun e2 => SRes.rt m e2 (.bor j x)
    | some (.er m e' x) => (back e').map fun e2 => SRes.er m e2 x
    | _ => none
  | _ => none
theorem AtS.lend {i : Nat} {d : SDen} {D0 : Ends} (h : AtS K W (slend i d) D0 c F σ e ts H) (R : RE K c F H σ e ts) : ∃ b o v, e[i]? = some (some (b, o)) ∧ σ[i]? = some (some v) ∧
    RE K { c with σ0 := σ } F H σ (e.set i (some (true, .im .any))) ((v, o) :: ts) ∧ AtS K W d D0 { c with σ0 := σ } F σ (e.set i (some (true, .im .any))) ((v, o) :: ts) H := by
  obtain ⟨r, hr, post⟩ := h
  unfold slend at hr
  cases he : e[i]? with
  | none => rw [he] at hr; cases hr
  | some s =>
    rw [he] at hr
    cases s with
    | none => cases hr
    | some s =>
      obtain ⟨b, o⟩ := s
      obtain ⟨v, hv, hb, R1⟩ := R.out he
      have hi : i < e.length := (List.getElem?_eq_some_iff.mp he).1
      have hnone : (e.set i none)[i]? = some none := List.getElem?_set_self hi
      have R2 : RE K { c with σ0 := σ } F H σ (e.set i none) ((v, o) :: ts) := R1.repin fun j w o' _ hw => hw
      have R3 : RE K { c with σ0 := σ } F H σ (e.set i (some (true, .im .any))) ((v, o) :: ts) := by
        have R4 : RE K { c with σ0 := σ } F H σ (e.set i none) ((v, .im .any) :: (v, o) :: ts) := by
          obtain ⟨hs, fs, a1, a2, a3, a4⟩ := R2.hd
          exact ⟨R2.g, R2.f0, R2.fh, R2.nw, hs, fs, a1, ⟨[], fs, rfl, ⟨rfl, True.intro⟩, a2⟩, a3, a4⟩
        have := R4.inn (b := true) hnone hv (fun _ => hv)
        rwa [List.set_set] at this
      refine ⟨b, o, v, rfl, hv, R3, ?_⟩
      dsimp only at hr
      -- back again
      have back : ∀ {F' H' : Hp} {σ' : L2.St} {e' e2 : Env} {tt : List (V × O)}, (if pins e' = pins (e.set i (some (true, .im .any))) then (match e'[i]? with
            | some (some (true, _)) => some (e'.set i (some (b, o)))
            | _ => none) else none) = some e2 → RE K { c with σ0 := σ } F' H' σ' e' ((v, o) :: tt) → RE K c F' H' σ' e2 tt ∧ ∀ j, j ≠ i → e2[j]? = e'[j]? := by
        intro F' H' σ' e' e2 tt hbk R'
        split at hbk
        · rename_i hp
          split at hbk
          · rename_i o1 hi1
            cases hbk
            obtain ⟨w, hw, hw2, R5⟩ := R'.out hi1
            have ew : w = v := by
              have := hw2 rfl
              dsimp only at this
              rw [hv] at this
              cases this
              rfl
            subst ew
            have R6 : RE K { c with σ0 := σ } F' H' σ' (e'.set i none) ((w, o) :: tt) := R5.drop
            have R7 : RE K c F' H' σ' (e'.set i none) ((w, o) :: tt) := by
              refine R6.repin (τ' := c.σ0) fun j u o' hj hu => ?_
              have hji : j ≠ i := fun z => by
                subst z
                rw [List.getElem?_set_self (List.getElem?_eq_some_iff.mp hi1).1] at hj
                cases hj
              rw [List.getElem?_set_ne (Ne.symm hji)] at hj
              obtain ⟨o2, ho2⟩ := pins_get hp hj
              have ho3 := ho2
              rw [List.getElem?_set_ne (Ne.symm hji)] at ho3
              obtain ⟨y, hy, hy2, _⟩ := R.out ho3
              obtain ⟨z, hz, hz2, _⟩ := R'.out hj
              have e1 := hz2 rfl
              dsimp only at e1
              rw [hu] at hz
              cases hz
              rw [hy] at e1
              cases e1
              exact hy2 rfl
            have hn2 : (e'.set i none)[i]? = some none := List.getElem?_set_self (List.getElem?_eq_some_iff.mp hi1).1
            have := R7.inn (b := b) hn2 hw hb
            rw [List.set_set] at this
            exact ⟨this, fun j hj => List.getElem?_set_ne (Ne.symm hj)⟩
          · cases hbk
        · cases hbk
      cases hd : d (e.set i (some (true, .im .any))) with
      | none => rw [hd] at hr; cases hr
      | some r1 =>
        rw [hd] at hr
        refine ⟨r1, hd, ?_⟩
        cases r1 with
        | nx m e1 =>
          obtain ⟨e2, hb2, e3⟩ := Option.map_eq_some_iff.mp hr
          subst e3
          exact fun F' H' σ' ef eh R' => post F' H' σ' ef eh (back hb2 R').1
        | rt m e1 rv =>
          cases rv with
          | im x =>
            obtain ⟨e2, hb2, e3⟩ := Option.map_eq_some_iff.mp hr
            subst e3
            exact fun F' H' σ' w ef eh R' => post F' H' σ' w ef eh ⟨(back hb2 R'.1).1, R'.2⟩
          | new x =>
            obtain ⟨e2, hb2, e3⟩ := Option.map_eq_some_iff.mp hr
            subst e3
            exact fun F' H' σ' w ef eh R' => post F' H' σ' w ef eh (back hb2 (RE.perm (ts' := (v, o) :: (w, x) :: ts) R' (List.Perm.swap _ _ _))).1
          | bor j x =>
            dsimp only at hr
            split at hr
            · cases hr
            · rename_i hj
              obtain ⟨e2, hb2, e3⟩ := Option.map_eq_some_iff.mp hr
              subst e3
              exact fun F' H' σ' w ef eh R' => post F' H' σ' w ef eh ⟨(back hb2 R'.1).1, R'.2.1, by
                rw [(back hb2 R'.1).2 j hj]
                exact R'.2.2⟩
        | bk m e1 => cases hr
        | ct m e1 => cases hr
        | er m e1 x =>
          obtain ⟨e2, hb2, e3⟩ := Option.map_eq_some_iff.mp hr
          subst e3
          exact fun F' H' σ' cls d ef eh R' hx => post F' H' σ' cls d ef eh (back hb2 R').1 hx
end
/-- the items of what is frozen; of what is owned, where all are frozen -/
@[simp] def seqD : D → Option (List D)
  | .tup ds => some ds
  | .wtp ds => some ds
  | .lst ds => some ds
  | .scr ds => some ds
  | _ => none
@[simp] def ims : List O → Option (List D)
  | [] => some []
  | .im d :: os => (ims os).map fun ds => d :: ds
  | _ :: _ => none
theorem ims_eq : ∀ {os : List O} {ds : List D}, ims os = some ds → os = ds.map O.im
  | [], ds, h => by cases h; rfl
  | .im d :: os, ds, h => by
    obtain ⟨r, hr, e⟩ := Option.map_eq_some_iff.mp h
    subst e
    rw [List.map_cons, ← ims_eq hr]
  | .lst _ :: _, ds, h => by cases h
  | .tup _ :: _, ds, h => by cases h
  | .dct _ _ :: _, ds, h => by cases h
  | .ins _ _ _ :: _, ds, h => by cases h
@[simp] def seqO : O → Option (List D)
  | .lst os => ims os
  | .tup os => ims os
  | _ => none
def sfor (it : Den Rv) (bind : D → Env → Option Env) (body : SDen) : SDen := sbind it fun rv e => match rv with
  | .im d => match seqD d with
    | some ds => sloop bind body ds e
    | none => none
  | .new o => match seqD o.flat with
    | some ds => sloop bind body ds e
    | none => none
  | .bor i _ => match e[i]? with
    | some (some (_, o)) => match seqO o with
      | some ds => slend i (sloop bind body ds) e
      | none => none
    | _ => none
section
variable {X : Cx} {W : WX} {tg iter : Expr} {body : List Stmt} {pos : Pos} {it : Den Rv} {bind : D → Env → Option Env} {sl : List Nat} {db : SDen}
theorem seq_src {K : KB} {F : Hp} {d : D} {ds : List D} {v : V} (h : Rep K F d v) (hs : seqD d = some ds) : ∃ a xs, v = .ref a ∧ Reps K F ds xs ∧ ((SqL K F a xs) ∨ (SqT K F a xs)) := by
  cases d with
  | tup es => cases hs; obtain ⟨a, xs, e1, h1, h2⟩ := h; exact ⟨a, xs, e1, h2, .inr (h1)⟩
  | wtp es => cases hs; obtain ⟨a, xs, e1, h1, h2⟩ := h; exact ⟨a, xs, e1, h2, .inr h1⟩
  | lst es => cases hs; obtain ⟨a, xs, e1, h1, h2⟩ := h; exact ⟨a, xs, e1, h2, .inl (SqL.of h1)⟩
  | scr es => cases hs; obtain ⟨a, xs, e1, h1, h2⟩ := h; exact ⟨a, xs, e1, h2, .inl h1⟩
  | _ => cases hs
theorem ds_for (hp : PassesOwn (model X.prog X.w) X.A X.env X.xe) (hc : X.calm = true) (hi : DE X W iter it) (hg : DG X tg bind sl) (hb : DSs X W body db) (hs : ∀ x, foldedSetIterable iter X.env x = pure x := by intro _; rfl) :
    DS X W (.For tg iter body [] pos) (sfor it bind db) := ⟨ps_weak (ps_for hp hc (pi_seq hi.run) hg.run hb.run hs) fun D0 σ H q => by
  obtain ⟨c, F, e, ts, R, q⟩ := q
  refine ⟨c, F, e, ts, R, q.sbind (rel := relR) fun F1 H1 e1 rv v ef hr q1 => ?_⟩
  -- frozen
  have fz : ∀ {F2 : Hp} {d : D} {ds : List D}, RE X.B c F2 H1 σ e1 ts → Rep X.B F2 d v → seqD d = some ds → AtS X.B W (sloop bind db ds) D0 c F2 σ e1 ts H1 → ∃ a, v = .ref a ∧
      (((∃ xs, SqL X.B H1 a xs) ∧ (fun J H1 => ∃ Wv : Nat → Nat → L2.St → Hp → Prop, (∃ m, Wv 0 m σ H1) ∧ ∀ i m σ H, Wv i m σ H → (J.stop i H ∧ D0.nx σ H) ∨ (J.go i H ∧ ∃ N : L2.St → Hp → Prop, (∀ σ' H', N σ' H' → ∃ m', m' < m ∧ Wv (i + 1) m' σ' H') ∧
        ∀ x H', J.yld i H x H' → tgR X.B bind sl x σ H' fun σ2 H2 => rdS X.B W db { D0 with nx := N, ct := N, bk := D0.nx } σ2 H2)) (Itl X.B a) H1) ∨
      ((∃ xs, SqT X.B H1 a xs) ∧ (fun J H1 => ∃ Wv : Nat → Nat → L2.St → Hp → Prop, (∃ m, Wv 0 m σ H1) ∧ ∀ i m σ H, Wv i m σ H → (J.stop i H ∧ D0.nx σ H) ∨ (J.go i H ∧ ∃ N : L2.St → Hp → Prop, (∀ σ' H', N σ' H' → ∃ m', m' < m ∧ Wv (i + 1) m' σ' H') ∧
        ∀ x H', J.yld i H x H' → tgR X.B bind sl x σ H' fun σ2 H2 => rdS X.B W db { D0 with nx := N, ct := N, bk := D0.nx } σ2 H2)) (Itt X.B a) H1)) := by
    intro F2 d ds R2 hrep hsq h2
    obtain ⟨a, xs, rfl, hrs, hsrc⟩ := seq_src hrep hsq
    refine ⟨a, rfl, ?_⟩
    rcases hsrc with hsrc | hsrc
    · exact .inl ⟨⟨xs, ex_l R2.fh hsrc⟩, loop_ok src_list (fun F' H' σ' e' ef' R' => ⟨xs, ex_l (ef'.trans R'.fh) hsrc, Reps.mono ef' _ _ hrs⟩) R2 h2⟩
    · exact .inr ⟨⟨xs, ex_t R2.fh hsrc⟩, loop_ok src_tup (fun F' H' σ' e' ef' R' => ⟨xs, ex_t (ef'.trans R'.fh) hsrc, Reps.mono ef' _ _ hrs⟩) R2 h2⟩
  obtain ⟨r, hr2, post⟩ := q1
  cases rv with
  | im d =>
    dsimp only at hr2
    cases hsq : seqD d with
    | none => rw [hsq] at hr2; cases hr2
    | some ds =>
      rw [hsq] at hr2
      exact fz hr.1 hr.2 hsq ⟨r, hr2, post⟩
  | new o =>
    dsimp only at hr2
    cases hsq : seqD o.flat with
    | none => rw [hsq] at hr2; cases hr2
    | some ds =>
      rw [hsq] at hr2
      obtain ⟨F3, e3, R3, h3⟩ := RE.freezeT hr
      refine fz R3 h3 hsq ⟨r, hr2, ?_⟩
      cases r with
      | nx m e5 => exact fun F' H' σ' ef' eh R' => post F' H' σ' (e3.trans ef') eh R'
      | rt m e5 rv => exact fun F' H' σ' v' ef' eh R' => post F' H' σ' v' (e3.trans ef') eh R'
      | bk m e5 => exact fun F' H' σ' ef' eh R' => post F' H' σ' (e3.trans ef') eh R'
      | ct m e5 => exact fun F' H' σ' ef' eh R' => post F' H' σ' (e3.trans ef') eh R'
      | er m e5 x => exact fun F' H' σ' cls d ef' eh R' hx => post F' H' σ' cls d (e3.trans ef') eh R' hx
  | bor i o0 =>
    dsimp only at hr2
    cases hi1 : e1[i]? with
    | none => rw [hi1] at hr2; cases hr2
    | some s =>
      rw [hi1] at hr2
      cases s with
      | none => cases hr2
      | some s =>
        obtain ⟨b, o⟩ := s
        dsimp only at hr2
        cases hsq : seqO o with
        | none => rw [hsq] at hr2; cases hr2
        | some ds =>
          rw [hsq] at hr2
          obtain ⟨b', o', v', hb', hv', R3, h3⟩ := AtS.lend ⟨r, hr2, post⟩ hr.1
          rw [hi1] at hb'
          cases hb'
          rw [hr.2.1] at hv'
          cases hv'
          obtain ⟨fs, hown⟩ := R3.temp
          cases o with
          | lst os =>
            have eo := ims_eq hsq
            subst eo
            obtain ⟨a, xs, rr, rfl, _, ha, hos⟩ := hown
            exact ⟨a, rfl, .inl ⟨⟨xs, SqL.of ha⟩, loop_ok src_list (fun F' H' σ' e' ef' R' => by
              obtain ⟨fs', a', xs', rr', e1, _, ha', hos'⟩ := R'.temp
              cases e1
              exact ⟨xs', SqL.of ha', (of_owns_im hos').1⟩) R3 h3⟩⟩
          | tup os =>
            have eo := ims_eq hsq
            subst eo
            obtain ⟨a, xs, rr, rfl, _, ha, hos⟩ := hown
            exact ⟨a, rfl, .inr ⟨⟨xs, SqT.of ha⟩, loop_ok src_tup (fun F' H' σ' e' ef' R' => by
              obtain ⟨fs', a', xs', rr', e1, _, ha', hos'⟩ := R'.temp
              cases e1
              exact ⟨xs', SqT.of ha', (of_owns_im hos').1⟩) R3 h3⟩⟩
          | _ => cases hsq⟩
end
end DL

/-! DLI: ranges, while, lists that grow, items, fields. -/
namespace DL
open PySem PySem.Spec PyProof.Rows L2 Evl

def rangeD (lo : Int) (n : Nat) : List D := (List.range n).map fun (i : Nat) => D.int (lo + (i : Int))
@[simp] def rng1D : List D → Option (List D)
  | [.int n] => if -(2 ^ 62) ≤ n ∧ n < 2 ^ 62 then some (rangeD 0 n.toNat) else none
  | _ => none
@[simp] def rng2D : List D → Option (List D)
  | [.int a, .int b] => if -(2 ^ 62) ≤ a ∧ a < 2 ^ 62 ∧ -(2 ^ 62) ≤ b ∧ b < 2 ^ 62 then some (rangeD a (b - a).toNat) else none
  | _ => none
theorem reps_range {K : KB} {F : Hp} {lo : Int} {n : Nat} : Reps K F (rangeD lo n) ((List.range n).map fun (i : Nat) => V.int (lo + (i : Int))) := by
  unfold rangeD
  have key : ∀ l : List Nat, Reps K F (l.map fun (i : Nat) => D.int (lo + (i : Int))) (l.map fun (i : Nat) => V.int (lo + (i : Int))) := by
    intro l
    induction l with
    | nil => exact rfl
    | cons a l ih => exact ⟨_, _, rfl, rfl, ih⟩
  exact key _
theorem src_range {lo : Int} {n : Nat} : Src (Itr lo n) (fun xs _ => xs = (List.range n).map fun (i : Nat) => V.int (lo + (i : Int))) where
  go := fun i xs H h hi => by
    subst h
    show i < n
    simpa using hi
  stop := fun i xs H h hi => by
    subst h
    show n ≤ i
    simpa using hi
  yld := fun i xs H x H' h hi hy => by
    subst h
    obtain ⟨e1, e2⟩ := (show H' = H ∧ x = .int (lo + i) from hy)
    refine ⟨e1, ?_⟩
    have hi' : i < n := by simpa using hi
    rw [List.getElem?_map, List.getElem?_range hi', e2]
    rfl
section
variable {X : Cx} {W : WX} {tg : Expr} {body : List Stmt} {pos p p2 : Pos} {as : Den (List D)} {bind : D → Env → Option Env} {sl : List Nat} {db : SDen} {a b : Expr}
theorem reps_int {K : KB} {F : Hp} {i : Int} {vs : List V} (h : Reps K F [.int i] vs) : vs = [.int i] := by
  obtain ⟨x, r, rfl, h1, h2⟩ := h
  rw [show x = V.int i from h1, show r = [] from h2]
theorem rng1_case {vs : List D} {ds : List D} (h : rng1D vs = some ds) : ∃ n : Int, vs = [.int n] ∧ -(2 ^ 62) ≤ n ∧ n < 2 ^ 62 ∧ ds = rangeD 0 n.toNat := by
  unfold rng1D at h
  split at h
  · split at h
    · rename_i n hz
      cases h
      exact ⟨n, rfl, hz.1, hz.2, rfl⟩
    · cases h
  · cases h

/-! ### while -/
def swhile (t : Den Bool) (b : SDen) : Nat → SDen
  | 0 => fun _ => none
  | n + 1 => sbind t fun k => if k then (fun e => sturn (b e) (swhile t b n)) else snext
theorem ds_while {t : Expr} {dt : Den Bool} (n : Nat) (hp : PassesOwn (model X.prog X.w) X.A X.env X.xe) (h : DT X W t dt) (hb : DSs X W body db) : DS X W (.While t body [] pos) (swhile dt db n) := ⟨ps_weak (ps_while hp h.run hb.run) fun D0 σ H q => by
  obtain ⟨c, F, e, ts, R, q⟩ := q
  refine ⟨fun m σ H => ∃ F1 e1, RE X.B c F1 H σ e1 ts ∧ AtS X.B W (swhile dt db m) D0 c F1 σ e1 ts H, ⟨n, F, e, R, q⟩, ?_⟩
  rintro m σ1 H1 ⟨F1, e1, R1, q1⟩
  cases m with
  | zero =>
    obtain ⟨r, hr, _⟩ := q1
    cases hr
  | succ m =>
    refine ⟨c, F1, e1, ts, R1, AtS.sbind (rel := relB) (f := fun k => if k then (fun e => sturn (db e) (swhile dt db m)) else snext) q1 fun F2 H2 e2 k v ef hr q2 => ?_⟩
    obtain ⟨R2, rfl⟩ := hr
    cases k with
    | true =>
      refine iteT ⟨fun σ' H' => ∃ F3 e3, RE X.B c F3 H' σ' e3 ts ∧ AtS X.B W (swhile dt db m) D0 c F3 σ' e3 ts H', fun σ' H' hw => ⟨m, Nat.lt_succ_self m, hw⟩, c, F2, e2, ts, R2, ?_⟩
      obtain ⟨r, hr2, post⟩ := q2
      exact AtS.turn ⟨r, hr2, post⟩ fun F3 H3 σ3 e3 ef3 R3 h3 => ⟨F3, e3, R3, h3⟩
    | false => exact iteF (AtS.next q2 R2)⟩

/-! ### a value as a temporary -/
def rvO (rv : Rv) : Den O := fun e => match rv with
  | .im d => some (.ok false e (.im d))
  | .new o => some (.ok false e o)
  | .bor i _ => match e[i]? with
    | some (some (b, o)) => some (.ok false (e.set i (some (b, .im o.flat))) (.im o.flat))
    | _ => none
theorem RE.imT {K : KB} {c : Ctx} {F H : Hp} {σ : L2.St} {e : Env} {ts : List (V × O)} {d : D} {v : V} (R : RE K c F H σ e ts) (h : Rep K F d v) : RE K c F H σ e ((v, .im d) :: ts) := by
  obtain ⟨hs, fs, a1, a2, a3, a4⟩ := R.hd
  exact ⟨R.g, R.f0, R.fh, R.nw, hs, fs, a1, ⟨[], fs, rfl, ⟨rfl, h⟩, a2⟩, a3, a4⟩
/-- an expression's value, then a statement's rest, with the value as a temporary -/
theorem AtS.tmp {K : KB} {c : Ctx} {F H : Hp} {σ : L2.St} {e : Env} {ts : List (V × O)} {D0 : Ends} {de : Den Rv} {f : O → SDen} {Q' : V → Hp → Prop} (h : AtS K W (DL.sbind de fun rv => DL.sbind (rvO rv) f) D0 c F σ e ts H)
    (k : ∀ F1 H1 e1 o v, Ex F F1 → RE K c F1 H1 σ e1 ((v, o) :: ts) → AtS K W (f o) D0 c F1 σ e1 ts H1 → Q' v H1) : At relR K W de c F σ e ts H Q' := by
  refine h.sbind (rel := relR) fun F1 H1 e1 rv v ef hr q1 => ?_
  -- the inner step changes no heap
  have step : ∀ {F2 : Hp} {e2 : Env} {o : O}, rvO rv e1 = some (.ok false e2 o) → Ex F1 F2 → RE K c F2 H1 σ e2 ((v, o) :: ts) → Q' v H1 := by
    intro F2 e2 o h2 ef2 R2
    obtain ⟨r, hr2, post⟩ := q1
    unfold DL.sbind at hr2
    rw [h2] at hr2
    exact k F2 H1 e2 o v (ef.trans ef2) R2 (AtS.more hr2 ef2 (fun _ => Ex.refl _) post)
  cases rv with
  | im d => exact step rfl (Ex.refl _) (hr.1.imT hr.2)
  | new o => exact step rfl (Ex.refl _) hr
  | bor i o =>
    obtain ⟨R1, hv, b, hb⟩ := hr
    obtain ⟨F2, w, e2, hw, R2, hrep⟩ := R1.freezeS hb
    rw [hv] at hw
    cases hw
    refine step (F2 := F2) (e2 := e1.set i (some (b, .im o.flat))) (o := .im o.flat) ?_ e2 (R2.imT hrep)
    unfold rvO
    dsimp only
    rw [hb]
/-- a temporary is laid into a list that is another one -/
theorem RE.push {K : KB} {c : Ctx} {F H : Hp} {σ : L2.St} {e : Env} {ts : List (V × O)} {os : List O} {o : O} {vl v : V} (R : RE K c F H σ e ((vl, .lst os) :: (v, o) :: ts)) :
    ∃ l xs, vl = .ref l ∧ H l = some (.lst xs) ∧ os.length = xs.length ∧ RE K c F (upd H l (.lst (xs ++ [v]))) σ e ((vl, .lst (os ++ [o])) :: ts) := by
  obtain ⟨hs, fs, h1, h2, h3, h4⟩ := R.hd
  obtain ⟨f1, f2, e1, h5, f3, f4, e2, h6, h7⟩ := h2
  obtain ⟨l, xs, r, el, e3, hl, hos⟩ := h5
  subst e3
  subst e2
  subst e1
  refine ⟨l, xs, el, hl, hos.length, ?_⟩
  obtain ⟨q1, q2, q3⟩ := List.nodup_append.mp h3
  obtain ⟨q4, q5⟩ := List.nodup_cons.mp q1
  have lf : F l = none ∧ c.G l = none := h4 l (List.mem_append_left _ List.mem_cons_self)
  have kp : ∀ p, p ≠ l → ∀ u, H p = some u → upd H l (.lst (xs ++ [v])) p = some u := fun p hp u z => by rw [upd_ne hp]; exact z
  have nl : ∀ p, p ∈ r ∨ p ∈ f3 ++ f4 → p ≠ l := fun p hp z => by
    subst z
    rcases hp with hp | hp
    · exact q4 hp
    · exact q3 p List.mem_cons_self p hp rfl
  refine ⟨fun p u z => ?_, R.f0, fun p u z => ?_, R.nw, hs, (l :: (r ++ f3)) ++ f4, h1, ⟨l :: (r ++ f3), f4, rfl, ⟨l, xs ++ [v], r ++ f3, el, rfl, upd_same, ?_⟩, Held.mono (Ex.refl _) (fun p hp => kp p (nl p (.inr (List.mem_append_right _ hp)))) h7⟩, ?_, fun p hp => h4 p ?_⟩
  · have hp : p ≠ l := fun w => by
      subst w
      rw [lf.2] at z
      cases z
    exact kp p hp u (R.g p u z)
  · have hp : p ≠ l := fun w => by
      subst w
      rw [lf.1] at z
      cases z
    exact kp p hp u (R.fh p u z)
  · refine Owns.append (Owns.mono (Ex.refl _) _ _ _ (fun p hp => kp p (nl p (.inl hp))) hos) ?_
    exact ⟨v, [], f3, [], rfl, (List.append_nil _).symm, Own.mono (Ex.refl _) _ _ _ (fun p hp => kp p (nl p (.inr (List.mem_append_left _ hp)))) h6, rfl, rfl⟩
  · have : (l :: (r ++ f3)) ++ f4 = (l :: r) ++ (f3 ++ f4) := by simp
    rw [this]
    exact h3
  · have : (l :: (r ++ f3)) ++ f4 = (l :: r) ++ (f3 ++ f4) := by simp
    rw [this] at hp
    exact hp
/-- x.append(e) -/
def sapp (i : Nat) (de : Den Rv) : SDen := fun e0 => match e0[i]? with
  | some (some (_, .lst _)) => sbind de (fun rv => sbind (rvO rv) fun o e => match e[i]? with
    | some (some (b, .lst os)) => if os.length < sizeLine then some (.nx true (e.set i (some (b, .lst (os ++ [o]))))) else none
    | _ => none) e0
  | _ => none
theorem ds_app {i : Nat} {x : Str} {de : Den Rv} {apos px : Pos} (hx : PE X (.Name x px) (tVar i)) (h : DE X W a de)
    (hpe : ∀ {t : TA}, PA X [a] t → PE X (.Call (.Attribute (.Name x px) "append" apos) [a] [] p) (tBM X.B "list" rAppend (tVar i) t))
    (hs0 : starEach (a :: []) X.env = (false, eval a X.env) :: starEach [] X.env := by rfl) (hs : swapsWith (.Call (.Attribute (.Name x px) "append" apos) [a] [] p) none pos.line X.env = pure false := by rfl) :
    DS X W (.Expr (.Call (.Attribute (.Name x px) "append" apos) [a] [] p) pos) (sapp i de) :=
  ⟨ps_weak (ps_expr (hpe (pa_cons h.run pa_nil hs0)) hs) fun D0 σ H q => by
    obtain ⟨c, F, e, ts, R, r, hr, post⟩ := q
    unfold sapp at hr
    cases he : e[i]? with
    | none => rw [he] at hr; cases hr
    | some s =>
      rw [he] at hr
      cases s with
      | none => cases hr
      | some s =>
        obtain ⟨b, o⟩ := s
        cases o with
        | lst os =>
          obtain ⟨v, fs, hv, l, xs, rr, ev, _, hl, _⟩ := R.slot he
          subst ev
          refine ⟨.ref l, hv, .inl ⟨rfl, xs, SqL.of hl⟩, c, F, e, ts, R, ?_⟩
          have q0 : AtS X.B W (sbind de (fun rv => sbind (rvO rv) fun o e => match e[i]? with
            | some (some (b, .lst os)) => if os.length < sizeLine then some (.nx true (e.set i (some (b, .lst (os ++ [o]))))) else none
            | _ => none)) D0 c F σ e ts H := ⟨r, hr, post⟩
          refine q0.tmp fun F1 H1 e1 o v ef R1 q1 => ?_
          obtain ⟨r1, hr1, post1⟩ := q1
          dsimp only at hr1
          cases he1 : e1[i]? with
          | none => rw [he1] at hr1; cases hr1
          | some s =>
            rw [he1] at hr1
            cases s with
            | none => cases hr1
            | some s =>
              obtain ⟨b1, o1⟩ := s
              cases o1 with
              | lst os1 =>
                dsimp only at hr1
                split at hr1
                · rename_i hz
                  cases hr1
                  obtain ⟨vl, hvl, hb1, R2⟩ := R1.out he1
                  rw [hv] at hvl
                  cases hvl
                  obtain ⟨l', xs1, e3, hl1, hlen, R3⟩ := R2.push
                  cases e3
                  refine ⟨l, xs1, v, rfl, rfl, hl1, by rw [← hlen]; exact hz, ?_⟩
                  have hn : (e1.set i none)[i]? = some none := List.getElem?_set_self (List.getElem?_eq_some_iff.mp he1).1
                  have R4 := R3.inn (b := b1) hn hv hb1
                  rw [List.set_set] at R4
                  exact post1 F1 _ σ (Ex.refl _) (fun z => by cases z) R4
                · cases hr1
              | _ => cases hr1
        | _ => cases hr⟩
end
end DL

/-! DLJ: sources that are walked; list comprehensions. -/
namespace DL
open PySem PySem.Spec PyProof.Rows L2 Evl

/-- an iterator over frozen things -/
def relJ : Rel (List D) It := fun K c F H σ e ts ds J => RE K c F H σ e ts ∧ ∃ P, Src J P ∧ ∀ F' H', Ex F F' → Ex F' H' → ∃ xs, P xs H' ∧ Reps K F' ds xs
structure DPI (X : Cx) (W : WX) (tg iter : Expr) (den : Den (List D)) : Prop where
  run : PI X tg iter (rd relJ X.B W den)
theorem pi_weak {X : Cx} {tg iter : Expr} {t t' : TI} (h : PI X tg iter t) (k : ∀ σ H R, t' σ H R → t σ H R) : PI X tg iter t' := ⟨fun pins s σ H R I q => h.run pins s σ H R I (k σ H R q)⟩
def sq (d : Den D) : Den (List D) := dbind d fun x => dlift (seqD x)
def rg (g : List D → Option (List D)) (d : Den (List D)) : Den (List D) := dbind d fun x => dlift (g x)
section
variable {X : Cx} {W : WX} {tg iter : Expr} {body : List Stmt} {pos p p2 : Pos} {as : Den (List D)} {bind : D → Env → Option Env} {sl : List Nat} {db : SDen} {a b : Expr}
theorem dpi_seq {d : Den D} (h : DI X W iter d) : DPI X W tg iter (sq d) := ⟨pi_weak (pi_seq h.run) fun σ H R q => by
  obtain ⟨c, F, e, ts, R, q⟩ := q
  refine ⟨c, F, e, ts, R, q.bind (rel := relI) fun F1 H1 e1 x v ef hr q1 => ?_⟩
  obtain ⟨ds, hd, k⟩ := q1.lift
  obtain ⟨a, xs, rfl, hrs, hsrc⟩ := seq_src hr.2 hd
  refine ⟨a, rfl, ?_⟩
  rcases hsrc with hsrc | hsrc
  · exact .inl ⟨⟨xs, ex_l hr.1.fh hsrc⟩, k F1 H1 (Itl X.B a) (Ex.refl _) (Ex.refl _) ⟨hr.1, _, src_list, fun F' H' ef fh => ⟨xs, ex_l (ef.trans fh) hsrc, Reps.mono ef _ _ hrs⟩⟩⟩
  · exact .inr ⟨⟨xs, ex_t hr.1.fh hsrc⟩, k F1 H1 (Itt X.B a) (Ex.refl _) (Ex.refl _) ⟨hr.1, _, src_tup, fun F' H' ef fh => ⟨xs, ex_t (ef.trans fh) hsrc, Reps.mono ef _ _ hrs⟩⟩⟩⟩
theorem dpi_range1 (hgl : Gl X "range") (hm : X.mg "range" = none) (ha : DA X W [a] as) (hs0 : starEach [a] X.env = [(false, eval a X.env)] := by rfl) : DPI X W tg (.Call (.Name "range" p) [a] [] p2) (rg rng1D as) := ⟨pi_weak (pi_range1 hgl hm ha.run hs0) fun σ H R q => by
  obtain ⟨c, F, e, ts, R, q⟩ := q
  refine ⟨c, F, e, ts, R, q.bind (rel := relA) fun F1 H1 e1 vs v ef hr q1 => ?_⟩
  obtain ⟨ds, hd, k⟩ := q1.lift
  obtain ⟨n, rfl, b1, b2, rfl⟩ := rng1_case hd
  have ev := reps_int hr.2
  subst ev
  exact ⟨n, rfl, b1, b2, k F1 H1 _ (Ex.refl _) (Ex.refl _) ⟨hr.1, _, src_range, fun F' H' _ _ => ⟨_, rfl, reps_range⟩⟩⟩⟩
/-- for over a frozen source -/
def sforP (src : Den (List D)) (bind : D → Env → Option Env) (body : SDen) : SDen := sbind src fun ds => sloop bind body ds
theorem ds_forP {src : Den (List D)} (hp : PassesOwn (model X.prog X.w) X.A X.env X.xe) (hc : X.calm = true) (hi : DPI X W tg iter src) (hg : DG X tg bind sl) (hb : DSs X W body db) (hs : ∀ x, foldedSetIterable iter X.env x = pure x := by intro _; rfl) :
    DS X W (.For tg iter body [] pos) (sforP src bind db) := ⟨ps_weak (ps_for hp hc hi.run hg.run hb.run hs) fun D0 σ H q => by
  obtain ⟨c, F, e, ts, R, q⟩ := q
  refine ⟨c, F, e, ts, R, q.sbind (rel := relJ) fun F1 H1 e1 ds J ef hr q1 => ?_⟩
  obtain ⟨R1, P, S, hP⟩ := hr
  exact loop_ok S (fun F' H' σ' e' ef' R' => hP F' H' ef' R'.fh) R1 q1⟩

/-! ### list comprehensions -/
def W0 : WX := fun _ _ _ _ => False
/-- the block's own slots are empty at a turn's start -/
def wipeE (e : Env) : List Nat → Env
  | [] => e
  | v :: vs => (wipeE e vs).set v none
/-- the slots as they were: frozen ones alone -/
def wiped (e : Env) (vs : List Nat) : Bool := vs.all fun v => match e[v]? with
  | some none => true
  | some (some (_, .im _)) => true
  | _ => false
def restE (e e' : Env) : List Nat → Env
  | [] => e'
  | v :: vs => (restE e e' vs).set v (e[v]?.getD none)
def cloop (bind : D → Env → Option Env) (tt : Den Bool) (elt : Den Rv) (vs : List Nat) : List D → List O → Env → Option (Res (List O))
  | [], acc, e => some (.ok false e acc)
  | d :: ds, acc, e => match bind d e with
    | none => none
    | some e1 => match tt e1 with
      | some (.ok m1 e2 false) => Res.more (α := Bool) m1 (cloop bind tt elt vs ds acc (wipeE e2 vs))
      | some (.ok m1 e2 true) => match elt e2 with
        | some (.ok m2 e3 rv) => match rvO rv e3 with
          | some (.ok _ e4 o) => if acc.length < sizeLine then Res.more (α := Bool) (m1 || m2) (cloop bind tt elt vs ds (acc ++ [o]) (wipeE e4 vs)) else none
          | _ => none
        | _ => none
      | _ => none
def dcomp (src : Den (List D)) (bind : D → Env → Option Env) (tt : Den Bool) (elt : Den Rv) (vs : List Nat) : Den Rv := dbind src fun ds e => if wiped e vs = true then (match cloop bind tt elt vs ds [] (wipeE e vs) with
  | some (.ok m e' os) => some (.ok m (restE e e' vs) (.new (.lst os)))
  | _ => none) else none
structure DTs (X : Cx) (W : WX) (ifs : List Expr) (den : Den Bool) : Prop where
  run : PTs X ifs (rd relB X.B W den)
theorem pts_weak {ifs : List Expr} {t t' : TT} (h : PTs X ifs t) (k : ∀ σ H Q, t' σ H Q → t σ H Q) : PTs X ifs t' := ⟨fun pins s σ H Q I q => h.run pins s σ H Q I (k σ H Q q)⟩
theorem dts_nil : DTs X W [] (dpure true) := ⟨pts_weak pts_nil fun σ H Q q => by
  obtain ⟨c, F, e, ts, R, q⟩ := q
  exact At.pure (a := true) q F H true (Ex.refl _) (Ex.refl _) ⟨R, rfl⟩⟩
theorem dts_one {c : Expr} {den : Den Bool} (h : DT X W c den) : DTs X W [c] den := ⟨pts_one h.run⟩
end
section
variable {K : KB} {c : Ctx} {F H : Hp} {σ : L2.St} {e : Env} {ts : List (V × O)}
theorem RE.clr {i : Nat} {x : Option V} (R : RE K c F H σ e ts) (h : e[i]? = some none ∨ ∃ b o, e[i]? = some (some (b, o))) : RE K c F H σ (e.set i none) ts := by
  rcases h with h | ⟨b, o, h⟩
  · have : e.set i none = e := by
      have := (List.getElem?_eq_some_iff.mp h)
      obtain ⟨h1, h2⟩ := this
      conv => rhs; rw [← List.set_getElem_self h1, h2]
    rw [this]
    exact R
  · exact R.clear h
theorem Slots.forget : ∀ {e : Env} {σ σ0 : L2.St} {hs : List (V × O)} {i : Nat}, Slots e σ σ0 hs → e[i]? = some none → ∀ x, Slots e (σ.set i x) σ0 hs
  | [], σ, σ0, hs, i, h, he, x => by simp at he
  | none :: e, σ, σ0, hs, 0, h, he, x => by
    obtain ⟨y, r, e1, h1⟩ := h
    subst e1
    exact ⟨x, r, rfl, h1⟩
  | some q :: e, σ, σ0, hs, 0, h, he, x => by simp at he
  | none :: e, σ, σ0, hs, i + 1, h, he, x => by
    obtain ⟨y, r, e1, h1⟩ := h
    subst e1
    exact ⟨y, r.set i x, rfl, Slots.forget h1 (by simpa using he) x⟩
  | some q :: e, σ, σ0, hs, i + 1, h, he, x => by
    obtain ⟨v, r, hr, e1, hb, e2, h1⟩ := h
    subst e1
    exact ⟨v, r.set i x, hr, rfl, hb, e2, Slots.forget h1 (by simpa using he) x⟩
theorem RE.forget {i : Nat} (R : RE K c F H σ e ts) (h : e[i]? = some none) (x : Option V) : RE K c F H (σ.set i x) e ts := by
  obtain ⟨hs, fs, h1, h2, h3, h4⟩ := R.hd
  exact ⟨R.g, R.f0, R.fh, R.nw, hs, fs, h1.forget h x, h2, h3, h4⟩
theorem wipeE_len (e : Env) : ∀ vs : List Nat, (wipeE e vs).length = e.length
  | [] => rfl
  | v :: vs => by unfold wipeE; rw [List.length_set, wipeE_len e vs]
theorem RE.len (R : RE K c F H σ e ts) : σ.length = e.length := by
  obtain ⟨hs, fs, h1, _⟩ := R.hd
  exact h1.len
theorem RE.wipe (R : RE K c F H σ e ts) : ∀ vs : List Nat, (∀ v ∈ vs, v < e.length) → RE K c F H (L2.wipe σ vs) (wipeE e vs) ts
  | [], _ => R
  | v :: vs, hv => by
    have R1 := RE.wipe R vs (fun w hw => hv w (List.mem_cons_of_mem _ hw))
    have hl : v < (wipeE e vs).length := by rw [wipeE_len]; exact hv v List.mem_cons_self
    have R2 : RE K c F H (L2.wipe σ vs) ((wipeE e vs).set v none) ts := by
      cases q : (wipeE e vs)[v]? with
      | none => exact absurd (List.getElem?_eq_none_iff.mp q) (by omega)
      | some s =>
        cases s with
        | none => exact R1.clr (x := none) (.inl q)
        | some s => obtain ⟨b, o⟩ := s; exact R1.clr (x := none) (.inr ⟨b, o, q⟩)
    exact R2.forget (List.getElem?_set_self hl) none
theorem Slots.ext : ∀ {e : Env} {σ τ σ0 : L2.St} {hs : List (V × O)}, Slots e σ σ0 hs → σ.length = τ.length → (∀ (j : Nat) (q : Bool × O), e[j]? = some (some q) → τ[j]? = σ[j]?) → Slots e τ σ0 hs
  | [], σ, τ, σ0, hs, h, hl, k => by
    obtain ⟨e1, e2⟩ := h
    subst e1
    exact ⟨List.length_eq_zero_iff.mp hl.symm, e2⟩
  | none :: e, σ, τ, σ0, hs, h, hl, k => by
    obtain ⟨x, r, e1, h1⟩ := h
    subst e1
    cases τ with
    | nil => simp at hl
    | cons y t => exact ⟨y, t, rfl, Slots.ext h1 (by simpa using hl) fun j q hj => by simpa using k (j + 1) q (by simpa using hj)⟩
  | some q :: e, σ, τ, σ0, hs, h, hl, k => by
    obtain ⟨v, r, hr, e1, hb, e2, h1⟩ := h
    subst e1
    cases τ with
    | nil => simp at hl
    | cons y t =>
      have hy : y = some v := by simpa using k 0 q rfl
      subst hy
      exact ⟨v, t, hr, rfl, hb, e2, Slots.ext h1 (by simpa using hl) fun j q hj => by simpa using k (j + 1) q (by simpa using hj)⟩
theorem wipe_out (σ : L2.St) : ∀ (vs : List Nat) (j : Nat), j ∉ vs → (L2.wipe σ vs)[j]? = σ[j]?
  | [], j, _ => rfl
  | v :: vs, j, h => by
    unfold L2.wipe
    rw [List.getElem?_set_ne (fun z => h (by rw [← z]; exact List.mem_cons_self))]
    exact wipe_out σ vs j fun z => h (List.mem_cons_of_mem _ z)
theorem RE.awake {vs : List Nat} (R : RE K c F H (L2.wipe σ vs) e ts) (hn : ∀ v ∈ vs, e[v]? = some none) : RE K c F H σ e ts := by
  obtain ⟨hs, fs, h1, h2, h3, h4⟩ := R.hd
  refine ⟨R.g, R.f0, R.fh, R.nw, hs, fs, h1.ext (L2.wipe_length σ vs) fun j q hj => ?_, h2, h3, h4⟩
  refine (wipe_out σ vs j fun z => ?_).symm
  rw [hn j z] at hj
  cases hj
/-- what the block forgot is there again -/
theorem RE.unwipe {e' : Env} {F' H' : Hp} {ts' : List (V × O)} (R0 : RE K c F H σ e ts) (ef : Ex F F') : ∀ vs : List Nat, vs.Nodup → wiped e vs = true → RE K c F' H' σ e' ts' → (∀ v ∈ vs, e'[v]? = some none) → RE K c F' H' σ (restE e e' vs) ts' ∧ ∀ j, j ∉ vs → (restE e e' vs)[j]? = e'[j]?
  | [], _, _, R, _ => ⟨R, fun _ _ => rfl⟩
  | v :: vs, nd, hw, R, hn => by
    obtain ⟨n1, n2⟩ := List.nodup_cons.mp nd
    unfold wiped at hw
    rw [List.all_cons, Bool.and_eq_true] at hw
    obtain ⟨R1, k1⟩ := RE.unwipe R0 ef vs n2 hw.2 R (fun w hwm => hn w (List.mem_cons_of_mem _ hwm))
    have hv : (restE e e' vs)[v]? = some none := by rw [k1 v n1]; exact hn v List.mem_cons_self
    refine ⟨?_, fun j hj => ?_⟩
    · unfold restE
      cases q : e[v]? with
      | none => rw [q] at hw; cases hw.1
      | some s =>
        cases s with
        | none =>
          show RE K c F' H' σ ((restE e e' vs).set v none) ts'
          exact R1.clr (x := none) (.inl hv)
        | some s =>
          obtain ⟨b, o⟩ := s
          cases o with
          | im d =>
            obtain ⟨w, hw2, hb, _⟩ := R0.out q
            obtain ⟨w', hw3, hrep⟩ := R0.slotIm q
            rw [hw2] at hw3
            cases hw3
            exact (R1.imT (Rep.mono ef _ _ hrep)).inn hv hw2 hb
          | _ => rw [q] at hw; cases hw.1
    · unfold restE
      rw [List.getElem?_set_ne (fun z => hj (by rw [← z]; exact List.mem_cons_self))]
      exact k1 j fun z => hj (List.mem_cons_of_mem _ z)
theorem wipeE_in (e : Env) : ∀ (vs : List Nat), (∀ v ∈ vs, v < e.length) → ∀ v ∈ vs, (wipeE e vs)[v]? = some none
  | [], _, v, h => by cases h
  | w :: vs, hl, v, h => by
    unfold wipeE
    by_cases q : w = v
    · subst q
      exact List.getElem?_set_self (by rw [wipeE_len]; exact hl w List.mem_cons_self)
    · rw [List.getElem?_set_ne q]
      rcases List.mem_cons.mp h with z | z
      · exact absurd z.symm q
      · exact wipeE_in e vs (fun u hu => hl u (List.mem_cons_of_mem _ hu)) v z
theorem wiped_lt {e : Env} {vs : List Nat} (h : wiped e vs = true) : ∀ v ∈ vs, v < e.length := fun v hv => by
  unfold wiped at h
  have := List.all_eq_true.mp h v hv
  cases q : e[v]? with
  | none => rw [q] at this; cases this
  | some s => exact (List.getElem?_eq_some_iff.mp q).1
theorem wipe_in (σ : L2.St) : ∀ (vs : List Nat) (j : Nat), j ∈ vs → j < σ.length → (L2.wipe σ vs)[j]? = some none
  | [], j, h, _ => by cases h
  | w :: vs, j, h, hl => by
    unfold L2.wipe
    by_cases q : w = j
    · subst q
      exact List.getElem?_set_self (by rw [L2.wipe_length]; exact hl)
    · rw [List.getElem?_set_ne q]
      rcases List.mem_cons.mp h with z | z
      · exact absurd z.symm q
      · exact wipe_in σ vs j z hl
theorem wipe_off {sl vs : List Nat} {σ σ' : L2.St} (h : Off sl (L2.wipe σ vs) σ') (hs : ∀ i ∈ sl, i ∈ vs) : L2.wipe σ' vs = L2.wipe σ vs := by
  refine List.ext_getElem? fun j => ?_
  have hl : σ'.length = σ.length := h.1.trans (L2.wipe_length σ vs)
  by_cases hj : j ∈ vs
  · by_cases hlt : j < σ.length
    · rw [wipe_in σ' vs j hj (by omega), wipe_in σ vs j hj hlt]
    · rw [List.getElem?_eq_none_iff.mpr (by rw [L2.wipe_length]; omega), List.getElem?_eq_none_iff.mpr (by rw [L2.wipe_length]; omega)]
  · rw [wipe_out σ' vs j hj, h.2 j fun z => hj (hs j z)]
theorem more_ok {α β : Type} {m : Bool} {x : Option (Res β)} {m' : Bool} {e' : Env} {b : β} (h : Res.more (α := α) m x = some (.ok m' e' b)) : ∃ m2, x = some (.ok m2 e' b) ∧ m' = (m || m2) := by
  cases x with
  | none => cases h
  | some r =>
    cases r with
    | ok m2 e2 b2 => cases h; exact ⟨m2, rfl, rfl⟩
    | err m2 e2 x => cases h
end
section
variable {X : Cx} {tg iter elt : Expr} {ifs : List Expr} {scope : Scope} {own : List (Str × Nat)} {pos : Pos} {src : Den (List D)} {bind : D → Env → Option Env} {sl : List Nat} {tt : Den Bool} {de : Den Rv} {W : WX}
/-- the comprehension's reading, from its denotation -/
theorem comp_rd {vs : List Nat} {σ : L2.St} {H : Hp} {Q : VK} (nd : vs.Nodup) (hsl : ∀ i ∈ sl, i ∈ vs) (q : rd relR X.B W (dcomp src bind tt de vs) σ H Q) :
    tLc (rd relJ X.B W src) (tgR X.B bind sl) (rd relB X.B W0 tt) (rd relR X.B W0 de) vs σ H Q := by
  obtain ⟨c, F, e, ts, R, q⟩ := q
  refine ⟨c, F, e, ts, R, q.bind (rel := relJ) fun F1 H1 e1 ds J ef hr q1 => ?_⟩
  obtain ⟨R1, P, S, hP⟩ := hr
  intro Dl hD
  obtain ⟨r, hr2, post⟩ := q1
  dsimp only at hr2
  split at hr2
  · rename_i hw
    cases hcl : cloop bind tt de vs ds [] (wipeE e1 vs) with
    | none => rw [hcl] at hr2; cases hr2
    | some r1 =>
      rw [hcl] at hr2
      cases r1 with
      | err m e' x => cases hr2
      | ok m e' os =>
        cases hr2
        have hlt := wiped_lt hw
        have R2 : RE X.B c F1 (upd H1 Dl (.lst [])) (L2.wipe σ vs) (wipeE e1 vs) ((.ref Dl, .lst []) :: ts) := (R1.newO (u := .lst []) (o := .lst []) hD ⟨Dl, [], [], rfl, rfl, upd_same, ⟨rfl, rfl⟩⟩).wipe vs hlt
        refine ⟨fun i k H => ∃ mm m1 F2 e2 os2, (mm = false → Ex H1 H) ∧ Ex F1 F2 ∧ RE X.B c F2 H (L2.wipe σ vs) e2 ((.ref Dl, .lst os2) :: ts) ∧ (∀ v ∈ vs, e2[v]? = some none) ∧ cloop bind tt de vs (ds.drop i) os2 e2 = some (.ok m1 e' os) ∧ m = (mm || m1) ∧ k + i = ds.length,
          ⟨ds.length, false, m, F1, _, [], fun _ => Ex.new hD, Ex.refl _, R2, wipeE_in e1 vs hlt, hcl, by simp, by omega⟩, ?_⟩
        rintro i k H2 ⟨mm, m1, F2, e2, os2, hex, ef2, R3, hn, hc2, hm, hk⟩
        obtain ⟨xs, p1, hrs⟩ := hP F2 H2 ef2 R3.fh
        have hlen := hrs.length
        by_cases hi : i < xs.length
        · refine .inr ⟨S.go i xs H2 p1 hi, fun H' => ∃ mm m1 F2 e2 os2, (mm = false → Ex H1 H') ∧ Ex F1 F2 ∧ RE X.B c F2 H' (L2.wipe σ vs) e2 ((.ref Dl, .lst os2) :: ts) ∧ (∀ v ∈ vs, e2[v]? = some none) ∧ cloop bind tt de vs (ds.drop (i + 1)) os2 e2 = some (.ok m1 e' os) ∧ m = (mm || m1),
            fun H' ⟨mm, m1, F3, e3, os3, a1, a2, a3, a4, a5, a6⟩ => ⟨k - 1, by omega, mm, m1, F3, e3, os3, a1, a2, a3, a4, a5, a6, by omega⟩, ?_⟩
          intro x H' hy
          obtain ⟨rfl, hx⟩ := S.yld i xs H2 x H' p1 hi hy
          obtain ⟨d, hd, hrep⟩ := hrs.getV i hx
          have hdrop : ds.drop i = d :: ds.drop (i + 1) := by
            have hl : i < ds.length := by omega
            rw [List.drop_eq_getElem_cons hl]
            have := (List.getElem?_eq_some_iff.mp hd).2
            rw [this]
          rw [hdrop] at hc2
          unfold cloop at hc2
          cases hb : bind d e2 with
          | none => rw [hb] at hc2; cases hc2
          | some e3 =>
            rw [hb] at hc2
            dsimp only at hc2
            refine ⟨c, F2, e2, (.ref Dl, .lst os2) :: ts, d, e3, R3, hrep, hb, fun σ' R4 hoff => ⟨wipe_off hoff hsl, c, F2, e3, (.ref Dl, .lst os2) :: ts, R4, ?_⟩⟩
            have hwo := wipe_off hoff hsl
            cases htt : tt e3 with
            | none => rw [htt] at hc2; cases hc2
            | some r2 =>
              rw [htt] at hc2
              cases r2 with
              | err m e x => cases hc2
              | ok mt e4 bt =>
                refine ⟨_, htt, fun F4 H4 bt' ef4 eh4 hrel => ?_⟩
                obtain ⟨R5, rfl⟩ := hrel
                have hlen5 : e4.length = σ.length := R5.len.symm.trans (hoff.1.trans (L2.wipe_length σ vs))
                have hlt5 : ∀ v ∈ vs, v < e4.length := fun v hv => by
                  rw [hlen5, R1.len]
                  exact hlt v hv
                cases bt with
                | false =>
                  refine iteF ?_
                  dsimp only at hc2
                  obtain ⟨m2, hc3, hm2⟩ := more_ok hc2
                  have R6 := R5.wipe vs hlt5
                  rw [hwo] at R6
                  refine ⟨mm || mt, m2, F4, wipeE e4 vs, os2, fun z => (hex (or_l z)).trans (eh4 (or_r z)), ef2.trans ef4, R6, wipeE_in e4 vs hlt5, hc3, ?_⟩
                  rw [hm, hm2, Bool.or_assoc]
                | true =>
                  refine iteT ⟨c, F4, e4, (.ref Dl, .lst os2) :: ts, R5, ?_⟩
                  dsimp only at hc2
                  cases hde : de e4 with
                  | none => rw [hde] at hc2; cases hc2
                  | some r3 =>
                    rw [hde] at hc2
                    cases r3 with
                    | err m e x => cases hc2
                    | ok md e5 rv =>
                      refine ⟨_, hde, fun F5 H5 y ef5 eh5 hrel => ?_⟩
                      dsimp only at hc2
                      cases hrv : rvO rv e5 with
                      | none => rw [hrv] at hc2; cases hc2
                      | some r4 =>
                        rw [hrv] at hc2
                        cases r4 with
                        | err m e x => cases hc2
                        | ok mo e6 o =>
                          dsimp only at hc2
                          split at hc2
                          · rename_i hz
                            obtain ⟨m2, hc3, hm2⟩ := more_ok hc2
                            -- the value as a temporary
                            have tmp : ∃ F6, Ex F5 F6 ∧ RE X.B c F6 H5 σ' e6 ((y, o) :: (.ref Dl, .lst os2) :: ts) := by
                              cases rv with
                              | im d => cases hrv; exact ⟨F5, Ex.refl _, hrel.1.imT hrel.2⟩
                              | new o' => cases hrv; exact ⟨F5, Ex.refl _, hrel⟩
                              | bor i2 o' =>
                                obtain ⟨R7, hv7, b7, hb7⟩ := hrel
                                unfold rvO at hrv
                                dsimp only at hrv
                                rw [hb7] at hrv
                                cases hrv
                                obtain ⟨F6, w, e7, hw7, R8, hrep8⟩ := R7.freezeS hb7
                                rw [hv7] at hw7
                                cases hw7
                                exact ⟨F6, e7, R8.imT hrep8⟩
                            obtain ⟨F6, ef6, R6⟩ := tmp
                            obtain ⟨l, xs', el, hl, hlen', R7⟩ := (R6.perm (List.Perm.swap _ _ _)).push
                            cases el
                            have hlen6 : e6.length = σ.length := R6.len.symm.trans (hoff.1.trans (L2.wipe_length σ vs))
                            have hlt6 : ∀ v ∈ vs, v < e6.length := fun v hv => by
                              rw [hlen6, R1.len]
                              exact hlt v hv
                            have R8 := R7.wipe vs hlt6
                            rw [hwo] at R8
                            refine ⟨xs', hl, by rw [← hlen']; exact hz, mm || (mt || md), m2, F6, wipeE e6 vs, os2 ++ [o], fun z => ?_, ((ef2.trans ef4).trans ef5).trans ef6, R8, wipeE_in e6 vs hlt6, hc3, ?_⟩
                            · have z1 := hex (or_l z)
                              have z2 := eh4 (or_l (or_r z))
                              have z3 := eh5 (or_r (or_r z))
                              exact ((z1.trans z2).trans z3).mut hD
                            · rw [hm, hm2]
                              simp only [Bool.or_assoc]
                          · cases hc2
        · refine .inl ⟨S.stop i xs H2 p1 (by omega), ?_⟩
          have hdrop : ds.drop i = [] := List.drop_eq_nil_of_le (by omega)
          rw [hdrop] at hc2
          cases hc2
          obtain ⟨R4, _⟩ := RE.unwipe R1 ef2 vs nd hw (R3.awake hn) hn
          exact post F2 H2 (.ref Dl) ef2 (fun z => hex (by rw [hm] at z; exact or_l z)) R4
  · cases hr2
theorem de_comp (hc : X.calm = true) (hN : X.N.Nodup) (hi : DPI X W tg iter src) (ok : BlkOk X.N X.env.scope scope own) (nd : (own.map (·.2)).Nodup) (hsl : ∀ i ∈ sl, i ∈ own.map (·.2))
    (hg : ∀ (s : Shared) (H : Hp) (C : Addr) (cl : List (Str × Addr)) (fp : List Addr), DG (X.blk s H scope (compEnvC scope cl C X.env) fp) tg bind sl) (ht : ∀ (s : Shared) (H : Hp) (C : Addr) (cl : List (Str × Addr)) (fp : List Addr), DTs (X.blk s H scope (compEnvC scope cl C X.env) fp) W0 ifs tt)
    (he : ∀ (s : Shared) (H : Hp) (C : Addr) (cl : List (Str × Addr)) (fp : List Addr), DE (X.blk s H scope (compEnvC scope cl C X.env) fp) W0 elt de) (hs : ∀ x, foldedSetIterable iter X.env x = pure x := by intro _; rfl) :
    DE X W (.ListComp elt [⟨tg, iter, ifs, 0⟩] scope pos) (dcomp src bind tt de (own.map (·.2))) :=
  ⟨pe_weak (pe_lc hc hN hi.run ok (fun s H C cl fp => (hg s H C cl fp).run) (fun s H C cl fp => (ht s H C cl fp).run) (fun s H C cl fp => (he s H C cl fp).run) hs) fun σ H Q q => comp_rd nd hsl q⟩
end
end DL

/-! DLK: items, slices, fields, built-in calls. -/
namespace DL
open PySem PySem.Spec PyProof.Rows L2 Evl

/-! ### a value that is looked into: frozen, or a slot's -/
def ar1 (d : Den Rv) : Den AR := dbind d fun r => dpure (darg r)
/-! ### items -/
@[simp] def elemD : D → D → Option D
  | .tup ds, .int i => atI ds i
  | .wtp ds, .int i => atI ds i
  | .lst ds, .int i => atI ds i
  | .scr ds, .int i => atI ds i
  | .str z, .int i => if z.length ≤ sizeLine then (atI z.cps.toList i).map fun c => .str ⟨#[c]⟩ else none
  | _, _ => none
@[simp] def imO : O → Option D
  | .im d => some d
  | _ => none
def slotO (e : Env) (i : Nat) : Option O := match e[i]? with
  | some (some (_, o)) => some o
  | _ => none
theorem atI_reps {K : KB} {F : Hp} {ds : List D} {xs : List V} {i : Int} {d : D} (h : Reps K F ds xs) (e : atI ds i = some d) : ∃ x, atI xs i = some x ∧ Rep K F d x := by
  unfold atI at e ⊢
  rw [h.length] at e
  obtain ⟨j, hj, e2⟩ := Option.bind_eq_some_iff.mp e
  obtain ⟨x, hx, hr⟩ := h.get j e2
  exact ⟨x, by rw [hj]; exact hx, hr⟩
theorem elemD_ok {K : KB} {F H : Hp} {d i x : D} {v u : V} {Q : VK} (fh : Ex F H) (h : Rep K F d v) (hi : Rep K F i u) (e : elemD d i = some x) (k : ∀ w, Rep K F x w → Q w H) : rIx K v u H Q := by
  unfold elemD at e
  split at e
  · obtain ⟨a, xs, rfl, h1, h2⟩ := h
    obtain ⟨w, hw, hr⟩ := atI_reps h2 e
    exact .inr (.inl ⟨a, xs, _, w, rfl, hi, ex_t fh h1, hw, k w hr⟩)
  · obtain ⟨a, xs, rfl, h1, h2⟩ := h
    obtain ⟨w, hw, hr⟩ := atI_reps h2 e
    exact .inr (.inl ⟨a, xs, _, w, rfl, hi, ex_t fh h1, hw, k w hr⟩)
  · obtain ⟨a, xs, rfl, h1, h2⟩ := h
    obtain ⟨w, hw, hr⟩ := atI_reps h2 e
    exact .inl ⟨a, xs, _, w, rfl, hi, SqL.of (fh _ _ h1), hw, k w hr⟩
  · obtain ⟨a, xs, rfl, h1, h2⟩ := h
    obtain ⟨w, hw, hr⟩ := atI_reps h2 e
    exact .inl ⟨a, xs, _, w, rfl, hi, ex_l fh h1, hw, k w hr⟩
  · split at e
    · rename_i hz
      obtain ⟨cc, hc, e2⟩ := Option.map_eq_some_iff.mp e
      subst e2
      exact .inr (.inr ⟨_, _, cc, h, hi, hz, hc, k _ rfl⟩)
    · cases e
  · cases e
theorem slotO_eq {e : Env} {i : Nat} {o : O} (h : slotO e i = some o) : ∃ b, e[i]? = some (some (b, o)) := by
  unfold slotO at h
  split at h
  · rename_i b o' he
    cases h
    exact ⟨b, he⟩
  · cases h
section
variable {X : Cx} {W : WX} {a b ex : Expr} {pos p : Pos} {da : Den Rv} {di : Den D}
/-! ### fields -/
/-! ### built-in calls over what is seen -/
@[simp] def lenD : List D → Option D
  | [.str z] => if z.length ≤ sizeLine then some (.int z.length) else none
  | [.tup ds] => some (.int ds.length)
  | [.wtp ds] => some (.int ds.length)
  | [.lst ds] => some (.int ds.length)
  | [.scr ds] => some (.int ds.length)
  | _ => none
theorem reps1 {K : KB} {F : Hp} {d : D} {xs : List V} (h : Reps K F [d] xs) : ∃ v, xs = [v] ∧ Rep K F d v := by
  obtain ⟨x, r, rfl, h1, h2⟩ := h
  exact ⟨x, by rw [show r = [] from h2], h1⟩
theorem reps2 {K : KB} {F : Hp} {d d2 : D} {xs : List V} (h : Reps K F [d, d2] xs) : ∃ v v2, xs = [v, v2] ∧ Rep K F d v ∧ Rep K F d2 v2 := by
  obtain ⟨x, r, rfl, h1, h2⟩ := h
  obtain ⟨y, rfl, h3⟩ := reps1 h2
  exact ⟨x, y, rfl, h1, h3⟩
theorem ok_len : CallOkV X.B (fun xs H Q => ∃ x n, xs = [x] ∧ LenV X.B x H n ∧ Q (.int n) H) lenD := by
  intro H xs ds d h hg
  unfold lenD at hg
  split at hg
  · split at hg
    · rename_i hz
      cases hg
      obtain ⟨v, rfl, h1⟩ := reps1 h
      exact ⟨.int _, fun _ => rfl, fun Q q => ⟨v, _, rfl, by rw [show v = V.str _ from h1]; exact ⟨hz, rfl⟩, q⟩⟩
    · cases hg
  · cases hg
    obtain ⟨v, rfl, a, ys, rfl, h1, h2⟩ := reps1 h
    exact ⟨.int _, fun _ => rfl, fun Q q => ⟨_, _, rfl, .inr ⟨ys, h1, h2.length⟩, q⟩⟩
  · cases hg
    obtain ⟨v, rfl, a, ys, rfl, h1, h2⟩ := reps1 h
    exact ⟨.int _, fun _ => rfl, fun Q q => ⟨_, _, rfl, .inr ⟨ys, h1, h2.length⟩, q⟩⟩
  · cases hg
    obtain ⟨v, rfl, a, ys, rfl, h1, h2⟩ := reps1 h
    exact ⟨.int _, fun _ => rfl, fun Q q => ⟨_, _, rfl, .inl ⟨ys, SqL.of h1, h2.length⟩, q⟩⟩
  · cases hg
    obtain ⟨v, rfl, a, ys, rfl, h1, h2⟩ := reps1 h
    exact ⟨.int _, fun _ => rfl, fun Q q => ⟨_, _, rfl, .inl ⟨ys, h1, h2.length⟩, q⟩⟩
  · cases hg
@[simp] def absD : List D → Option D
  | [.int i] => some (.int (if i < 0 then -i else i))
  | _ => none
theorem ok_abs {K : KB} : CallOkV K (fun xs H Q => ∃ i, xs = [.int i] ∧ Q (.int (if i < 0 then -i else i)) H) absD := by
  intro H xs ds d h hg
  unfold absD at hg
  split at hg
  · cases hg
    exact ⟨.int _, fun _ => rfl, fun Q q => ⟨_, reps_int h, q⟩⟩
  · cases hg
@[simp] def minD : List D → Option D
  | [.int i, .int j] => some (.int (if j < i then j else i))
  | _ => none
@[simp] def maxD : List D → Option D
  | [.int i, .int j] => some (.int (if j > i then j else i))
  | _ => none
@[simp] def intD : List D → Option D
  | [.int i] => some (.int i)
  | [.bl k] => some (.int (if k then 1 else 0))
  | _ => none
theorem ok_int {K : KB} : CallOkV K (fun xs H Q => (∃ i, xs = [.int i] ∧ Q (.int i) H) ∨ ∃ k, xs = [.bl k] ∧ Q (.int (if k then 1 else 0)) H) intD := by
  intro H xs ds d h hg
  unfold intD at hg
  split at hg
  · cases hg
    exact ⟨.int _, fun _ => rfl, fun Q q => .inl ⟨_, reps_int h, q⟩⟩
  · cases hg
    obtain ⟨v, rfl, h1⟩ := reps1 h
    exact ⟨.int _, fun _ => rfl, fun Q q => .inr ⟨_, by rw [show v = V.bl _ from h1], q⟩⟩
  · cases hg
@[simp] def strD : List D → Option D
  | [.int i] => if i.natAbs.log2 < 1920 then some (.str (toString i)) else none
  | _ => none
theorem ok_str {K : KB} : CallOkV K (fun xs H Q => ∃ i, xs = [.int i] ∧ i.natAbs.log2 < 1920 ∧ Q (.str (toString i)) H) strD := by
  intro H xs ds d h hg
  unfold strD at hg
  split at hg
  · split at hg
    · rename_i hz
      cases hg
      exact ⟨.str _, fun _ => rfl, fun Q q => ⟨_, reps_int h, hz, q⟩⟩
    · cases hg
  · cases hg
/-- the ints of a list -/
def intsD : List D → Option (List Int)
  | [] => some []
  | .int i :: ds => (intsD ds).map fun is => i :: is
  | _ :: _ => none
theorem reps_ints {K : KB} {F : Hp} : ∀ {ds : List D} {xs : List V} {is : List Int}, Reps K F ds xs → intsD ds = some is → xs = is.map V.int
  | [], xs, is, h, e => by cases e; exact h
  | .int i :: ds, xs, is, h, e => by
    obtain ⟨x, r, rfl, h1, h2⟩ := h
    obtain ⟨js, hj, e2⟩ := Option.map_eq_some_iff.mp e
    subst e2
    rw [List.map_cons, ← reps_ints h2 hj, show x = V.int i from h1]
  | .any :: ds, xs, is, h, e => by cases e
  | .non :: ds, xs, is, h, e => by cases e
  | .bl _ :: ds, xs, is, h, e => by cases e
  | .str _ :: ds, xs, is, h, e => by cases e
  | .ty _ :: ds, xs, is, h, e => by cases e
  | .adr _ :: ds, xs, is, h, e => by cases e
  | .exc _ _ _ _ _ :: ds, xs, is, h, e => by cases e
  | .tup _ :: ds, xs, is, h, e => by cases e
  | .wtp _ :: ds, xs, is, h, e => by cases e
  | .lst _ :: ds, xs, is, h, e => by cases e
  | .scr _ :: ds, xs, is, h, e => by cases e
  | .dct _ _ :: ds, xs, is, h, e => by cases e
  | .ins _ _ _ :: ds, xs, is, h, e => by cases e
@[simp] def sumD : List D → Option D
  | [.lst ds] => (intsD ds).map fun is => .int is.sum
  | [.scr ds] => (intsD ds).map fun is => .int is.sum
  | _ => none
theorem ok_sum {K : KB} : CallOkV K (rSum K) sumD := by
  intro H xs ds d h hg
  unfold sumD at hg
  split at hg
  · obtain ⟨is, hi, rfl⟩ := Option.map_eq_some_iff.mp hg
    obtain ⟨v, rfl, a, ys, rfl, h1, h2⟩ := reps1 h
    have e := reps_ints h2 hi
    subst e
    exact ⟨.int _, fun _ => rfl, fun Q q => ⟨a, is, rfl, SqL.of h1, q⟩⟩
  · obtain ⟨is, hi, rfl⟩ := Option.map_eq_some_iff.mp hg
    obtain ⟨v, rfl, a, ys, rfl, h1, h2⟩ := reps1 h
    have e := reps_ints h2 hi
    subst e
    exact ⟨.int _, fun _ => rfl, fun Q q => ⟨a, is, rfl, h1, q⟩⟩
  · cases hg
/-- isinstance against a built-in class -/
@[simp] def tyD : D → Option String
  | .non => some "NoneType"
  | .bl _ => some "bool"
  | .int _ => some "int"
  | .str _ => some "str"
  | .tup _ => some "tuple"
  | .lst _ => some "list"
  | _ => none
theorem tyT {K : PySem.W.Frag} {H : Hp} {a : Addr} {xs : List V} (h : SqT K H a xs) : TyX K H (.ref a) (.type "tuple") := by
  rcases h with (h | ⟨o, h⟩) | ⟨o, its, n, h1, h2, _⟩
  · exact .base (.tup h)
  · exact .fTuple h
  · exact .kTuple h1 h2
theorem tyD_ok {K : KB} {H : Hp} {d : D} {v : V} {t : String} (h : Rep K H d v) (e : tyD d = some t) : TyX K H v (.type t) := by
  cases d with
  | non => cases e; rw [show v = V.non from h]; exact .base .non
  | bl b => cases e; rw [show v = V.bl b from h]; exact .base (.bl b)
  | int b => cases e; rw [show v = V.int b from h]; exact .base (.int b)
  | str b => cases e; rw [show v = V.str b from h]; exact .base (.str b)
  | tup ds => cases e; obtain ⟨a, xs, rfl, h1, _⟩ := h; exact tyT h1
  | lst ds => cases e; obtain ⟨a, xs, rfl, h1, _⟩ := h; exact .base (.lst h1)
  | _ => cases e
@[simp] def isiD : List D → Option D
  | [d, .ty n] => (tyD d).bind fun t => (kitB t n).map D.bl
  | _ => none
theorem ok_isi {K : KB} : CallOkV K (rIsi K) isiD := by
  intro H xs ds d h hg
  unfold isiD at hg
  split at hg
  · obtain ⟨t, ht, hk⟩ := Option.bind_eq_some_iff.mp hg
    obtain ⟨b, hb, rfl⟩ := Option.map_eq_some_iff.mp hk
    obtain ⟨v, v2, rfl, h1, h2⟩ := reps2 h
    exact ⟨.bl b, fun _ => rfl, fun Q q => ⟨v, v2, _, _, b, rfl, by rw [show v2 = V.ty _ from h2]; exact .ty _, tyD_ok h1 ht, kit_ty hb, q⟩⟩
  · cases hg
/-- a built-in class's name -/
theorem di_ty {x : Str} {n : String} (hg : Gl X x) (hm : X.mg x = none) (hv : bootBuiltins x = some (.type n)) (hn : x ≠ "__name__" := by decide) (hd : (x == ("__debug__" : Str)) = false := by decide) : DI X W (.Name x pos) (dpure (.ty n)) := di_c (pe_bltn (v := .ty n) hg hm hv rfl hn hd) fun _ => rfl
/-- a constant of the module -/
theorem di_gint {x : Str} {i : Int} {t : Tok} (hg : Gl X x) (hm : X.mg x = some (.int i t)) (hd : (x == ("__debug__" : Str)) = false := by decide) : DI X W (.Name x pos) (dpure (.int i)) := di_c (pe_glob (v := .int i) hg hm ⟨t, rfl⟩ hd) fun _ => rfl
/-! ### list(x), tuple(x) -/
def seqA (a : AR) : Den (List D) := fun e => match a with
  | .im d => (seqD d).map fun x => Res.ok false e x
  | .bor k => ((slotO e k).bind seqO).map fun x => Res.ok false e x
variable {x : Str}
def dlist (da : Den Rv) : Den Rv := dbind (ar1 da) fun a => dbind (seqA a) fun ds => dpure (.new (.lst (ds.map O.im)))
/-- tuple(x) of a list: a new one; of a tuple: itself -/
def dtuple (da : Den Rv) : Den D := dbind (ar1 da) fun a e => match a with
  | .im (.lst ds) => some (.ok false e (.tup ds))
  | .im (.scr ds) => some (.ok false e (.tup ds))
  | .im (.tup ds) => some (.ok false e (.tup ds))
  | .im (.wtp ds) => some (.ok false e (.wtp ds))
  | .im _ => none
  | .bor k => match slotO e k with
    | some (.lst os) => (ims os).map fun ds => Res.ok false e (.tup ds)
    | _ => none
/-! ### x[i] = e -/
def sstI (i : Nat) (de : Den D) (di : Den D) : SDen := sbind de fun x e1 => match slotO e1 i with
  | some _ => sbind di (fun k e => match e[i]?, k with
    | some (some (b, .lst os)), .int j => match ixN os.length j with
      | some n => match os[n]? with
        | some (.im _) => some (.nx true (e.set i (some (b, .lst (os.set n (.im x))))))
        | _ => none
      | none => none
    | _, _ => none) e1
  | none => none
theorem owns_set {K : KB} {F H : Hp} {x : V} {d : D} (hx : Rep K F d x) : ∀ {os : List O} {xs : List V} {fs : List Addr} {n : Nat} {d0 : D}, Owns K F H os xs fs → os[n]? = some (.im d0) → Owns K F H (os.set n (.im d)) (xs.set n x) fs
  | [], xs, fs, n, d0, h, e => by simp at e
  | o :: os, xs, fs, 0, d0, h, e => by
    have eo : o = .im d0 := by simpa using e
    subst eo
    obtain ⟨y, r, f1, f2, rfl, rfl, h1, h2⟩ := h
    exact ⟨x, r, f1, f2, rfl, rfl, ⟨h1.1, hx⟩, h2⟩
  | o :: os, xs, fs, n + 1, d0, h, e => by
    obtain ⟨y, r, f1, f2, rfl, rfl, h1, h2⟩ := h
    exact ⟨y, r.set n x, f1, f2, rfl, rfl, h1, owns_set hx h2 (by simpa using e)⟩
theorem ds_stI {i : Nat} {y : Str} {py spos : Pos} {dv : Den D} (hx : PE X (.Name y py) (tVar i)) (hv : DI X W ex dv) (hi : DI X W b di)
    (hst : ∀ {te ti}, PE X ex te → PE X b ti → PS X (.Assign [.Subscript (.Name y py) b p] ex spos) (tAsg te (gSub (tVar i) ti rSetL))) : DS X W (.Assign [.Subscript (.Name y py) b p] ex spos) (sstI i dv di) := ⟨ps_weak (hst hv.run hi.run) fun D0 σ H q => by
  obtain ⟨c, F, e, ts, R, q⟩ := q
  refine ⟨c, F, e, ts, R, q.sbind (rel := relI) fun F1 H1 e1 x v ef hr q1 => ?_⟩
  obtain ⟨r1, hr1, post1⟩ := q1
  dsimp only at hr1
  cases hs : slotO e1 i with
  | none => rw [hs] at hr1; cases hr1
  | some o0 =>
    rw [hs] at hr1
    obtain ⟨b0, hb0⟩ := slotO_eq hs
    obtain ⟨w0, fs0, hw0, _⟩ := hr.1.slot hb0
    refine ⟨w0, hw0, c, F1, e1, ts, hr.1, ?_⟩
    have q2 : AtS X.B W (sbind di (fun k e => match e[i]?, k with
      | some (some (b, .lst os)), .int j => match ixN os.length j with
        | some n => match os[n]? with
          | some (.im _) => some (.nx true (e.set i (some (b, .lst (os.set n (.im x))))))
          | _ => none
        | none => none
      | _, _ => none)) D0 c F1 σ e1 ts H1 := ⟨r1, hr1, post1⟩
    refine q2.sbind (rel := relI) fun F2 H2 e2 k u ef2 hr2 q3 => ?_
    obtain ⟨r3, hr3, post3⟩ := q3
    dsimp only at hr3
    split at hr3
    · rename_i bb os j he2
      split at hr3
      · rename_i n hn
        split at hr3
        · rename_i d0 hd0
          cases hr3
          obtain ⟨w, f0, hw, how, nd, fr, hc⟩ := hr2.1.mutSlot he2
          rw [hw0] at hw
          cases hw
          obtain ⟨a, xs, rr, rfl, rfl, ha, hos⟩ := how
          have hrx : Rep X.B F2 x v := Rep.mono ef2 _ _ hr.2
          have fa := fr a List.mem_cons_self
          refine ⟨a, xs, j, n, rfl, hr2.2, ha, by rw [← hos.length]; exact hn, ?_⟩
          refine post3 F2 _ σ (Ex.refl _) (fun z => by cases z) (hc F2 _ (.lst (os.set n (.im x))) (a :: rr) ⟨Ex.refl _, fun p u z => ?_, fun q u hq z => ?_, fun p hp => .inl hp⟩ ⟨a, xs.set n v, rr, rfl, rfl, upd_same, ?_⟩ nd fun q hq => ⟨.inl hq, fr q hq⟩)
          · rw [upd_ne (fun w => by subst w; rw [fa.1] at z; cases z)]
            exact hr2.1.fh p u z
          · rw [upd_ne (fun w => hq (by subst w; exact List.mem_cons_self))]
            exact z
          · refine Owns.mono (Ex.refl _) _ _ _ (fun p hp u z => ?_) (owns_set hrx hos hd0)
            rw [upd_ne (fun w => (List.nodup_cons.mp nd).1 (by subst w; exact hp))]
            exact z
        · cases hr3
      · cases hr3
    · cases hr3⟩
end
end DL

/-! DLL: what is owned, seen through: items and fields of what is nested; loops over it; tuples of what is owned. -/
namespace DL
open PySem PySem.Spec PyProof.Rows L2 Evl

/-- what stands there now, owned or frozen -/
def relW : Rel O V := fun K c F H σ e ts o v => RE K c F H σ e ts ∧ ∃ fs, Own K F H o v fs
structure DO (X : Cx) (W : WX) (ex : Expr) (den : Den O) : Prop where
  run : PE X ex (rd relW X.B W den)
def ow (d : Den Rv) : Den O := dbind d fun r => match r with
  | .im d => dpure (.im d)
  | .new o => dpure (.im o.flat)
  | .bor _ o => dpure o
def imD (d : Den O) : Den D := dbind d fun o => dlift (imO o)
def fl (d : Den O) : Den D := dbind d fun o => dpure o.flat
section
variable {X : Cx} {W : WX} {a b ex : Expr} {pos p : Pos} {da : Den Rv} {di : Den D}
theorem DE.o (h : DE X W ex da) : DO X W ex (ow da) := ⟨pe_weak h.run fun σ H Q q => by
  obtain ⟨c, F, e, ts, R, q⟩ := q
  refine ⟨c, F, e, ts, R, q.bind fun F1 H1 e1 x v ef hrel q2 => ?_⟩
  cases x with
  | im d => exact At.pure (a := O.im d) q2 F1 H1 v (Ex.refl _) (Ex.refl _) ⟨hrel.1, [], rfl, hrel.2⟩
  | new o =>
    obtain ⟨F3, e3, R3, h3⟩ := RE.freezeT hrel
    exact At.pure (a := O.im o.flat) q2 F3 H1 v e3 (Ex.refl _) ⟨R3, [], rfl, h3⟩
  | bor i o =>
    obtain ⟨R2, hv, b, hb⟩ := hrel
    obtain ⟨w, fs, hw, ho⟩ := R2.slot hb
    rw [hv] at hw
    cases hw
    exact At.pure (a := o) q2 F1 H1 v (Ex.refl _) (Ex.refl _) ⟨R2, fs, ho⟩⟩
theorem DO.i {d : Den O} (h : DO X W ex d) : DI X W ex (imD d) := ⟨pe_weak h.run fun σ H Q q => by
  obtain ⟨c, F, e, ts, R, q⟩ := q
  refine ⟨c, F, e, ts, R, q.bind (rel := relW) fun F1 H1 e1 x v ef hrel q2 => ?_⟩
  obtain ⟨d, hd, k⟩ := q2.lift
  cases x <;> cases hd
  exact k F1 H1 v (Ex.refl _) (Ex.refl _) ⟨hrel.1, hrel.2.choose_spec.2⟩⟩
theorem DO.v {d : Den O} (h : DO X W ex d) : DV X W ex (fl d) := ⟨pe_weak h.run fun σ H Q q => by
  obtain ⟨c, F, e, ts, R, q⟩ := q
  refine ⟨c, F, e, ts, R, q.bind (rel := relW) fun F1 H1 e1 x v ef hrel q2 => ?_⟩
  obtain ⟨R1, fs, ho⟩ := hrel
  exact At.pure (a := x.flat) q2 F1 H1 v (Ex.refl _) (Ex.refl _) ⟨R1, ho.view R1.fh⟩⟩
/-! ### items -/
@[simp] def elemOO : O → D → Option O
  | .lst os, .int i => atI os i
  | .tup os, .int i => atI os i
  | .im d, i => (elemD d i).map O.im
  | _, _ => none
def dixO (d : Den O) (di : Den D) : Den O := dbind d fun o => dbind (dq di) fun i => dlift (elemOO o i)
theorem atI_ownsO {K : KB} {F H : Hp} {os : List O} {xs : List V} {fs : List Addr} {i : Int} {o : O} (h : Owns K F H os xs fs) (e : atI os i = some o) : ∃ x f, atI xs i = some x ∧ Own K F H o x f := by
  unfold atI at e ⊢
  rw [h.length] at e
  obtain ⟨j, hj, e2⟩ := Option.bind_eq_some_iff.mp e
  have key : ∀ {os : List O} {xs : List V} {fs : List Addr} {j : Nat}, Owns K F H os xs fs → os[j]? = some o → ∃ x f, xs[j]? = some x ∧ Own K F H o x f := by
    intro os
    induction os with
    | nil => intro xs fs j _ z; simp at z
    | cons o0 os ih =>
      intro xs fs j h z
      obtain ⟨x, r, f1, f2, e1, _, h1, h2⟩ := h
      subst e1
      cases j with
      | zero =>
        have : o0 = o := by simpa using z
        subst this
        exact ⟨x, f1, rfl, h1⟩
      | succ j =>
        obtain ⟨y, f, hy, hr⟩ := ih h2 (by simpa using z)
        exact ⟨y, f, by simpa using hy, hr⟩
  obtain ⟨x, f, hx, hr⟩ := key h e2
  exact ⟨x, f, by rw [hj]; exact hx, hr⟩
theorem elemOO_ok {K : KB} {F H : Hp} {o x : O} {i : D} {v u : V} {fs : List Addr} {Q : VK} (fh : Ex F H) (h : Own K F H o v fs) (hi : Rep K F i u) (e : elemOO o i = some x) (k : ∀ w f, Own K F H x w f → Q w H) : rIx K v u H Q := by
  unfold elemOO at e
  split at e
  · obtain ⟨a, xs, r, rfl, _, h1, h2⟩ := h
    obtain ⟨w, f, hw, hr⟩ := atI_ownsO h2 e
    exact .inl ⟨a, xs, _, w, rfl, hi, SqL.of h1, hw, k w f hr⟩
  · obtain ⟨a, xs, r, rfl, _, h1, h2⟩ := h
    obtain ⟨w, f, hw, hr⟩ := atI_ownsO h2 e
    exact .inr (.inl ⟨a, xs, _, w, rfl, hi, SqT.of h1, hw, k w f hr⟩)
  · obtain ⟨d, hd, rfl⟩ := Option.map_eq_some_iff.mp e
    exact elemD_ok fh h.2 hi hd fun w hw => k w [] ⟨rfl, hw⟩
  · cases e
theorem do_ix {d : Den O} (ha : DO X W a d) (hb : DI X W b di) (hs : PlainIx b := by exact fun _ _ => rfl) : DO X W (.Subscript a b pos) (dixO d di) := ⟨pe_weak (pe_ix ix_seq ha.run hb.run hs) fun σ H Q q => by
  obtain ⟨c, F, e, ts, R, q⟩ := q
  refine ⟨c, F, e, ts, R, q.bind (rel := relW) fun F1 H1 e1 x v ef hr q1 => ⟨c, F1, e1, ts, hr.1, ?_⟩⟩
  have q2 := (q1.bind (rel := relI) (Q' := fun u H2 => Ex H1 H2 → rIx X.B v u H2 Q) fun F2 H2 e2 y u ef2 hr2 q2 ee => by
    obtain ⟨o, hd, k⟩ := q2.lift
    obtain ⟨fs, ho⟩ := hr.2
    exact elemOO_ok hr2.1.fh (Own.mono ef2 _ _ _ (fun p _ w z => ee p w z) ho) hr2.2 hd fun w f hw => k F2 H2 w (Ex.refl _) (Ex.refl _) ⟨hr2.1, f, hw⟩).quiet
  obtain ⟨rr, h1, post⟩ := q2
  refine ⟨rr, h1, ?_⟩
  cases rr with
  | err m e1 x => exact post
  | ok m e1 a => exact fun F' H' v' ef' eh hrel => let z := post F' H' v' ef' eh hrel; z.2 z.1 z.1⟩
/-! ### fields -/
def fldO (Cs : List Addr) (f : Str) : O → Option O
  | .im (.ins C ns ds) => if C ∈ Cs then ((ns.zip ds).lookup f).map O.im else none
  | .ins C ns os => if C ∈ Cs then (ns.zip os).lookup f else none
  | _ => none
/-! ### slices, of lists that come new, of tuples, of texts -/
structure DP (X : Cx) (W : WX) (ex : Option Expr) (den : Den (Option Int)) : Prop where
  run : PO X ex (rd (fun K c F H σ e ts (a b : Option Int) => RE K c F H σ e ts ∧ a = b) X.B W den)
theorem po_weak {ex : Option Expr} {t t' : TO} (h : PO X ex t) (k : ∀ σ H Q, t' σ H Q → t σ H Q) : PO X ex t' := ⟨fun pins s σ H Q I r => h.run pins s σ H Q I (k σ H Q r)⟩
theorem dp_none : DP X W none (dpure none) := ⟨po_weak po_none fun σ H Q q => by
  obtain ⟨c, F, e, ts, R, q⟩ := q
  exact At.pure (a := Option.none) q F H Option.none (Ex.refl _) (Ex.refl _) ⟨R, rfl⟩⟩
@[simp] def partD : D → Option (Option Int)
  | .int i => some (some i)
  | _ => none
theorem dp_some (h : DI X W ex di) : DP X W (some ex) (dbind di fun d => dlift (partD d)) := ⟨po_weak (po_some h.run) fun σ H Q q => by
  obtain ⟨c, F, e, ts, R, q⟩ := q
  refine ⟨c, F, e, ts, R, q.bind (rel := relI) fun F1 H1 e1 x v ef hr q1 => ?_⟩
  obtain ⟨o, hd, k⟩ := q1.lift
  cases x <;> cases hd
  exact ⟨_, hr.2, k F1 H1 _ (Ex.refl _) (Ex.refl _) ⟨hr.1, rfl⟩⟩⟩
def cutD (xs : List D) (lo hi : Option Int) : List D := (xs.drop (HT.sIx xs.length 0 lo)).take (HT.sIx xs.length xs.length hi - HT.sIx xs.length 0 lo)
theorem Reps.drop {K : KB} {F : Hp} : ∀ {ds : List D} {xs : List V} (n : Nat), Reps K F ds xs → Reps K F (ds.drop n) (xs.drop n)
  | ds, xs, 0, h => h
  | [], xs, n + 1, h => by rw [show xs = [] from h]; rfl
  | d :: ds, xs, n + 1, h => by
    obtain ⟨x, r, rfl, _, h2⟩ := h
    exact Reps.drop n h2
theorem Reps.take {K : KB} {F : Hp} : ∀ {ds : List D} {xs : List V} (n : Nat), Reps K F ds xs → Reps K F (ds.take n) (xs.take n)
  | ds, xs, 0, h => rfl
  | [], xs, n + 1, h => by rw [show xs = [] from h]; rfl
  | d :: ds, xs, n + 1, h => by
    obtain ⟨x, r, rfl, h1, h2⟩ := h
    exact ⟨x, r.take n, rfl, h1, Reps.take n h2⟩
theorem reps_cut {K : KB} {F : Hp} {ds : List D} {xs : List V} {lo hi : Option Int} (h : Reps K F ds xs) : Reps K F (cutD ds lo hi) (cutV xs lo hi) := by
  unfold cutD cutV
  rw [h.length]
  exact (h.drop _).take _
/-- a cut of what is seen: a list's is new -/
def cutO (o : O) (lo hi : Option Int) : Option Rv := match o with
  | .im (.lst ds) => some (.new (.lst ((cutD ds lo hi).map O.im)))
  | .im (.scr ds) => some (.new (.lst ((cutD ds lo hi).map O.im)))
  | .lst os => (ims os).map fun ds => .new (.lst ((cutD ds lo hi).map O.im))
  | .im (.tup ds) => some (.im (.tup (cutD ds lo hi)))
  | .im (.str z) => if z.length ≤ sizeLine then some (.im (.str (cutS z lo hi))) else none
  | _ => none
def rSl3 (K : KB) : V → Option Int → Option Int → Hp → VK → Prop := fun x lo hi H Q => rSlL K x lo hi H Q ∨ rSlA K x lo hi H Q ∨ rSlS x lo hi H Q
theorem sl3 : SlR X (rSl3 X.B) := sl_list.or (sl_tupA.or sl_str)
def dslice (d : Den O) (dl dh : Den (Option Int)) : Den Rv := dbind d fun o => dbind (dq dl) fun lo => dbind (dq dh) fun hi => dlift (cutO o lo hi)
theorem de_slice {d : Den O} {lo hi : Option Expr} {dl dh : Den (Option Int)} {p2 : Pos} (ha : DO X W a d) (hl : DP X W lo dl) (hh : DP X W hi dh) : DE X W (.Subscript a (.Slice lo hi none p2) pos) (dslice d dl dh) := ⟨pe_weak (pe_slice sl3 ha.run hl.run hh.run) fun σ H Q q => by
  obtain ⟨c, F, e, ts, R, q⟩ := q
  refine ⟨c, F, e, ts, R, q.bind (rel := relW) fun F1 H1 e1 x v ef hr q1 => ⟨c, F1, e1, ts, hr.1, ?_⟩⟩
  have q2 := (q1.bind (rel := (fun K c F H σ e ts (a b : Option Int) => RE K c F H σ e ts ∧ a = b)) (Q' := fun l H2 => Ex H1 H2 → rd (fun K c F H σ e ts (a b : Option Int) => RE K c F H σ e ts ∧ a = b) X.B W dh σ H2 fun u H3 => rSl3 X.B v l u H3 Q) fun F2 H2 e2 l l' ef2 hr2 q2 ee => by
    obtain ⟨R2, rfl⟩ := hr2
    refine ⟨c, F2, e2, ts, R2, ?_⟩
    have q3 := (q2.bind (rel := (fun K c F H σ e ts (a b : Option Int) => RE K c F H σ e ts ∧ a = b)) (Q' := fun u H3 => Ex H2 H3 → rSl3 X.B v l u H3 Q) fun F3 H3 e3 h h' ef3 hr3 q3 ee3 => by
      obtain ⟨R3, rfl⟩ := hr3
      obtain ⟨rv, hd, k⟩ := q3.lift
      obtain ⟨fs, ho⟩ := hr.2
      have ho3 : Own X.B F3 H3 x v fs := Own.mono (ef2.trans ef3) _ _ _ (fun p _ w z => (ee.trans ee3) p w z) ho
      have lst : ∀ {ds : List D} {a : Addr} {xs : List V}, v = .ref a → Reps X.B F3 ds xs → SqL X.B H3 a xs → rv = .new (.lst ((cutD ds l h).map O.im)) → rSl3 X.B v l h H3 Q := by
        intro ds a xs ev hrs hsq erv
        subst ev
        subst erv
        exact .inl ⟨a, xs, rfl, hsq, fun p hp => k F3 _ (.ref p) (Ex.refl _) (Ex.new hp) (R3.newO hp ⟨p, _, [], rfl, rfl, upd_same, owns_im (reps_cut hrs)⟩)⟩
      have tup : ∀ {ds : List D} {a : Addr} {xs : List V}, v = .ref a → Reps X.B F3 ds xs → SqT X.B F3 a xs → rv = .im (.tup (cutD ds l h)) → rSl3 X.B v l h H3 Q := by
        intro ds a xs ev hrs hsq erv
        subst ev
        subst erv
        refine .inr (.inl ⟨a, xs, rfl, ex_t R3.fh hsq, fun hw => k F3 H3 (.ref a) (Ex.refl _) (Ex.refl _) ⟨R3, a, xs, rfl, hsq, ?_⟩, fun hne p hp => k (upd F3 p (.tup (cutV xs l h))) _ (.ref p) (Ex.new (none_of_ex R3.fh hp)) (Ex.new hp) ⟨R3.newF hp, p, _, rfl, SqT.of upd_same, Reps.mono (Ex.new (none_of_ex R3.fh hp)) _ _ (reps_cut hrs)⟩⟩)
        have : cutD ds l h = ds := by
          unfold cutD
          rw [hrs.length, hw.1, hw.2, List.drop_zero, ← hrs.length]
          exact List.take_length
        rw [this]
        exact hrs
      unfold cutO at hd
      split at hd
      · cases hd
        obtain ⟨_, a, xs, ev, h1, h2⟩ := ho3
        exact lst ev h2 (SqL.of (R3.fh _ _ h1)) rfl
      · cases hd
        obtain ⟨_, a, xs, ev, h1, h2⟩ := ho3
        exact lst ev h2 (ex_l R3.fh h1) rfl
      · obtain ⟨ds, hz, e5⟩ := Option.map_eq_some_iff.mp hd
        have eo := ims_eq hz
        subst eo
        obtain ⟨a, xs, rr, ev, _, h1, h2⟩ := ho3
        exact lst ev (of_owns_im h2).1 (SqL.of h1) e5.symm
      · cases hd
        obtain ⟨_, a, xs, ev, h1, h2⟩ := ho3
        exact tup ev h2 h1 rfl
      · split at hd
        · rename_i hz
          cases hd
          exact .inr (.inr ⟨_, ho3.2, hz, k F3 H3 _ (Ex.refl _) (Ex.refl _) ⟨R3, rfl⟩⟩)
        · cases hd
      · cases hd).quiet
    obtain ⟨rr, h1, post⟩ := q3
    refine ⟨rr, h1, ?_⟩
    cases rr with
    | err m e1 x => exact post
    | ok m e1 a => exact fun F' H' v' ef' eh hrel => let z := post F' H' v' ef' eh hrel; z.2 z.1 z.1).quiet
  obtain ⟨rr, h1, post⟩ := q2
  refine ⟨rr, h1, ?_⟩
  cases rr with
  | err m e1 x => exact post
  | ok m e1 a => exact fun F' H' v' ef' eh hrel => let z := post F' H' v' ef' eh hrel; z.2 z.1 z.1⟩
end
end DL

/-! DLM: chains; tuples of what is owned; a list within, appended to; the end. -/
namespace DL
open PySem PySem.Spec PyProof.Rows L2 Evl
section
variable {X : Cx} {W : WX} {a b cc ex : Expr} {pos p : Pos} {da db dc : Den D}
def dchain (da db dc : Den D) (g g' : D → D → Option Bool) : Den D := dbind da fun x => dbind (dq db) fun y => dbind (dlift (g x y)) fun k => if k then dbind (dq dc) fun z => dlift ((g' y z).map D.bl) else dpure (.bl false)
theorem At.toQ {α β : Type} {rel : Rel α β} {K : KB} {den : Den α} {c : Ctx} {F H : Hp} {σ : L2.St} {e : Env} {ts : List (V × O)} {Q : β → Hp → Prop} (h : At rel K W (dq den) c F σ e ts H (fun v H' => Ex H H' → Q v H')) : At rel K W den c F σ e ts H Q := by
  have q := h.quiet
  obtain ⟨rr, h1, post⟩ := q
  refine ⟨rr, h1, ?_⟩
  cases rr with
  | err m e1 x => exact post
  | ok m e1 a => exact fun F' H' v' ef' eh hrel => let z := post F' H' v' ef' eh hrel; z.2 z.1 z.1
variable {j : Nat} {p2 : Pos}
theorem dt_isN (ha : DV X W a da) : DT X W (.Compare a [.Is] [.Constant .none j p2] pos) (dtB (dbind da fun x => dlift (noneD x))) := ⟨pt_weak (pt_cmp (pc_isN ha.run)) fun σ H Q q => by
  obtain ⟨c, F, e, ts, R, q⟩ := tB_rd q
  refine ⟨c, F, e, ts, R, q.bind (rel := relV) fun F1 H1 e1 x v ef hr q1 => ?_⟩
  obtain ⟨d, hd, k⟩ := q1.lift
  have hx : x ≠ .any := fun z => by subst z; cases hd
  rw [rep_none hr.2 hx]
  have hd' : d = .bl (isNoneD x) := by cases x <;> first | exact absurd rfl hx | (cases hd; rfl)
  subst hd'
  exact k F1 H1 _ (Ex.refl _) (Ex.refl _) ⟨hr.1, rfl⟩⟩

/-! ### tuples of what is owned -/
/-- the values as temporaries, in their order -/
def relT : Rel (List O) (List V) := fun K c F H σ e ts os vs => RE K c F H σ e (vs.zip os ++ ts) ∧ os.length = vs.length
structure DTM (X : Cx) (W : WX) (es : List Expr) (den : Den (List O)) : Prop where
  run : PA X es (rd relT X.B W den)
/-- a slot's holding is moved -/
def rvM (rv : Rv) : Den O := fun e => match rv with
  | .im d => some (.ok false e (.im d))
  | .new o => some (.ok false e o)
  | .bor i _ => match e[i]? with
    | some (some (false, o)) => some (.ok false (e.set i none) o)
    | some (some (true, o)) => some (.ok false (e.set i (some (true, .im o.flat))) (.im o.flat))
    | _ => none
def dtmc (d : Den Rv) (ds : Den (List O)) : Den (List O) := dbind d fun rv => dbind (rvM rv) fun o => dbind ds fun os => dpure (o :: os)
def dtupN (ds : Den (List O)) : Den Rv := dbind ds fun os => dlift (if os.length ≤ sizeLine then some (.new (.tup os)) else none)
end
end DL

/-! DLN: a list within what a slot holds, appended to; constants; the law's end. -/
namespace DL
open PySem PySem.Spec PyProof.Rows L2 Evl
section
variable {X : Cx} {W : WX} {a b ex : Expr} {pos p p2 px apos : Pos} {x : Str}
theorem di_gI {x : Str} {i : Int} (hg : Gl X x) (hm : ∃ t, X.mg x = some (.int i t)) (hd : (x == ("__debug__" : Str)) = false := by decide) : DI X W (.Name x pos) (dpure (.int i)) := by
  obtain ⟨t, ht⟩ := hm
  exact di_gint hg ht hd
end
/-! ### the end -/
theorem law_spec {K : KB} {H : Hp} {a : Addr} {ns : List Int} {f : FDen} (hS : SqL K H a (ns.map V.int)) (hf : ∃ m os, f [.im (.scr (ns.map D.int))] = some (.ok m os (.im (.bl true)))) : spD K 1 f [V.ref a] H (fun v x => v = V.bl true) (fun _ _ _ => False) := by
  obtain ⟨m, os, hf⟩ := hf
  have hr : Reps K H (ns.map D.int) (ns.map V.int) := by
    have key : ∀ l : List Int, Reps K H (l.map D.int) (l.map V.int) := by
      intro l
      induction l with
      | nil => exact rfl
      | cons a l ih => exact ⟨_, _, rfl, rfl, ih⟩
    exact key ns
  refine ⟨rfl, H, [.im (.scr (ns.map D.int))], [], _, rfl, ⟨[], [], rfl, ⟨rfl, a, _, rfl, hS, hr⟩, rfl⟩, List.nodup_nil, fun p hp => (nomatch hp), Ex.refl _, hf, ?_⟩
  intro F' H' v fs' _ _ _ _ _ hrep _ _ _
  exact hrep
theorem walkD {α : Type} {l : PySem.W.OpenLaw} {k : Nat} {q : Program} {loose : List Str} {XP : (Str → Option Value) → Heap → Prop} {YP : World → Heap → Prop} {d : DefRec} {K : Params → PySem.W.Frag} {x : Str} {f : α → FDen} {G : α → Prop} (hn : l.most = some 63) (hdf : d.params.defaults = []) (hroom : Room k callerA)
    (hY : ∀ (w : World) (h : Heap), YP w h → (K w.params).In h) (hf : ∀ A, G A → ∀ ns : List Int, ns.length ≤ 63 → ∃ m os, f A [.im (.scr (ns.map D.int))] = some (.ok m os (.im (.bl true))))
    (F : ∀ (w : World) (mg : Str → Option Value) (fa : Addr) (h : Heap), (K w.params).In h → h.Ns mainGlobals mg → mg d.name = some (.ref fa) →
      ∃ (fd : FuncData) (A : α), G A ∧ (∀ (s : Shared) (u : Value), BindsTo s fd ⟨[u], []⟩ [(x, u)]) ∧ ∀ base : Heap, (K w.params).In base → base.Ns mainGlobals mg → FnOk l.prog w (K w.params) mg base (L2.CX l.prog w) k fa fd [x] (spD ⟨K w.params, l.prog, w, mg⟩ 1 (f A))) :
    PySem.W.WalkO q loose XP YP l.row.toRowW d [] (fun f vs => PySem.call f vs) :=
  L2.walk_of (n := 63) (k := k) (x := x) (CX := fun w => L2.CX l.prog w) (sp := fun w vs H Q E => vs.length = 1 ∧ ∀ mg A, G A → spD ⟨K w.params, l.prog, w, mg⟩ 1 (f A) vs H Q E) hn (by decide) hdf hroom hY (fun w mg fa h h1 h2 h3 => by
      obtain ⟨fd, A, gA, hb, hF⟩ := F w mg fa h h1 h2 h3
      exact ⟨fd, hb, fun base b1 b2 => (hF base b1 b2).imp fun vs H Q E z => z.2 mg A gA⟩) (fun _ _ a ns hl _ hS => ⟨rfl, fun _ A gA => law_spec hS (hf A gA ns hl)⟩) fun _ _ _ _ _ z => by
    obtain ⟨_, _, _, _, _, _, _, _, _, _, _, _, z⟩ := z
    exact z
end DL

/-! DLO: denotations reckoned: what must hold so that they end as wanted. -/
namespace DL
open PySem PySem.Spec PyProof.Rows L2 Evl

/-- an expression's denotation ends well; q: and changed nothing -/
def EW {α : Type} (q : Bool) (d : Den α) (e : Env) (P : α → Env → Prop) : Prop := ∃ m e' a, d e = some (.ok m e' a) ∧ (q = true → m = false) ∧ P a e'
/-- a statement's; N: it goes on, R: it returns, B: it breaks, C: it continues -/
structure Aft where
  N : Env → Prop
  R : Rv → Env → Prop
  B : Env → Prop := fun _ => False
  C : Env → Prop := fun _ => False
def SP' (A : Aft) : SRes → Prop
  | .nx _ e => A.N e
  | .rt _ e r => A.R r e
  | .bk _ e => A.B e
  | .ct _ e => A.C e
  | .er _ _ _ => False
def SW (s : SDen) (e : Env) (A : Aft) : Prop := ∃ r, s e = some r ∧ SP' A r
section
variable {α β : Type} {q : Bool} {e : Env}
theorem SP'.more {A : Aft} {m : Bool} {r : SRes} (h : SP' A r) : ∃ r', SRes.more m (some r) = some r' ∧ SP' A r' := by
  cases r <;> first | exact ⟨_, rfl, h⟩ | exact False.elim h
theorem ew_pure {a : α} {P : α → Env → Prop} : EW q (dpure a) e P ↔ P a e := ⟨fun ⟨m, e', b, h, _, p⟩ => by cases h; exact p, fun h => ⟨false, e, a, rfl, fun _ => rfl, h⟩⟩
theorem ew_lift {a : Option α} {P : α → Env → Prop} : EW q (dlift a) e P ↔ ∃ x, a = some x ∧ P x e := by
  cases a with
  | none => exact ⟨fun ⟨m, e', b, h, _⟩ => (by cases h), fun ⟨x, h, _⟩ => by cases h⟩
  | some a => exact ew_pure.trans ⟨fun h => ⟨a, rfl, h⟩, fun ⟨x, h, p⟩ => by cases h; exact p⟩
theorem ew_bind {d : Den α} {f : α → Den β} {P : β → Env → Prop} : EW q (dbind d f) e P ↔ EW q d e fun a e' => EW q (f a) e' P := by
  constructor
  · rintro ⟨m, e', b, h, hm, p⟩
    unfold dbind at h
    cases hd : d e with
    | none => rw [hd] at h; cases h
    | some r =>
      rw [hd] at h
      cases r with
      | err m1 e1 x => cases h
      | ok m1 e1 a =>
        obtain ⟨m2, h2, hm2⟩ := more_ok h
        subst hm2
        exact ⟨m1, e1, a, hd, fun z => or_l (hm z), m2, e', b, h2, fun z => or_r (hm z), p⟩
  · rintro ⟨m1, e1, a, hd, hm1, m2, e2, b, h2, hm2, p⟩
    refine ⟨m1 || m2, e2, b, ?_, fun z => by rw [hm1 z, hm2 z]; rfl, p⟩
    unfold dbind
    rw [hd]
    show Res.more m1 (f a e1) = _
    rw [h2]
    rfl
theorem ew_dq {d : Den α} {P : α → Env → Prop} : EW q (dq d) e P ↔ EW true d e P := by
  constructor
  · rintro ⟨m, e', b, h, hm, p⟩
    unfold dq at h
    cases hd : d e with
    | none => rw [hd] at h; cases h
    | some r =>
      rw [hd] at h
      cases r with
      | err m1 e1 x => cases h
      | ok m1 e1 a =>
        cases m1 with
        | true => cases h
        | false => cases h; exact ⟨false, e', b, hd, fun _ => rfl, p⟩
  · rintro ⟨m1, e1, a, hd, hm1, p⟩
    have := hm1 rfl
    subst this
    exact ⟨false, e1, a, by unfold dq; rw [hd], fun _ => rfl, p⟩
/-- what stands in a slot -/
def lk (e : Env) (i : Nat) : Slot := (e[i]?).getD none
theorem ew_var {i : Nat} {P : Rv → Env → Prop} : EW q (dvar i) e P ↔ match lk e i with
    | some (_, .im d) => P (.im d) e
    | some (_, o) => P (.bor i o) e
    | none => False := by
  unfold lk EW dvar
  cases h : e[i]? with
  | none => exact ⟨fun ⟨m, e', b, h, _⟩ => (by cases h), fun h => False.elim h⟩
  | some s =>
    cases s with
    | none => exact ⟨fun ⟨m, e', b, h, _⟩ => (by cases h), fun h => False.elim h⟩
    | some s =>
      obtain ⟨b, o⟩ := s
      cases o <;> exact ⟨fun ⟨m, e', b, h, _, p⟩ => by cases h; exact p, fun p => ⟨false, e, _, rfl, fun _ => rfl, p⟩⟩
theorem ew_ite {c : Prop} [Decidable c] {d f : Den α} {P : α → Env → Prop} : EW q (if c then d else f) e P ↔ (c → EW q d e P) ∧ (¬ c → EW q f e P) := by
  by_cases h : c
  · rw [if_pos h]
    exact ⟨fun p => ⟨fun _ => p, fun z => absurd h z⟩, fun p => p.1 h⟩
  · rw [if_neg h]
    exact ⟨fun p => ⟨fun z => absurd z h, fun _ => p⟩, fun p => p.2 h⟩
theorem ew_frz {d : Den Rv} {P : D → Env → Prop} : EW q (frz d) e P ↔ EW q d e fun r e' => match r with
    | .im d => P d e'
    | .new o => P o.flat e'
    | .bor i o => match lk e' i with
      | some (b, _) => P o.flat (e'.set i (some (b, .im o.flat)))
      | none => False := by
  unfold frz
  rw [ew_bind]
  refine ⟨fun h => ?_, fun h => ?_⟩
  all_goals
    obtain ⟨m, e', r, h1, h2, h3⟩ := h
    refine ⟨m, e', r, h1, h2, ?_⟩
  · cases r with
    | im d => obtain ⟨m, e', b, h, _, p⟩ := h3; cases h; exact p
    | new o => obtain ⟨m, e', b, h, _, p⟩ := h3; cases h; exact p
    | bor i o =>
      obtain ⟨m, e2, b, h, _, p⟩ := h3
      unfold lk
      dsimp only at h ⊢
      cases hi : e'[i]? with
      | none => rw [hi] at h; cases h
      | some s =>
        rw [hi] at h
        cases s with
        | none => cases h
        | some s => obtain ⟨b, o1⟩ := s; cases h; exact p
  · cases r with
    | im d => exact ⟨false, e', d, rfl, fun _ => rfl, h3⟩
    | new o => exact ⟨false, e', _, rfl, fun _ => rfl, h3⟩
    | bor i o =>
      unfold lk at h3
      dsimp only at h3
      cases hi : e'[i]? with
      | none => rw [hi] at h3; exact False.elim h3
      | some s =>
        rw [hi] at h3
        cases s with
        | none => exact False.elim h3
        | some s =>
          obtain ⟨b, o1⟩ := s
          refine ⟨false, e'.set i (some (b, .im o.flat)), o.flat, ?_, fun _ => rfl, h3⟩
          dsimp only
          rw [hi]
theorem ew_vw {d : Den Rv} {P : D → Env → Prop} : EW q (vw d) e P ↔ EW q d e fun r e' => match r with
    | .im d => P d e'
    | .new o => P o.flat e'
    | .bor _ o => P o.flat e' := by
  unfold vw
  rw [ew_bind]
  refine ⟨fun ⟨m, e', r, h1, h2, h3⟩ => ⟨m, e', r, h1, h2, ?_⟩, fun ⟨m, e', r, h1, h2, h3⟩ => ⟨m, e', r, h1, h2, ?_⟩⟩
  all_goals cases r <;> first | exact ew_pure.mp h3 | exact ew_pure.mpr h3
theorem ew_ow {d : Den Rv} {P : O → Env → Prop} : EW q (ow d) e P ↔ EW q d e fun r e' => match r with
    | .im d => P (.im d) e'
    | .new o => P (.im o.flat) e'
    | .bor _ o => P o e' := by
  unfold ow
  rw [ew_bind]
  refine ⟨fun ⟨m, e', r, h1, h2, h3⟩ => ⟨m, e', r, h1, h2, ?_⟩, fun ⟨m, e', r, h1, h2, h3⟩ => ⟨m, e', r, h1, h2, ?_⟩⟩
  all_goals cases r <;> first | exact ew_pure.mp h3 | exact ew_pure.mpr h3
theorem ew_imR {d : Den D} {P : Rv → Env → Prop} : EW q (imR d) e P ↔ EW q d e fun x e' => P (.im x) e' := by unfold imR; rw [ew_bind]; simp only [ew_pure]
theorem ew_imD {d : Den O} {P : D → Env → Prop} : EW q (imD d) e P ↔ EW q d e fun o e' => ∃ x, imO o = some x ∧ P x e' := by unfold imD; rw [ew_bind]; simp only [ew_lift]
theorem ew_fl {d : Den O} {P : D → Env → Prop} : EW q (fl d) e P ↔ EW q d e fun o e' => P o.flat e' := by unfold fl; rw [ew_bind]; simp only [ew_pure]
theorem ew_bin {da db : Den D} {g : D → D → Option D} {P : D → Env → Prop} : EW q (dbin da db g) e P ↔ EW q da e fun x e1 => EW q db e1 fun y e2 => ∃ z, g x y = some z ∧ P z e2 := by unfold dbin; simp only [ew_bind, ew_lift]
theorem ew_cmp {da db : Den D} {g : D → D → Option Bool} {P : D → Env → Prop} : EW q (dcmp da db g) e P ↔ EW q da e fun x e1 => EW true db e1 fun y e2 => ∃ z, g x y = some z ∧ P (.bl z) e2 := by
  unfold dcmp
  simp only [ew_bind, ew_lift, ew_dq]
  refine ⟨fun ⟨m, e1, x, h1, h2, m2, e2, y, h3, h4, d, hd, p⟩ => ?_, fun ⟨m, e1, x, h1, h2, m2, e2, y, h3, h4, z, hz, p⟩ => ⟨m, e1, x, h1, h2, m2, e2, y, h3, h4, .bl z, by rw [hz]; rfl, p⟩⟩
  obtain ⟨b, hb, rfl⟩ := Option.map_eq_some_iff.mp hd
  exact ⟨m, e1, x, h1, h2, m2, e2, y, h3, h4, b, hb, p⟩
theorem ew_dtB {d : Den D} {P : Bool → Env → Prop} : EW q (dtB d) e P ↔ EW q d e fun x e' => match x with
    | .bl b => P b e'
    | _ => False := by
  unfold dtB
  simp only [ew_bind, ew_lift]
  refine ⟨fun ⟨m, e1, x, h1, h2, b, hb, p⟩ => ⟨m, e1, x, h1, h2, ?_⟩, fun ⟨m, e1, x, h1, h2, p⟩ => ⟨m, e1, x, h1, h2, ?_⟩⟩
  · cases x <;> cases hb
    exact p
  · cases x <;> first | exact False.elim p | exact ⟨_, rfl, p⟩
theorem ew_dtru {d : Den D} {P : Bool → Env → Prop} : EW q (dtru d) e P ↔ EW q d e fun x e' => ∃ b, truD x = some b ∧ P b e' := by unfold dtru; simp only [ew_bind, ew_lift]
theorem ew_dand {d f : Den Bool} {P : Bool → Env → Prop} : EW q (dand d f) e P ↔ EW q d e fun b e' => (b = true → EW q f e' P) ∧ (b = false → P false e') := by
  unfold dand
  simp only [ew_bind, ew_ite, ew_pure, Bool.not_eq_true]
theorem ew_dor {d f : Den Bool} {P : Bool → Env → Prop} : EW q (dor d f) e P ↔ EW q d e fun b e' => (b = true → P true e') ∧ (b = false → EW q f e' P) := by
  unfold dor
  simp only [ew_bind, ew_ite, ew_pure, Bool.not_eq_true]
theorem ew_dnot {d : Den Bool} {P : Bool → Env → Prop} : EW q (dnot d) e P ↔ EW q d e fun b e' => P (!b) e' := by unfold dnot; simp only [ew_bind, ew_pure]
theorem ew_dandV {d f : Den D} {P : D → Env → Prop} : EW q (dandV d f) e P ↔ EW q (dtB d) e fun b e' => (b = true → EW q f e' P) ∧ (b = false → P (.bl false) e') := by
  unfold dandV
  simp only [ew_bind, ew_ite, ew_pure, Bool.not_eq_true]
theorem ew_dorV {d f : Den D} {P : D → Env → Prop} : EW q (dorV d f) e P ↔ EW q (dtB d) e fun b e' => (b = true → P (.bl true) e') ∧ (b = false → EW q f e' P) := by
  unfold dorV
  simp only [ew_bind, ew_ite, ew_pure, Bool.not_eq_true]
theorem ew_dnotV {d : Den D} {P : D → Env → Prop} : EW q (dnotV d) e P ↔ EW q (dtB d) e fun b e' => P (.bl (!b)) e' := by unfold dnotV; simp only [ew_bind, ew_pure]
theorem ew_dif {t : Den Bool} {x y : Den α} {P : α → Env → Prop} : EW q (dif t x y) e P ↔ EW q t e fun b e' => (b = true → EW q x e' P) ∧ (b = false → EW q y e' P) := by
  unfold dif
  simp only [ew_bind, ew_ite, Bool.not_eq_true]
theorem ew_dcons {d : Den D} {ds : Den (List D)} {P : List D → Env → Prop} : EW q (dcons d ds) e P ↔ EW q d e fun x e1 => EW q ds e1 fun xs e2 => P (x :: xs) e2 := by unfold dcons; simp only [ew_bind, ew_pure]
theorem ew_dconsV {d : Den D} {ds : Den (List D)} {P : List D → Env → Prop} : EW q (dconsV d ds) e P ↔ EW q d e fun x e1 => EW true ds e1 fun xs e2 => P (x :: xs) e2 := by unfold dconsV; simp only [ew_bind, ew_pure, ew_dq]
theorem ew_darcons {d : Den Rv} {ds : Den (List AR)} {P : List AR → Env → Prop} : EW q (darcons d ds) e P ↔ EW q d e fun x e1 => EW q ds e1 fun xs e2 => P (darg x :: xs) e2 := by unfold darcons; simp only [ew_bind, ew_pure]
theorem ew_dtup {ds : Den (List D)} {P : D → Env → Prop} : EW q (dtup ds) e P ↔ EW q ds e fun xs e' => xs.length ≤ sizeLine ∧ P (.tup xs) e' := by
  unfold dtup
  simp only [ew_bind, ew_lift]
  refine ⟨fun ⟨m, e1, x, h1, h2, b, hb, p⟩ => ⟨m, e1, x, h1, h2, ?_⟩, fun ⟨m, e1, x, h1, h2, hz, p⟩ => ⟨m, e1, x, h1, h2, .tup x, by rw [if_pos hz], p⟩⟩
  split at hb
  · rename_i hz
    cases hb
    exact ⟨hz, p⟩
  · cases hb
theorem ew_dlst {ds : Den (List D)} {P : Rv → Env → Prop} : EW q (dlst ds) e P ↔ EW q ds e fun xs e' => xs.length ≤ sizeLine ∧ P (.new (.lst (xs.map O.im))) e' := by
  unfold dlst
  simp only [ew_bind, ew_lift]
  refine ⟨fun ⟨m, e1, x, h1, h2, b, hb, p⟩ => ⟨m, e1, x, h1, h2, ?_⟩, fun ⟨m, e1, x, h1, h2, hz, p⟩ => ⟨m, e1, x, h1, h2, _, by rw [if_pos hz], p⟩⟩
  split at hb
  · rename_i hz
    cases hb
    exact ⟨hz, p⟩
  · cases hb
theorem ew_dixO {d : Den O} {di : Den D} {P : O → Env → Prop} : EW q (dixO d di) e P ↔ EW q d e fun o e1 => EW true di e1 fun i e2 => ∃ x, elemOO o i = some x ∧ P x e2 := by unfold dixO; simp only [ew_bind, ew_lift, ew_dq]
theorem ew_chain {da db dc : Den D} {g g' : D → D → Option Bool} {P : D → Env → Prop} : EW q (dchain da db dc g g') e P ↔ EW q da e fun x e1 => EW true db e1 fun y e2 => ∃ k, g x y = some k ∧ (k = true → EW true dc e2 fun z e3 => ∃ b, g' y z = some b ∧ P (.bl b) e3) ∧ (k = false → P (.bl false) e2) := by
  unfold dchain
  simp only [ew_bind, ew_lift, ew_dq, ew_ite, ew_pure, Bool.not_eq_true]
  refine ⟨fun ⟨m, e1, x, h1, h2, m2, e2, y, h3, h4, k, hk, p1, p2⟩ => ⟨m, e1, x, h1, h2, m2, e2, y, h3, h4, k, hk, fun z => ?_, p2⟩, fun ⟨m, e1, x, h1, h2, m2, e2, y, h3, h4, k, hk, p1, p2⟩ => ⟨m, e1, x, h1, h2, m2, e2, y, h3, h4, k, hk, fun z => ?_, p2⟩⟩
  · obtain ⟨m5, e5, z5, h5, h6, d, hd, p⟩ := p1 z
    obtain ⟨b, hb, rfl⟩ := Option.map_eq_some_iff.mp hd
    exact ⟨m5, e5, z5, h5, h6, b, hb, p⟩
  · obtain ⟨m5, e5, z5, h5, h6, b, hb, p⟩ := p1 z
    exact ⟨m5, e5, z5, h5, h6, .bl b, by rw [hb]; rfl, p⟩
theorem ew_imp {d : Den α} {P Q : α → Env → Prop} (h : EW q d e P) (k : ∀ a e', P a e' → Q a e') : EW q d e Q := by
  obtain ⟨m, e', a, h1, h2, h3⟩ := h
  exact ⟨m, e', a, h1, h2, k a e' h3⟩
/-! ### statements -/
theorem sw_next {A : Aft} : SW snext e A ↔ A.N e := ⟨fun ⟨r, h, p⟩ => by cases h; exact p, fun h => ⟨_, rfl, h⟩⟩
theorem sw_seq {a b : SDen} {A : Aft} : SW (sseq a b) e A ↔ SW a e { A with N := fun e' => SW b e' A } := by
  constructor
  · rintro ⟨r, h, p⟩
    unfold sseq at h
    cases ha : a e with
    | none => rw [ha] at h; cases h
    | some ra =>
      rw [ha] at h
      refine ⟨ra, ha, ?_⟩
      cases ra with
      | nx m e1 =>
        dsimp only at h
        cases hb : b e1 with
        | none => rw [hb] at h; cases h
        | some rb =>
          rw [hb] at h
          refine ⟨rb, hb, ?_⟩
          cases rb <;> (cases h; exact p)
      | rt m e1 v => cases h; exact p
      | bk m e1 => cases h; exact p
      | ct m e1 => cases h; exact p
      | er m e1 x => cases h; exact p
  · rintro ⟨ra, ha, p⟩
    unfold SW sseq
    rw [ha]
    cases ra with
    | nx m e1 =>
      obtain ⟨rb, hb, pb⟩ := p
      dsimp only
      rw [hb]
      exact SP'.more pb
    | rt m e1 v => exact ⟨_, rfl, p⟩
    | bk m e1 => exact ⟨_, rfl, p⟩
    | ct m e1 => exact ⟨_, rfl, p⟩
    | er m e1 x => exact False.elim p
theorem sw_bind {d : Den α} {f : α → SDen} {A : Aft} : SW (sbind d f) e A ↔ EW false d e fun a e' => SW (f a) e' A := by
  constructor
  · rintro ⟨r, h, p⟩
    unfold sbind at h
    cases ha : d e with
    | none => rw [ha] at h; cases h
    | some ra =>
      rw [ha] at h
      cases ra with
      | err m e1 x => cases h; exact False.elim p
      | ok m e1 a =>
        refine ⟨m, e1, a, ha, fun z => (by cases z), ?_⟩
        dsimp only at h
        cases hb : f a e1 with
        | none => rw [hb] at h; cases h
        | some rb =>
          rw [hb] at h
          refine ⟨rb, hb, ?_⟩
          cases rb <;> (cases h; exact p)
  · rintro ⟨m, e1, a, ha, _, rb, hb, pb⟩
    unfold SW sbind
    rw [ha]
    dsimp only
    rw [hb]
    exact SP'.more pb
theorem sw_ite {c : Prop} [Decidable c] {a b : SDen} {A : Aft} : SW (if c then a else b) e A ↔ (c → SW a e A) ∧ (¬ c → SW b e A) := by
  by_cases h : c
  · rw [if_pos h]
    exact ⟨fun p => ⟨fun _ => p, fun z => absurd h z⟩, fun p => p.1 h⟩
  · rw [if_neg h]
    exact ⟨fun p => ⟨fun z => absurd z h, fun _ => p⟩, fun p => p.2 h⟩
theorem sw_if {t : Den Bool} {a b : SDen} {A : Aft} : SW (sif t a b) e A ↔ EW false t e fun k e' => (k = true → SW a e' A) ∧ (k = false → SW b e' A) := by
  unfold sif
  simp only [sw_bind, sw_ite, Bool.not_eq_true]
theorem sw_rt {d : Den Rv} {A : Aft} : SW (srt d) e A ↔ EW false d e fun r e' => A.R r e' := by
  unfold srt
  rw [sw_bind]
  exact ⟨fun h => ew_imp h fun a e' ⟨r, h, p⟩ => by cases h; exact p, fun h => ew_imp h fun a e' p => ⟨_, rfl, p⟩⟩
theorem sw_drop {d : Den Rv} {A : Aft} : SW (sdrop d) e A ↔ EW false d e fun _ e' => A.N e' := by
  unfold sdrop
  simp only [sw_bind, sw_next]
theorem lk_some {i : Nat} {s : Bool × O} (h : lk e i = some s) : e[i]? = some (some s) := by
  unfold lk at h
  cases hi : e[i]? with
  | none => rw [hi] at h; cases h
  | some x => rw [hi] at h; exact congrArg some h
theorem sw_set {i : Nat} {d : Den Rv} {A : Aft} : (EW false d e fun r e' => match r with
    | .im d => Env.free e' i = true ∧ A.N (e'.set i (some (false, .im d)))
    | .new o => Env.free e' i = true ∧ A.N (e'.set i (some (false, o)))
    | .bor j o => Env.free e' i = true ∧ match lk e' j with
      | some (b, _) => Env.free (e'.set j (some (b, .im o.flat))) i = true ∧ A.N ((e'.set j (some (b, .im o.flat))).set i (some (false, .im o.flat)))
      | none => False) → SW (sset i d) e A := by
  intro h
  unfold sset
  rw [sw_bind]
  refine ew_imp h fun r e' p => ?_
  cases r with
  | im d => exact ⟨_, if_pos p.1, p.2⟩
  | new o => exact ⟨_, if_pos p.1, p.2⟩
  | bor j o =>
    obtain ⟨p1, p2⟩ := p
    cases hl : lk e' j with
    | none => rw [hl] at p2; exact False.elim p2
    | some s =>
      obtain ⟨b, o1⟩ := s
      rw [hl] at p2
      refine ⟨.nx false ((e'.set j (some (b, .im o.flat))).set i (some (false, .im o.flat))), ?_, p2.2⟩
      dsimp only
      rw [if_pos p1, lk_some hl]
      exact if_pos p2.1
/-- a loop over items, by an invariant over their number -/
theorem sw_loop {bind : D → Env → Option Env} {body : SDen} {A : Aft} : ∀ {ds : List D} {e : Env} (Iv : Nat → Env → Prop), Iv 0 e →
    (∀ i d e', ds[i]? = some d → Iv i e' → ∃ e1, bind d e' = some e1 ∧ SW body e1 { N := Iv (i + 1), C := Iv (i + 1), R := A.R, B := A.N }) → (∀ e', Iv ds.length e' → A.N e') → SW (sloop bind body ds) e A
  | [], e, Iv, h0, hs, hd => sw_next.mpr (hd e h0)
  | d :: ds, e, Iv, h0, hs, hd => by
    obtain ⟨e1, hb, r, hr, p⟩ := hs 0 d e rfl h0
    have ih : ∀ e2, Iv 1 e2 → SW (sloop bind body ds) e2 A := fun e2 h2 => sw_loop (fun i e => Iv (i + 1) e) h2 (fun i d' e' hi h' => hs (i + 1) d' e' (by simpa using hi) h') (fun e' h' => hd e' h')
    unfold SW sloop
    rw [hb]
    dsimp only
    rw [hr]
    cases r with
    | nx m e2 =>
      obtain ⟨r2, h2, p2⟩ := ih e2 p
      show ∃ r, SRes.more m (sloop bind body ds e2) = some r ∧ _
      rw [h2]
      exact SP'.more p2
    | ct m e2 =>
      obtain ⟨r2, h2, p2⟩ := ih e2 p
      show ∃ r, SRes.more m (sloop bind body ds e2) = some r ∧ _
      rw [h2]
      exact SP'.more p2
    | bk m e2 => exact ⟨_, rfl, p⟩
    | rt m e2 v => exact ⟨_, rfl, p⟩
    | er m e2 x => exact False.elim p
theorem sw_forP {src : Den (List D)} {bind : D → Env → Option Env} {body : SDen} {A : Aft} : SW (sforP src bind body) e A ↔ EW false src e fun ds e' => SW (sloop bind body ds) e' A := by
  unfold sforP
  rw [sw_bind]
theorem ew_sq {d : Den D} {P : List D → Env → Prop} : EW q (sq d) e P ↔ EW q d e fun x e' => ∃ ds, seqD x = some ds ∧ P ds e' := by unfold sq; simp only [ew_bind, ew_lift]
theorem ew_rg {g : List D → Option (List D)} {d : Den (List D)} {P : List D → Env → Prop} : EW q (rg g d) e P ↔ EW q d e fun x e' => ∃ ds, g x = some ds ∧ P ds e' := by unfold rg; simp only [ew_bind, ew_lift]
theorem sw_app {i : Nat} {d : Den Rv} {A : Aft} {b0 : Bool} {os0 : List O} (h0 : lk e i = some (b0, .lst os0)) (h : EW false d e fun r e1 => EW false (rvO r) e1 fun o e' => match lk e' i with
    | some (b, .lst os) => os.length < sizeLine ∧ A.N (e'.set i (some (b, .lst (os ++ [o]))))
    | _ => False) : SW (sapp i d) e A := by
  unfold SW sapp
  rw [lk_some h0]
  show SW (sbind d fun rv => sbind (rvO rv) _) e A
  rw [sw_bind]
  refine ew_imp h fun r e1 p => ?_
  rw [sw_bind]
  refine ew_imp p fun o e' p => ?_
  unfold SW
  cases hl : lk e' i with
  | none => rw [hl] at p; exact False.elim p
  | some s =>
    obtain ⟨b, o1⟩ := s
    rw [hl] at p
    cases o1 with
    | lst os =>
      dsimp only
      rw [lk_some hl]
      exact ⟨_, if_pos p.1, p.2⟩
    | _ => exact False.elim p
theorem ew_rvO {r : Rv} {P : O → Env → Prop} : EW q (rvO r) e P ↔ match r with
    | .im d => P (.im d) e
    | .new o => P o e
    | .bor i _ => match lk e i with
      | some (b, o) => P (.im o.flat) (e.set i (some (b, .im o.flat)))
      | none => False := by
  unfold rvO EW
  cases r with
  | im d => exact ⟨fun ⟨m, e', a, h, _, p⟩ => by cases h; exact p, fun p => ⟨false, e, _, rfl, fun _ => rfl, p⟩⟩
  | new o => exact ⟨fun ⟨m, e', a, h, _, p⟩ => by cases h; exact p, fun p => ⟨false, e, _, rfl, fun _ => rfl, p⟩⟩
  | bor i o =>
    dsimp only
    unfold lk
    cases hi : e[i]? with
    | none => exact ⟨fun ⟨m, e', a, h, _, p⟩ => (by cases h), fun p => False.elim p⟩
    | some s =>
      cases s with
      | none => exact ⟨fun ⟨m, e', a, h, _, p⟩ => (by cases h), fun p => False.elim p⟩
      | some s => obtain ⟨b, o1⟩ := s; exact ⟨fun ⟨m, e', a, h, _, p⟩ => by cases h; exact p, fun p => ⟨false, _, _, rfl, fun _ => rfl, p⟩⟩
/-! ### defs -/
/-- .. it gives what is new -/
def FN (f : FDen) (ds : List D) (o : O) : Prop := ∃ m, f (ds.map O.im) = some (.ok m (ds.map O.im) (.new o))
theorem outs_im : ∀ (ds : List D) (e : Env), ds.length ≤ e.length → outs (ds.map O.im) e = some (ds.map O.im)
  | [], e, _ => by cases e <;> rfl
  | d :: ds, [], h => by simp at h
  | d :: ds, s :: e, h => by
    show (outs (ds.map O.im) e).map _ = _
    rw [outs_im ds e (by simpa using h)]
    rfl
theorem fn_of {n : Nat} {s : SDen} {ds : List D} {o : O} (h : SW s (env0 (ds.map O.im) n) { N := fun e => False, R := fun r e => ds.length ≤ e.length ∧ (r = .new o ∨ ∃ i o', r = .bor i o' ∧ o' = o ∧ lk e i = some (false, o)) }) : FN (fnden n s) ds o := by
  obtain ⟨r, hr, p⟩ := h
  unfold FN fnden
  rw [hr]
  cases r with
  | nx m e => exact False.elim p
  | rt m e r =>
    obtain ⟨hl, p⟩ := p
    rcases p with rfl | ⟨i, o', rfl, rfl, p⟩
    · dsimp only
      rw [outs_im ds e hl]
      exact ⟨m, rfl⟩
    · dsimp only
      rw [lk_some p]
      dsimp only
      rw [outs_im ds (e.set i none) (by rw [List.length_set]; exact hl)]
      exact ⟨m, rfl⟩
  | _ => exact False.elim p
theorem lend_im : ∀ (ds : List D) (e : Env), lend (ds.map AR.im) e = some (ds.map O.im, ds.map (fun _ => none), e)
  | [], e => rfl
  | d :: ds, e => by
    show (lend (ds.map AR.im) e).map _ = _
    rw [lend_im ds e]
    rfl
theorem unlend_im : ∀ (ds : List D) (e : Env), unlend (ds.map (fun _ => none)) (ds.map O.im) e = some e
  | [], e => rfl
  | d :: ds, e => unlend_im ds e
theorem allIm_map : ∀ ds : List D, allIm (ds.map O.im) = true
  | [] => rfl
  | d :: ds => allIm_map ds
end
end DL

/-! DLP: rules that step through a denotation. -/
namespace DL
open PySem PySem.Spec PyProof.Rows L2 Evl
def OP {α : Type} (o : Option α) (P : α → Prop) : Prop := ∃ z, o = some z ∧ P z
def BR (k : Bool) (X Y : Prop) : Prop := (k = true → X) ∧ (k = false → Y)
theorem br_t {X Y : Prop} (h : X) : BR true X Y := ⟨fun _ => h, fun z => by cases z⟩
theorem br_f {X Y : Prop} (h : Y) : BR false X Y := ⟨fun z => (by cases z), fun _ => h⟩
theorem br_not {k : Bool} {X Y : Prop} (h : BR k Y X) : BR (!k) X Y := by
  cases k
  · exact ⟨fun _ => h.2 rfl, fun z => (by cases z)⟩
  · exact ⟨fun z => (by cases z), fun _ => h.1 rfl⟩
theorem br_dec {p : Prop} [Decidable p] {X Y : Prop} (h1 : p → X) (h2 : ¬ p → Y) : BR (decide p) X Y := ⟨fun h => h1 (of_decide_eq_true h), fun h => h2 (of_decide_eq_false h)⟩
theorem br_eqT {k : Bool} {X Y : Prop} (hk : k = true) (h : X) : BR k X Y := ⟨fun _ => h, fun z => by rw [hk] at z; cases z⟩
theorem br_eqF {k : Bool} {X Y : Prop} (hk : k = false) (h : Y) : BR k X Y := ⟨fun z => (by rw [hk] at z; cases z), fun _ => h⟩
section
variable {α β : Type} {q : Bool} {e : Env}
theorem w_op {o : Option α} {z : α} {P : α → Prop} (h : o = some z) (p : P z) : OP o P := ⟨z, h, p⟩
theorem mul_l {i j : Int} (h : i.natAbs < 2 ^ 64) : mulOk i j = true := by unfold mulOk; rw [decide_eq_true h]; rfl
theorem mul_r {i j : Int} (h : j.natAbs < 2 ^ 64) : mulOk i j = true := by unfold mulOk; rw [decide_eq_true h]; cases decide (i.natAbs < 2 ^ 64) <;> rfl
theorem op_mul {i j : Int} {P : D → Prop} (h : mulOk i j = true) (p : P (.int (i * j))) : OP (mulD (.int i) (.int j)) P := ⟨_, if_pos h, p⟩
theorem op_div {i j : Int} {P : D → Prop} (h : j ≠ 0 ∧ j.natAbs.log2 < 9000) (p : P (.int (i.fdiv j))) : OP (divD (.int i) (.int j)) P := ⟨_, if_pos h, p⟩
theorem op_mod {i j : Int} {P : D → Prop} (h : j ≠ 0) (p : P (.int (i.fmod j))) : OP (modD (.int i) (.int j)) P := ⟨_, if_pos h, p⟩
theorem op_pow {i j : Int} {P : D → Prop} (h : 0 ≤ j ∧ j ≤ 1000000 ∧ i.natAbs < 2 ^ 64) (p : P (.int (i ^ j.toNat))) : OP (powD (.int i) (.int j)) P := ⟨_, if_pos h, p⟩
theorem eqD_ii (i j : Int) : eqD (.int i) (.int j) = some (decide (i = j)) := rfl
theorem op_eq {i j : Int} {P : Bool → Prop} (p : P (decide (i = j))) : OP (eqD (.int i) (.int j)) P := ⟨_, eqD_ii i j, p⟩
theorem op_ne {i j : Int} {P : Bool → Prop} (p : P (!decide (i = j))) : OP (neD (.int i) (.int j)) P := ⟨_, rfl, p⟩
/-- what is in hand by each use -/
def frzP (r : Rv) (e' : Env) (P : D → Env → Prop) : Prop := match r with
    | .im d => P d e'
    | .new o => P o.flat e'
    | .bor i o => match lk e' i with
      | some (b, _) => P o.flat (e'.set i (some (b, .im o.flat)))
      | none => False
def vwP (r : Rv) (e' : Env) (P : D → Env → Prop) : Prop := match r with
    | .im d => P d e'
    | .new o => P o.flat e'
    | .bor _ o => P o.flat e'
def owP (r : Rv) (e' : Env) (P : O → Env → Prop) : Prop := match r with
    | .im d => P (.im d) e'
    | .new o => P (.im o.flat) e'
    | .bor _ o => P o e'
def setP (i : Nat) (r : Rv) (e' : Env) (N : Env → Prop) : Prop := match r with
  | .im d => Env.free e' i = true ∧ N (e'.set i (some (false, .im d)))
  | .new o => Env.free e' i = true ∧ N (e'.set i (some (false, o)))
  | .bor j o => Env.free e' i = true ∧ match lk e' j with
    | some (b, _) => Env.free (e'.set j (some (b, .im o.flat))) i = true ∧ N ((e'.set j (some (b, .im o.flat))).set i (some (false, .im o.flat)))
    | none => False
def argP (r : Rv) (P : AR → Prop) : Prop := P (darg r)
def rvP (r : Rv) (e : Env) (P : O → Env → Prop) : Prop := match r with
    | .im d => P (.im d) e
    | .new o => P o e
    | .bor i _ => match lk e i with
      | some (b, o) => P (.im o.flat) (e.set i (some (b, .im o.flat)))
      | none => False
def appP (i : Nat) (o : O) (e' : Env) (N : Env → Prop) : Prop := match lk e' i with
    | some (b, .lst os) => os.length < sizeLine ∧ N (e'.set i (some (b, .lst (os ++ [o]))))
    | _ => False
section
variable {P : D → Env → Prop} {PO : O → Env → Prop} {N : Env → Prop} {PA : AR → Prop} {d : D} {o : O} {i : Nat}
theorem frzP_im (p : P d e) : frzP (.im d) e P := p
theorem frzP_new (p : P o.flat e) : frzP (.new o) e P := p
theorem vwP_im (p : P d e) : vwP (.im d) e P := p
theorem vwP_new (p : P o.flat e) : vwP (.new o) e P := p
theorem vwP_bor (p : P o.flat e) : vwP (.bor i o) e P := p
theorem owP_im (p : PO (.im d) e) : owP (.im d) e PO := p
theorem owP_new (p : PO (.im o.flat) e) : owP (.new o) e PO := p
theorem owP_bor (p : PO o e) : owP (.bor i o) e PO := p
theorem setP_im (h : e.free i = true) (p : N (e.set i (some (false, .im d)))) : setP i (.im d) e N := ⟨h, p⟩
theorem setP_new (h : e.free i = true) (p : N (e.set i (some (false, o)))) : setP i (.new o) e N := ⟨h, p⟩
theorem argP_im (p : PA (.im d)) : argP (.im d) PA := p
theorem argP_new (p : PA (.im o.flat)) : argP (.new o) PA := p
theorem argP_bor (p : PA (.bor i)) : argP (.bor i o) PA := p
theorem rvP_im (p : PO (.im d) e) : rvP (.im d) e PO := p
theorem rvP_new (p : PO o e) : rvP (.new o) e PO := p
theorem appP_of {b : Bool} {os : List O} (h : lk e i = some (b, .lst os)) (hl : os.length < sizeLine) (p : N (e.set i (some (b, .lst (os ++ [o]))))) : appP i o e N := by
  unfold appP
  rw [h]
  exact ⟨hl, p⟩
end
section
variable {P : α → Env → Prop} {PR : Rv → Env → Prop} {PD : D → Env → Prop} {PO : O → Env → Prop} {PB : Bool → Env → Prop}
theorem w_pure {a : α} (p : P a e) : EW q (dpure a) e P := ew_pure.mpr p
theorem w_bind {d : Den β} {f : β → Den α} (p : EW q d e fun a e' => EW q (f a) e' P) : EW q (dbind d f) e P := ew_bind.mpr p
theorem w_lift {a : Option α} (p : OP a fun x => P x e) : EW q (dlift a) e P := ew_lift.mpr p
theorem w_dq {d : Den α} (p : EW true d e P) : EW q (dq d) e P := ew_dq.mpr p
theorem w_varI {i : Nat} {b : Bool} {d : D} (h : lk e i = some (b, .im d)) (p : PR (.im d) e) : EW q (dvar i) e PR := ew_var.mpr (by rw [h]; exact p)
theorem w_varL {i : Nat} {b : Bool} {os : List O} (h : lk e i = some (b, .lst os)) (p : PR (.bor i (.lst os)) e) : EW q (dvar i) e PR := ew_var.mpr (by rw [h]; exact p)
theorem w_varT {i : Nat} {b : Bool} {os : List O} (h : lk e i = some (b, .tup os)) (p : PR (.bor i (.tup os)) e) : EW q (dvar i) e PR := ew_var.mpr (by rw [h]; exact p)
theorem w_frzI {i : Nat} {b : Bool} {d : D} (h : lk e i = some (b, .im d)) (p : PD d e) : EW q (frz (dvar i)) e PD := ew_frz.mpr (w_varI h p)
theorem w_frzO {i : Nat} {b : Bool} {o : O} (h : lk e i = some (b, o)) (p : PD o.flat (e.set i (some (b, .im o.flat)))) : EW q (frz (dvar i)) e PD := by
  refine ew_frz.mpr (ew_var.mpr ?_)
  rw [h]
  cases o with
  | im d =>
    have : e.set i (some (b, .im d)) = e := by
      apply List.ext_getElem?
      intro j
      rw [List.getElem?_set]
      by_cases hj : i = j
      · subst hj
        rw [lk_some h]
        split
        · split
          · rfl
          · rename_i hz
            have := lk_some h
            rw [List.getElem?_eq_none (by omega)] at this
            cases this
        · rename_i hz; exact absurd rfl hz
      · rw [if_neg hj]
    simp only [O.flat] at p
    rw [this] at p
    exact p
  | _ =>
    dsimp only
    rw [h]
    exact p
theorem w_frz {d : Den Rv} (p : EW q d e fun r e' => frzP r e' PD) : EW q (frz d) e PD := ew_frz.mpr p
theorem w_vwI {i : Nat} {b : Bool} {d : D} (h : lk e i = some (b, .im d)) (p : PD d e) : EW q (vw (dvar i)) e PD := ew_vw.mpr (w_varI h p)
theorem w_vwO {i : Nat} {b : Bool} {o : O} (h : lk e i = some (b, o)) (p : PD o.flat e) : EW q (vw (dvar i)) e PD := by
  refine ew_vw.mpr (ew_var.mpr ?_)
  rw [h]
  cases o <;> exact p
theorem w_vw {d : Den Rv} (p : EW q d e fun r e' => vwP r e' PD) : EW q (vw d) e PD := ew_vw.mpr p
theorem w_owO {i : Nat} {b : Bool} {o : O} (h : lk e i = some (b, o)) (p : PO o e) : EW q (ow (dvar i)) e PO := by
  refine ew_ow.mpr (ew_var.mpr ?_)
  rw [h]
  cases o <;> exact p
theorem w_ow {d : Den Rv} (p : EW q d e fun r e' => owP r e' PO) : EW q (ow d) e PO := ew_ow.mpr p
theorem w_imR {d : Den D} (p : EW q d e fun x e' => PR (.im x) e') : EW q (imR d) e PR := ew_imR.mpr p
theorem w_imD {d : Den O} (p : EW q d e fun o e' => OP (imO o) fun x => PD x e') : EW q (imD d) e PD := ew_imD.mpr p
theorem w_fl {d : Den O} (p : EW q d e fun o e' => PD o.flat e') : EW q (fl d) e PD := ew_fl.mpr p
theorem w_bin {da db : Den D} {g : D → D → Option D} (p : EW q da e fun x e1 => EW q db e1 fun y e2 => OP (g x y) fun z => PD z e2) : EW q (dbin da db g) e PD := ew_bin.mpr p
theorem w_cmp {da db : Den D} {g : D → D → Option Bool} (p : EW q da e fun x e1 => EW true db e1 fun y e2 => OP (g x y) fun z => PD (.bl z) e2) : EW q (dcmp da db g) e PD := ew_cmp.mpr p
def blP (x : D) (P : Bool → Prop) : Prop := match x with
  | .bl b => P b
  | _ => False
theorem blP_of {b : Bool} {P : Bool → Prop} (p : P b) : blP (.bl b) P := p
theorem w_dtB {d : Den D} (p : EW q d e fun x e' => blP x fun b => PB b e') : EW q (dtB d) e PB := ew_dtB.mpr (ew_imp p fun x e' h => by cases x <;> first | exact h | exact False.elim h)
theorem w_dtru {d : Den D} (p : EW q d e fun x e' => OP (truD x) fun b => PB b e') : EW q (dtru d) e PB := ew_dtru.mpr p
theorem w_dand {d f : Den Bool} (p : EW q d e fun b e' => BR b (EW q f e' PB) (PB false e')) : EW q (dand d f) e PB := ew_dand.mpr p
theorem w_dor {d f : Den Bool} (p : EW q d e fun b e' => BR b (PB true e') (EW q f e' PB)) : EW q (dor d f) e PB := ew_dor.mpr p
theorem w_dnot {d : Den Bool} (p : EW q d e fun b e' => PB (!b) e') : EW q (dnot d) e PB := ew_dnot.mpr p
theorem w_dandV {d f : Den D} (p : EW q (dtB d) e fun b e' => BR b (EW q f e' PD) (PD (.bl false) e')) : EW q (dandV d f) e PD := ew_dandV.mpr p
theorem w_dorV {d f : Den D} (p : EW q (dtB d) e fun b e' => BR b (PD (.bl true) e') (EW q f e' PD)) : EW q (dorV d f) e PD := ew_dorV.mpr p
theorem w_dnotV {d : Den D} (p : EW q (dtB d) e fun b e' => PD (.bl (!b)) e') : EW q (dnotV d) e PD := ew_dnotV.mpr p
theorem w_dif {t : Den Bool} {x y : Den α} (p : EW q t e fun b e' => BR b (EW q x e' P) (EW q y e' P)) : EW q (dif t x y) e P := ew_dif.mpr p
theorem w_dcons {d : Den D} {ds : Den (List D)} {P : List D → Env → Prop} (p : EW q d e fun x e1 => EW q ds e1 fun xs e2 => P (x :: xs) e2) : EW q (dcons d ds) e P := ew_dcons.mpr p
theorem w_dconsV {d : Den D} {ds : Den (List D)} {P : List D → Env → Prop} (p : EW q d e fun x e1 => EW true ds e1 fun xs e2 => P (x :: xs) e2) : EW q (dconsV d ds) e P := ew_dconsV.mpr p
theorem w_darcons {d : Den Rv} {ds : Den (List AR)} {P : List AR → Env → Prop} (p : EW q d e fun x e1 => argP x fun a => EW q ds e1 fun xs e2 => P (a :: xs) e2) : EW q (darcons d ds) e P := ew_darcons.mpr p
theorem w_dtup {ds : Den (List D)} (p : EW q ds e fun xs e' => xs.length ≤ sizeLine ∧ PD (.tup xs) e') : EW q (dtup ds) e PD := ew_dtup.mpr p
theorem w_dlst {ds : Den (List D)} (p : EW q ds e fun xs e' => xs.length ≤ sizeLine ∧ PR (.new (.lst (xs.map O.im))) e') : EW q (dlst ds) e PR := ew_dlst.mpr p
theorem sz {n : Nat} {X : Prop} (h : n ≤ 1000) (p : X) : n ≤ sizeLine ∧ X := ⟨Nat.le_trans h (by decide), p⟩
theorem w_dixO {d : Den O} {di : Den D} (p : EW q d e fun o e1 => EW true di e1 fun i e2 => OP (elemOO o i) fun x => PO x e2) : EW q (dixO d di) e PO := ew_dixO.mpr p
theorem w_sq {d : Den D} {P : List D → Env → Prop} (p : EW q d e fun x e' => OP (seqD x) fun ds => P ds e') : EW q (sq d) e P := ew_sq.mpr p
theorem w_rg {g : List D → Option (List D)} {d : Den (List D)} {P : List D → Env → Prop} (p : EW q d e fun x e' => OP (g x) fun ds => P ds e') : EW q (rg g d) e P := ew_rg.mpr p
theorem w_rvO {r : Rv} (p : rvP r e PO) : EW q (rvO r) e PO := ew_rvO.mpr p
theorem w_dslice {d : Den O} {dl dh : Den (Option Int)} (p : EW q d e fun o e1 => EW true dl e1 fun lo e2 => EW true dh e2 fun hi e3 => OP (cutO o lo hi) fun r => PR r e3) : EW q (dslice d dl dh) e PR := by
  unfold dslice
  simp only [ew_bind, ew_lift, ew_dq]
  exact p
end
section
variable {N : Env → Prop} {R : Rv → Env → Prop} {B C : Env → Prop}
theorem w_next (p : N e) : SW snext e ⟨N, R, B, C⟩ := sw_next.mpr p
theorem w_seq {a b : SDen} (p : SW a e ⟨fun e' => SW b e' ⟨N, R, B, C⟩, R, B, C⟩) : SW (sseq a b) e ⟨N, R, B, C⟩ := sw_seq.mpr p
theorem w_if {t : Den Bool} {a b : SDen} (p : EW false t e fun k e' => BR k (SW a e' ⟨N, R, B, C⟩) (SW b e' ⟨N, R, B, C⟩)) : SW (sif t a b) e ⟨N, R, B, C⟩ := sw_if.mpr p
theorem w_rt {d : Den Rv} (p : EW false d e fun r e' => R r e') : SW (srt d) e ⟨N, R, B, C⟩ := sw_rt.mpr p
theorem w_drop {d : Den Rv} (p : EW false d e fun _ e' => N e') : SW (sdrop d) e ⟨N, R, B, C⟩ := sw_drop.mpr p
theorem w_set {i : Nat} {d : Den Rv} (p : EW false d e fun r e' => setP i r e' N) : SW (sset i d) e ⟨N, R, B, C⟩ := sw_set p
theorem w_app {i : Nat} {d : Den Rv} {b0 : Bool} {os0 : List O} (h : lk e i = some (b0, .lst os0)) (p : EW false d e fun r e1 => rvP r e1 fun o e' => appP i o e' N) : SW (sapp i d) e ⟨N, R, B, C⟩ :=
  sw_app h (ew_imp p fun r e' h => ew_rvO.mpr (by
    unfold rvP appP at h
    cases r with
    | bor j x =>
      dsimp only at h ⊢
      split <;> rename_i hq <;> rw [hq] at h
      · exact h
      · exact h
    | _ => exact h))
theorem w_forP {src : Den (List D)} {bind : D → Env → Option Env} {body : SDen} (p : EW false src e fun ds e' => SW (sloop bind body ds) e' ⟨N, R, B, C⟩) : SW (sforP src bind body) e ⟨N, R, B, C⟩ := sw_forP.mpr p
theorem w_cut {s : SDen} (M : Env → Prop) (h : SW s e ⟨M, R, B, C⟩) (k : ∀ e', M e' → N e') : SW s e ⟨N, R, B, C⟩ := by
  obtain ⟨r, hr, p⟩ := h
  refine ⟨r, hr, ?_⟩
  cases r <;> first | exact k _ p | exact p
theorem w_asg {b : D → Env → Option Env} {d : Den D} (p : EW false d e fun x e' => OP (b x e') N) : SW (sasg b d) e ⟨N, R, B, C⟩ := by
  unfold sasg
  rw [sw_bind]
  refine ew_imp p fun x e' h => ?_
  obtain ⟨z, hz, p⟩ := h
  exact ⟨.nx false z, by dsimp only; rw [hz]; rfl, p⟩
end
/-! ### calls -/
/-- f, given os, ends well -/
def FO (f : FDen) (os : List O) (Post : List O → FRv → Prop) : Prop := ∃ m os' r, f os = some (.ok m os' r) ∧ Post os' r
def rvF : FRv → Rv
  | .im d => .im d
  | .new o => .new o
theorem FO.imp {f : FDen} {os : List O} {P Q : List O → FRv → Prop} (h : FO f os P) (k : ∀ o r, P o r → Q o r) : FO f os Q := by
  obtain ⟨m, os', r, h1, h2⟩ := h
  exact ⟨m, os', r, h1, k _ _ h2⟩
/-- what a def's last state gives -/
def outP (os : List O) (Post : List O → FRv → Prop) (r : Rv) (e : Env) : Prop := match r with
  | .im d => OP (outs os e) fun os' => Post os' (.im d)
  | .new o => OP (outs os e) fun os' => Post os' (.new o)
  | .bor i o => match lk e i with
    | some (false, _) => OP (outs os (e.set i none)) fun os' => Post os' (.new o)
    | _ => False
theorem w_fun {n : Nat} {s : SDen} {os : List O} {Post : List O → FRv → Prop} (h : SW s (env0 os n) ⟨fun e => OP (outs os e) fun os' => Post os' (.im .non), fun r e => outP os Post r e, fun _ => False, fun _ => False⟩) : FO (fnden n s) os Post := by
  obtain ⟨r, hr, p⟩ := h
  unfold FO fnden
  rw [hr]
  cases r with
  | nx m e =>
    obtain ⟨z, hz, p⟩ := p
    dsimp only
    rw [hz]
    exact ⟨m, z, _, rfl, p⟩
  | rt m e r =>
    cases r with
    | im d =>
      obtain ⟨z, hz, p⟩ := p
      dsimp only
      rw [hz]
      exact ⟨m, z, _, rfl, p⟩
    | new o =>
      obtain ⟨z, hz, p⟩ := p
      dsimp only
      rw [hz]
      exact ⟨m, z, _, rfl, p⟩
    | bor i o =>
      unfold SP' outP at p
      dsimp only at p ⊢
      cases hl : lk e i with
      | none => rw [hl] at p; exact False.elim p
      | some x =>
        obtain ⟨b, y⟩ := x
        rw [hl] at p
        cases b with
        | true => exact False.elim p
        | false =>
          obtain ⟨z, hz, p⟩ := p
          rw [lk_some hl]
          dsimp only
          rw [hz]
          exact ⟨m, z, _, rfl, p⟩
  | _ => exact False.elim p
theorem w_fo {n : Nat} {f : FDen} {as : List AR} {os : List O} {ks : List (Option (Nat × Bool))} {e1 : Env} {Post : List O → FRv → Prop} {P : Rv → Env → Prop} (hf : FO f os Post) (hn : as.length = n) (hl : lend as e = some (os, ks, e1)) (hq : q = false ∨ allIm os = true)
    (k : ∀ os' r, Post os' r → OP (unlend ks os' e1) fun e2 => P (rvF r) e2) : EW q (dfnA n f as) e P := by
  obtain ⟨m, os', r, h1, h2⟩ := hf
  obtain ⟨e2, h3, h4⟩ := k os' r h2
  unfold EW dfnA
  rw [if_pos hn, hl]
  dsimp only
  rw [h1]
  have hm : q = true → (m && !allIm os) = false := fun z => by
    rcases hq with h | h
    · rw [h] at z; cases z
    · rw [h]; cases m <;> rfl
  cases r with
  | im d => dsimp only; rw [h3]; exact ⟨_, e2, _, rfl, hm, h4⟩
  | new o => dsimp only; rw [h3]; exact ⟨_, e2, _, rfl, hm, h4⟩
/-- f, given what is frozen alone, ends well -/
def FI (f : FDen) (ds : List D) (Post : FRv → Prop) : Prop := FO f (ds.map O.im) fun os' r => os' = ds.map O.im ∧ Post r
def outI (k : Nat) (Post : FRv → Prop) (r : Rv) (e : Env) : Prop := match r with
  | .im d => k ≤ e.length ∧ Post (.im d)
  | .new o => k ≤ e.length ∧ Post (.new o)
  | .bor i o => k ≤ e.length ∧ match lk e i with
    | some (false, _) => Post (.new o)
    | _ => False
theorem w_fi {n : Nat} {s : SDen} {ds : List D} {Post : FRv → Prop} (h : SW s (env0 (ds.map O.im) n) ⟨fun e => ds.length ≤ e.length ∧ Post (.im .non), fun r e => outI ds.length Post r e, fun _ => False, fun _ => False⟩) : FI (fnden n s) ds Post := by
  refine w_fun ?_
  obtain ⟨r, hr, p⟩ := h
  refine ⟨r, hr, ?_⟩
  cases r with
  | nx m e => exact ⟨_, outs_im ds e p.1, rfl, p.2⟩
  | rt m e r =>
    cases r with
    | im d => exact ⟨_, outs_im ds e p.1, rfl, p.2⟩
    | new d => exact ⟨_, outs_im ds e p.1, rfl, p.2⟩
    | bor i o =>
      obtain ⟨p1, p2⟩ := p
      unfold SP' outP
      dsimp only
      cases hl : lk e i with
      | none => rw [hl] at p2; exact False.elim p2
      | some x =>
        obtain ⟨b, y⟩ := x
        rw [hl] at p2
        cases b with
        | true => exact False.elim p2
        | false => exact ⟨_, outs_im ds (e.set i none) (by rw [List.length_set]; exact p1), rfl, p2⟩
  | _ => exact False.elim p
/-- called with frozen things alone -/
theorem w_call {n : Nat} {f : FDen} {ds : List D} {Post : FRv → Prop} {P : Rv → Env → Prop} (hf : FI f ds Post) (hn : ds.length = n) (k : ∀ r, Post r → P (rvF r) e) : EW q (dfnA n f (ds.map AR.im)) e P :=
  w_fo hf (by rw [List.length_map]; exact hn) (lend_im ds e) (.inr (allIm_map ds)) fun os' r h => by
    obtain ⟨rfl, h⟩ := h
    exact ⟨e, unlend_im ds e, k r h⟩
theorem w_callI {n : Nat} {f : FDen} {ds : List D} {d : D} {P : Rv → Env → Prop} (hf : FI f ds (· = .im d)) (hn : ds.length = n) (k : P (.im d) e) : EW q (dfnA n f (ds.map AR.im)) e P := w_call hf hn fun r h => by rw [h]; exact k
/-! ### comprehensions -/
section
variable {PR : Rv → Env → Prop} {PD : D → Env → Prop} {PL : List O → Env → Prop} {N : Env → Prop} {R : Rv → Env → Prop} {B C : Env → Prop}
def mvP (rv : Rv) (e : Env) (P : O → Env → Prop) : Prop := match rv with
  | .im d => P (.im d) e
  | .new o => P o e
  | .bor i _ => match lk e i with
    | some (false, o) => P o (e.set i none)
    | some (true, o) => P (.im o.flat) (e.set i (some (true, .im o.flat)))
    | none => False
theorem mvP_im {P : O → Env → Prop} {d : D} (p : P (.im d) e) : mvP (.im d) e P := p
theorem mvP_new {P : O → Env → Prop} {o : O} (p : P o e) : mvP (.new o) e P := p
theorem mvP_bor {P : O → Env → Prop} {i : Nat} {o x : O} (h : lk e i = some (false, o)) (p : P o (e.set i none)) : mvP (.bor i x) e P := by
  unfold mvP
  dsimp only
  rw [h]
  exact p
theorem w_rvM {rv : Rv} {P : O → Env → Prop} (p : mvP rv e P) : EW q (rvM rv) e P := by
  unfold mvP at p
  unfold EW rvM
  cases rv with
  | im d => exact ⟨_, _, _, rfl, fun _ => rfl, p⟩
  | new d => exact ⟨_, _, _, rfl, fun _ => rfl, p⟩
  | bor i x =>
    dsimp only at p ⊢
    cases h : lk e i with
    | none => rw [h] at p; exact False.elim p
    | some y =>
      obtain ⟨b, y⟩ := y
      rw [h] at p
      rw [lk_some h]
      cases b <;> exact ⟨_, _, _, rfl, fun _ => rfl, p⟩
theorem w_dtmc {d : Den Rv} {ds : Den (List O)} (p : EW q d e fun rv e1 => mvP rv e1 fun o e2 => EW q ds e2 fun os e3 => PL (o :: os) e3) : EW q (dtmc d ds) e PL := by
  unfold dtmc
  rw [ew_bind]
  refine ew_imp p fun rv e1 h => ?_
  rw [ew_bind]
  refine w_rvM ?_
  have : ∀ o e2, (EW q ds e2 fun os e3 => PL (o :: os) e3) → EW q (dbind ds fun os => dpure (o :: os)) e2 PL := fun o e2 h => by
    rw [ew_bind]
    exact ew_imp h fun os e3 h => ew_pure.mpr h
  unfold mvP at h ⊢
  cases rv with
  | im d => exact this _ _ h
  | new d => exact this _ _ h
  | bor i x =>
    dsimp only at h ⊢
    cases h2 : lk e1 i with
    | none => rw [h2] at h; exact False.elim h
    | some y =>
      obtain ⟨b, y⟩ := y
      rw [h2] at h
      cases b <;> exact this _ _ h
theorem w_dtupN {ds : Den (List O)} (p : EW q ds e fun os e' => os.length ≤ sizeLine ∧ PR (.new (.tup os)) e') : EW q (dtupN ds) e PR := by
  unfold dtupN
  rw [ew_bind]
  refine ew_imp p fun os e' h => ew_lift.mpr ⟨_, if_pos h.1, h.2⟩
/-- the items at hand -/
def itP (r : Rv) (e : Env) (P : List D → Env → Prop) : Prop := match r with
  | .im d => OP (seqD d) fun ds => P ds e
  | .new o => OP (seqD o.flat) fun ds => P ds e
  | .bor i _ => match lk e i with
    | some (_, o) => OP (seqO o) fun ds => P ds e
    | none => False
theorem itP_im {P : List D → Env → Prop} {d : D} (p : OP (seqD d) fun ds => P ds e) : itP (.im d) e P := p
theorem itP_new {P : List D → Env → Prop} {o : O} (p : OP (seqD o.flat) fun ds => P ds e) : itP (.new o) e P := p
theorem w_dlist {d : Den Rv} (p : EW q d e fun r e' => itP r e' fun ds e2 => PR (.new (.lst (ds.map O.im))) e2) : EW q (dlist d) e PR := by
  unfold dlist ar1
  simp only [ew_bind, ew_pure]
  refine ew_imp p fun r e' h => ?_
  unfold itP at h
  unfold EW seqA darg
  cases r with
  | im d => obtain ⟨z, hz, p⟩ := h; dsimp only; rw [hz]; exact ⟨_, _, _, rfl, fun _ => rfl, p⟩
  | new d => obtain ⟨z, hz, p⟩ := h; dsimp only; rw [hz]; exact ⟨_, _, _, rfl, fun _ => rfl, p⟩
  | bor i x =>
    dsimp only at h ⊢
    unfold slotO
    cases h2 : lk e' i with
    | none => rw [h2] at h; exact False.elim h
    | some y =>
      obtain ⟨b, y⟩ := y
      rw [h2] at h
      obtain ⟨z, hz, p⟩ := h
      rw [lk_some h2]
      show ∃ m e'_1 a, ((some y).bind seqO).map _ = _ ∧ _
      rw [Option.bind_some, hz]
      exact ⟨_, _, _, rfl, fun _ => rfl, p⟩
/-- tuple(x), of a list's items -/
def tuP (r : Rv) (e : Env) (P : D → Env → Prop) : Prop := match r with
  | .im (.lst ds) => P (.tup ds) e
  | .im (.scr ds) => P (.tup ds) e
  | .im (.tup ds) => P (.tup ds) e
  | .new (.lst os) => P (.tup (O.flats os)) e
  | .bor i _ => match lk e i with
    | some (_, .lst os) => OP (ims os) fun ds => P (.tup ds) e
    | _ => False
  | _ => False
theorem tuP_lst {P : D → Env → Prop} {ds : List D} (p : P (.tup ds) e) : tuP (.im (.lst ds)) e P := p
theorem w_dtuple {d : Den Rv} (p : EW q d e fun r e' => tuP r e' PD) : EW q (dtuple d) e PD := by
  unfold dtuple ar1
  simp only [ew_bind, ew_pure]
  refine ew_imp p fun r e' h => ?_
  unfold tuP at h
  unfold EW darg
  cases r with
  | im d => cases d <;> first | exact ⟨_, _, _, rfl, fun _ => rfl, h⟩ | exact False.elim h
  | new o => cases o <;> first | exact ⟨_, _, _, rfl, fun _ => rfl, h⟩ | exact False.elim h
  | bor i x =>
    dsimp only at h ⊢
    unfold slotO
    cases h2 : lk e' i with
    | none => rw [h2] at h; exact False.elim h
    | some y =>
      obtain ⟨b, y⟩ := y
      rw [h2] at h
      rw [lk_some h2]
      cases y with
      | lst os =>
        obtain ⟨z, hz, p⟩ := h
        dsimp only
        rw [hz]
        exact ⟨_, _, _, rfl, fun _ => rfl, p⟩
      | _ => exact False.elim h
theorem w_sforI {it : Den Rv} {bind : D → Env → Option Env} {body : SDen} (p : EW false it e fun r e' => match r with
    | .im d => OP (seqD d) fun ds => SW (sloop bind body ds) e' ⟨N, R, B, C⟩
    | .new o => OP (seqD o.flat) fun ds => SW (sloop bind body ds) e' ⟨N, R, B, C⟩
    | .bor i _ => match lk e' i with
      | some (b, o) => OP (seqO o) fun ds => SW (slend i (sloop bind body ds)) e' ⟨N, R, B, C⟩
      | none => False) : SW (sfor it bind body) e ⟨N, R, B, C⟩ := by
  unfold sfor
  rw [sw_bind]
  refine ew_imp p fun r e' h => ?_
  unfold SW
  cases r with
  | im d => obtain ⟨z, hz, p⟩ := h; dsimp only; rw [hz]; exact p
  | new d => obtain ⟨z, hz, p⟩ := h; dsimp only; rw [hz]; exact p
  | bor i x =>
    dsimp only at h ⊢
    cases h2 : lk e' i with
    | none => rw [h2] at h; exact False.elim h
    | some y =>
      obtain ⟨b, y⟩ := y
      rw [h2] at h
      obtain ⟨z, hz, p⟩ := h
      rw [lk_some h2]
      dsimp only
      rw [hz]
      exact p
/-- a list lent to its own loop -/
theorem w_slend {i : Nat} {s : SDen} {b : Bool} {o : O} (h : lk e i = some (b, o))
    (p : SW s (e.set i (some (true, .im .any))) ⟨fun e' => pins e' = pins (e.set i (some (true, .im .any))) ∧ (∃ z, lk e' i = some (true, z)) ∧ N (e'.set i (some (b, o))),
      fun r e' => pins e' = pins (e.set i (some (true, .im .any))) ∧ (∃ z, lk e' i = some (true, z)) ∧ match r with
        | .bor j x => j ≠ i ∧ R r (e'.set i (some (b, o)))
        | _ => R r (e'.set i (some (b, o))), fun _ => False, fun _ => False⟩) : SW (slend i s) e ⟨N, R, B, C⟩ := by
  obtain ⟨r, hr, p⟩ := p
  unfold SW slend
  rw [lk_some h]
  dsimp only
  rw [hr]
  cases r with
  | nx m e' =>
    obtain ⟨p1, ⟨z, p2⟩, p3⟩ := p
    dsimp only
    rw [if_pos p1, lk_some p2]
    exact ⟨_, rfl, p3⟩
  | rt m e' r =>
    cases r with
    | im d =>
      obtain ⟨p1, ⟨z, p2⟩, p3⟩ := p
      dsimp only
      rw [if_pos p1, lk_some p2]
      exact ⟨_, rfl, p3⟩
    | new d =>
      obtain ⟨p1, ⟨z, p2⟩, p3⟩ := p
      dsimp only
      rw [if_pos p1, lk_some p2]
      exact ⟨_, rfl, p3⟩
    | bor j x =>
      obtain ⟨p1, ⟨z, p2⟩, p3, p4⟩ := p
      dsimp only
      rw [if_neg p3, if_pos p1, lk_some p2]
      exact ⟨_, rfl, p4⟩
  | _ => exact False.elim p
end
end
end DL

/-! DLQ: loops over what is only seen: their turns change nothing. -/
namespace DL
open PySem PySem.Spec PyProof.Rows L2 Evl
/-- the items of what is seen -/
def itemsO : O → Option (List D)
  | .im d => seqD d
  | o => seqO o
/-- a turn that goes on has changed nothing -/
def sqt (s : SDen) : SDen := fun e => match s e with
  | some (.nx false e') => some (.nx false e')
  | some (.ct false e') => some (.ct false e')
  | some (.nx true _) => none
  | some (.ct true _) => none
  | r => r
def sforV (d : Den O) (bind : D → Env → Option Env) (body : SDen) : SDen := sbind d fun o => match itemsO o with
  | some ds => sloop bind (sqt body) ds
  | none => fun _ => none
section
variable {K : KB} {W : WX} {c : Ctx} {F H : Hp} {σ : L2.St} {e : Env} {ts : List (V × O)}
end
section
variable {X : Cx} {W : WX} {tg iter : Expr} {body : List Stmt} {pos : Pos} {bind : D → Env → Option Env} {sl : List Nat} {db : SDen}
theorem items_src {K : KB} {F H : Hp} {o : O} {ds : List D} {v : V} {fs : List Addr} (fh : Ex F H) (h : Own K F H o v fs) (hs : itemsO o = some ds) : ∃ a xs, v = .ref a ∧ Reps K F ds xs ∧ ((SqL K H a xs) ∨ (SqT K H a xs)) := by
  cases o with
  | im d =>
    obtain ⟨a, xs, e1, h1, h2⟩ := seq_src h.2 hs
    refine ⟨a, xs, e1, h1, ?_⟩
    rcases h2 with h2 | h2
    · exact .inl (ex_l fh h2)
    · exact .inr (ex_t fh h2)
  | lst os =>
    have eo := ims_eq hs
    subst eo
    obtain ⟨a, xs, rr, rfl, _, ha, hos⟩ := h
    exact ⟨a, xs, rfl, (of_owns_im hos).1, .inl (SqL.of ha)⟩
  | tup os =>
    have eo := ims_eq hs
    subst eo
    obtain ⟨a, xs, rr, rfl, _, ha, hos⟩ := h
    exact ⟨a, xs, rfl, (of_owns_im hos).1, .inr (SqT.of ha)⟩
  | _ => cases hs
end
/-! ### list(x), tuple(x) of what is seen -/
def tupV : O → Option D
  | .im (.lst ds) => some (.tup ds)
  | .im (.scr ds) => some (.tup ds)
  | .im (.tup ds) => some (.tup ds)
  | .im (.wtp ds) => some (.wtp ds)
  | .lst os => (ims os).map D.tup
  | _ => none
def dtupV (d : Den O) : Den D := dbind d fun o => dlift (tupV o)
def dlistV (d : Den O) : Den Rv := dbind d fun o => dlift ((itemsO o).map fun ds => Rv.new (.lst (ds.map O.im)))
section
variable {X : Cx} {W : WX} {a : Expr} {pos p : Pos} {x : Str} {d : Den O}
theorem de_listV (hg : Gl X x) (hm : X.mg x = none) (hv : bootBuiltins x = some (.type "list")) (ha : DO X W a d) (hn : x ≠ "__name__" := by decide) (hdb : (x == ("__debug__" : Str)) = false := by decide)
    (he : starEach (a :: []) X.env = (false, eval a X.env) :: starEach [] X.env := by rfl) (hpl : (backTo pos (starEach [] X.env)).any (·.1) = false := by rfl) : DE X W (.Call (.Name x p) [a] [] pos) (dlistV d) :=
  ⟨pe_weak (pe_callTy call_list_of hg hm hv (pa_cons ha.run pa_nil he) hn hdb he hpl) fun σ H Q q => by
    obtain ⟨c, F, e, ts, R, q⟩ := q
    refine ⟨c, F, e, ts, R, q.bind (rel := relW) fun F1 H1 e1 o v ef hr q1 => ?_⟩
    obtain ⟨z, hz, k⟩ := q1.lift
    obtain ⟨ds, hd, rfl⟩ := Option.map_eq_some_iff.mp hz
    obtain ⟨R1, fs, ho⟩ := hr
    obtain ⟨p', xs, rfl, hrs, hsq⟩ := items_src R1.fh ho hd
    exact ⟨p', xs, rfl, hsq, fun l hl => k F1 _ (.ref l) (Ex.refl _) (Ex.new hl) (R1.newO hl ⟨l, xs, [], rfl, rfl, upd_same, owns_im hrs⟩)⟩⟩
theorem di_tupV (hg : Gl X x) (hm : X.mg x = none) (hv : bootBuiltins x = some (.type "tuple")) (ha : DO X W a d) (hn : x ≠ "__name__" := by decide) (hdb : (x == ("__debug__" : Str)) = false := by decide)
    (he : starEach (a :: []) X.env = (false, eval a X.env) :: starEach [] X.env := by rfl) (hpl : (backTo pos (starEach [] X.env)).any (·.1) = false := by rfl) : DI X W (.Call (.Name x p) [a] [] pos) (dtupV d) :=
  ⟨pe_weak (pe_callTy call_tuple_of hg hm hv (pa_cons ha.run pa_nil he) hn hdb he hpl) fun σ H Q q => by
    obtain ⟨c, F, e, ts, R, q⟩ := q
    refine ⟨c, F, e, ts, R, q.bind (rel := relW) fun F1 H1 e1 o v ef hr q1 => ?_⟩
    obtain ⟨z, hz, k⟩ := q1.lift
    obtain ⟨R1, fs, ho⟩ := hr
    have mk : ∀ {ds : List D} {p' : Addr} {xs : List V}, z = .tup ds → Reps X.B F1 ds xs → SqL X.B H1 p' xs → v = .ref p' →
        ∃ p ys, [v] = [V.ref p] ∧ ((SqL X.B H1 p ys ∧ ∀ l, H1 l = none → Q (.ref l) (upd H1 l (.tup ys))) ∨ (SqT X.B H1 p ys ∧ Q (.ref p) H1)) := by
      intro ds p' xs ez hrs hsq ev
      subst ev ez
      refine ⟨p', xs, rfl, .inl ⟨hsq, fun l hl => k (upd F1 l (.tup xs)) (upd H1 l (.tup xs)) (.ref l) (Ex.new (none_of_ex R1.fh hl)) (Ex.new hl) ⟨R1.newF hl, l, xs, rfl, SqT.of upd_same, Reps.mono (Ex.new (none_of_ex R1.fh hl)) _ _ hrs⟩⟩⟩
    unfold tupV at hz
    split at hz
    · cases hz
      obtain ⟨p', xs, ev, h1, h2⟩ := ho.2
      exact mk rfl h2 (SqL.of (R1.fh _ _ h1)) ev
    · cases hz
      obtain ⟨p', xs, ev, h1, h2⟩ := ho.2
      exact mk rfl h2 (ex_l R1.fh h1) ev
    · cases hz
      obtain ⟨p', xs, rfl, h1, h2⟩ := id ho.2
      exact ⟨p', xs, rfl, .inr ⟨ex_t R1.fh h1, k F1 H1 _ (Ex.refl _) (Ex.refl _) ⟨R1, ho.2⟩⟩⟩
    · cases hz
      obtain ⟨p', xs, rfl, h1, h2⟩ := id ho.2
      exact ⟨p', xs, rfl, .inr ⟨ex_t R1.fh h1, k F1 H1 _ (Ex.refl _) (Ex.refl _) ⟨R1, ho.2⟩⟩⟩
    · obtain ⟨ds, hd, rfl⟩ := Option.map_eq_some_iff.mp hz
      have eo := ims_eq hd
      subst eo
      obtain ⟨a', xs, rr, ev, _, hA, hos⟩ := ho
      exact mk rfl (of_owns_im hos).1 (SqL.of hA) ev
    · cases hz⟩
end
/-! ### reckoned -/
section
variable {q : Bool} {e : Env}
theorem w_tupV {d : Den O} {P : D → Env → Prop} (p : EW q d e fun o e' => OP (tupV o) fun x => P x e') : EW q (dtupV d) e P := by unfold dtupV; rw [ew_bind]; exact ew_imp p fun o e' h => ew_lift.mpr h
theorem w_listV {d : Den O} {P : Rv → Env → Prop} (p : EW q d e fun o e' => OP (itemsO o) fun ds => P (.new (.lst (ds.map O.im))) e') : EW q (dlistV d) e P := by
  unfold dlistV
  rw [ew_bind]
  refine ew_imp p fun o e' h => ew_lift.mpr ?_
  obtain ⟨z, hz, p⟩ := h
  exact ⟨_, by rw [hz]; rfl, p⟩
end
section
variable {q : Bool} {e : Env} {N : Env → Prop} {R : Rv → Env → Prop} {B C : Env → Prop}
theorem w_forV {d : Den O} {bind : D → Env → Option Env} {body : SDen} (p : EW false d e fun o e' => OP (itemsO o) fun ds => SW (sloop bind (sqt body) ds) e' ⟨N, R, B, C⟩) : SW (sforV d bind body) e ⟨N, R, B, C⟩ := by
  unfold sforV
  rw [sw_bind]
  refine ew_imp p fun o e' h => ?_
  obtain ⟨z, hz, p⟩ := h
  rw [hz]
  exact p
theorem sqt_if {t : Den Bool} {a b : SDen} (p : EW true t e fun k e' => BR k (SW (sqt a) e' ⟨N, R, B, C⟩) (SW (sqt b) e' ⟨N, R, B, C⟩)) : SW (sqt (sif t a b)) e ⟨N, R, B, C⟩ := by
  obtain ⟨m, e', k, h1, h2, h3⟩ := p
  have hm := h2 rfl
  subst hm
  have key : ∀ s : SDen, SW (sqt s) e' ⟨N, R, B, C⟩ → sif t a b e = SRes.more false (s e') → SW (sqt (sif t a b)) e ⟨N, R, B, C⟩ := fun s hs he => by
    obtain ⟨r, hr, p⟩ := hs
    refine ⟨r, ?_, p⟩
    unfold sqt at hr ⊢
    rw [he]
    cases hse : s e' with
    | none => rw [hse] at hr; cases hr
    | some x =>
      rw [hse] at hr
      cases x <;> exact hr
  cases k with
  | true => exact key a (h3.1 rfl) (by unfold sif sbind; rw [h1]; rfl)
  | false => exact key b (h3.2 rfl) (by unfold sif sbind; rw [h1]; rfl)
theorem sqt_rt {d : Den Rv} (p : SW (srt d) e ⟨N, R, B, C⟩) : SW (sqt (srt d)) e ⟨N, R, B, C⟩ := by
  obtain ⟨r, hr, p⟩ := p
  have h : sqt (srt d) e = srt d e := by
    unfold sqt
    unfold srt sbind at hr ⊢
    cases hd : d e with
    | none => rfl
    | some x => cases x <;> rfl
  exact ⟨r, by rw [h]; exact hr, p⟩
theorem sqt_next (p : N e) : SW (sqt snext) e ⟨N, R, B, C⟩ := ⟨_, rfl, p⟩
theorem outI_im {k : Nat} {Post : FRv → Prop} {d : D} (h : k ≤ e.length) (p : Post (.im d)) : outI k Post (.im d) e := ⟨h, p⟩
theorem outI_new {k : Nat} {Post : FRv → Prop} {o : O} (h : k ≤ e.length) (p : Post (.new o)) : outI k Post (.new o) e := ⟨h, p⟩
theorem outI_bor {k i : Nat} {Post : FRv → Prop} {o x : O} (h : k ≤ e.length) (hl : lk e i = some (false, x)) (p : Post (.new o)) : outI k Post (.bor i o) e := ⟨h, by rw [hl]; exact p⟩
/-- a loop over a range -/
theorem sw_range {n : Int} {bind : D → Env → Option Env} {body : SDen} {A : Aft} (Iv : Nat → Env → Prop) (h0 : Iv 0 e)
    (hs : ∀ (i : Nat) e', i < n.toNat → Iv i e' → OP (bind (.int i) e') fun e1 => SW body e1 ⟨Iv (i + 1), A.R, A.N, Iv (i + 1)⟩) (hd : ∀ e', Iv n.toNat e' → A.N e') : SW (sloop bind body (rangeD 0 n.toNat)) e A := by
  refine sw_loop Iv h0 (fun i d e' hi h' => ?_) fun e' h' => hd e' (by unfold rangeD at h'; simpa using h')
  unfold rangeD at hi
  rw [List.getElem?_map] at hi
  obtain ⟨j, hj, rfl⟩ := Option.map_eq_some_iff.mp hi
  have hj2 := List.getElem?_eq_some_iff.mp hj
  obtain ⟨hlt, hj3⟩ := hj2
  rw [List.getElem_range] at hj3
  subst hj3
  rw [Int.zero_add]
  exact hs i e' (by simpa using hlt) h'
/-- a list of frozen things, held or frozen -/
def Lv (xs : List D) (o : O) : Prop := o = .im (.lst xs) ∨ o = .lst (xs.map O.im)
theorem Lv.flat {xs : List D} {o : O} (h : Lv xs o) : o.flat = .lst xs := by
  rcases h with rfl | rfl
  · rfl
  · show D.lst (O.flats (xs.map O.im)) = _
    rw [flats_im]
theorem Lv.of {xs : List D} : Lv xs (.lst (xs.map O.im)) := .inr rfl
theorem Lv.fz {xs : List D} {o : O} (h : Lv xs o) : Lv xs (.im o.flat) := .inl (by rw [h.flat])
theorem atI_map {α β : Type} (f : α → β) (xs : List α) (i : Int) : L2.atI (xs.map f) i = (L2.atI xs i).map f := by
  unfold L2.atI
  rw [List.length_map]
  cases L2.ixN xs.length i <;> simp
theorem atI_nn {α : Type} (xs : List α) (i : Int) (h : 0 ≤ i) : L2.atI xs i = xs[i.toNat]? := by
  obtain ⟨n, rfl⟩ := Int.eq_ofNat_of_zero_le h
  unfold L2.atI L2.ixN
  rw [if_pos h]
  split
  · rfl
  · rename_i hz
    simp at hz ⊢
    omega
theorem Lv.at {xs : List D} {o : O} {i : Int} (h : Lv xs o) : elemOO o (.int i) = (L2.atI xs i).map O.im := by
  rcases h with rfl | rfl
  · rfl
  · exact atI_map O.im xs i
theorem Lv.items {xs : List D} {o : O} (h : Lv xs o) : itemsO o = some xs := by
  rcases h with rfl | rfl
  · rfl
  · show ims (xs.map O.im) = _
    induction xs with
    | nil => rfl
    | cons x xs ih => show (ims (xs.map O.im)).map _ = _; rw [ih]; rfl
/-- a list of ints at hand -/
def LI (ns : List Int) (o : O) : Prop := Lv (ns.map D.int) o
/-- a slot free to be stored to: empty, or filled -/
def fo (s : Option O) : Slot := s.map fun o => (false, o)
theorem fo_free {i : Nat} {s : Option O} (h : e[i]? = some (fo s)) : e.free i = true := by
  unfold Env.free
  rw [h]
  cases s <;> rfl
theorem op_rng {m : Int} {P : List D → Prop} (h : 0 ≤ m ∧ m ≤ 1000000) (p : P (rangeD 0 m.toNat)) : OP (rng1D [.int m]) P := ⟨_, if_pos (by omega), p⟩
theorem mem_range {n : Nat} {d : D} (h : d ∈ rangeD 0 n) : ∃ i : Nat, i < n ∧ d = .int i := by
  unfold rangeD at h
  obtain ⟨i, hi, rfl⟩ := List.mem_map.mp h
  exact ⟨i, List.mem_range.mp hi, by rw [Int.zero_add]⟩
theorem log2_lt {j : Int} (h0 : j ≠ 0) (h : j.natAbs < 2 ^ 64) : j ≠ 0 ∧ j.natAbs.log2 < 9000 := ⟨h0, Nat.lt_trans ((Nat.log2_lt (by omega)).mpr h) (by decide)⟩
theorem ints_map : ∀ ns : List Int, intsD (ns.map D.int) = some ns
  | [] => rfl
  | n :: ns => by show (intsD (ns.map D.int)).map _ = _; rw [ints_map ns]; rfl
theorem op_sum {ns : List Int} {P : D → Prop} (p : P (.int ns.sum)) : OP (sumD [.lst (ns.map D.int)]) P := ⟨_, by unfold sumD; show (intsD (ns.map D.int)).map _ = _; rw [ints_map]; rfl, p⟩
theorem w_seqM {a b : SDen} (M : Env → Prop) (h : SW a e ⟨M, R, B, C⟩) (k : ∀ e', M e' → SW b e' ⟨N, R, B, C⟩) : SW (sseq a b) e ⟨N, R, B, C⟩ := w_seq (w_cut M h k)
theorem LI.of {ns : List Int} : LI ns (.lst (ns.map fun n => O.im (D.int n))) := .inr (by rw [List.map_map]; rfl)
def fi (s : Option D) : Slot := fo (s.map O.im)
theorem flats_map {γ : Type} (g : γ → D) (l : List γ) : O.flats (l.map fun a => O.im (g a)) = l.map g := by
  rw [← flats_im (l.map g), List.map_map]; rfl
/-- a comprehension over l, by g; no conditions -/
theorem w_compM {γ : Type} {src : Den (List D)} {bind : D → Env → Option Env} {elt : Den Rv} {vs : List Nat} {P : Rv → Env → Prop} (l : List γ) (g : γ → D) (h : γ → O)
    (p : EW q src e fun ds e' => ds = l.map g ∧ (wiped e' vs = true ∧ restE e' (wipeE e' vs) vs = e') ∧ l.length ≤ sizeLine ∧ (∀ a ∈ l, OP (bind (g a) (wipeE e' vs)) fun e1 => EW q elt e1 fun rv e3 => rvP rv e3 fun o e4 => o = h a ∧ wipeE e4 vs = wipeE e' vs) ∧ P (.new (.lst (l.map h))) e') : EW q (dcomp src bind (dpure true) elt vs) e P := by
  obtain ⟨m, e', ds, k1, k2, rfl, k3, k4, k5, k6⟩ := p
  unfold dcomp
  rw [ew_bind]
  refine ⟨m, e', l.map g, k1, k2, ?_⟩
  have key : ∀ {l : List γ} {acc : List O}, acc.length + l.length ≤ sizeLine → (∀ a ∈ l, OP (bind (g a) (wipeE e' vs)) fun e1 => EW q elt e1 fun rv e3 => rvP rv e3 fun o e4 => o = h a ∧ wipeE e4 vs = wipeE e' vs) →
      ∃ m, cloop bind (dpure true) elt vs (l.map g) acc (wipeE e' vs) = some (.ok m (wipeE e' vs) (acc ++ l.map h)) ∧ (q = true → m = false) := by
    intro l
    induction l with
    | nil => intro acc _ _; exact ⟨false, by rw [List.map_nil, List.map_nil, List.append_nil]; rfl, fun _ => rfl⟩
    | cons a l ih =>
      intro acc hl hh
      rw [List.length_cons] at hl
      obtain ⟨e1, h1, m2, e3, rv, h4, hm2, h5⟩ := hh a List.mem_cons_self
      obtain ⟨m3, e4, o, h6, _, hf, he⟩ := w_rvO (q := false) h5
      obtain ⟨m, hc, hm⟩ := ih (acc := acc ++ [o]) (by rw [List.length_append]; show acc.length + 1 + l.length ≤ sizeLine; omega) fun x hx => hh x (List.mem_cons_of_mem _ hx)
      rw [List.map_cons]
      unfold cloop
      rw [h1]
      dsimp only [dpure]
      rw [h4]
      dsimp only
      rw [h6]
      dsimp only
      rw [if_pos (by omega), he, hc, hf, List.append_assoc]
      exact ⟨false || m2 || m, rfl, fun z => by rw [hm2 z, hm z]; rfl⟩
  obtain ⟨m, hc, hm⟩ := key (acc := []) (by simpa using k4) k5
  refine ⟨m, e', _, ?_, hm, k6⟩
  dsimp only
  rw [if_pos k3.1, hc]
  dsimp only
  rw [k3.2]
  rfl
theorem w_sforv {i : Nat} {b : Bool} {d : D} {ds : List D} {bind : D → Env → Option Env} {body : SDen} (h : lk e i = some (b, .im d)) (hs : seqD d = some ds) (p : SW (sloop bind body ds) e ⟨N, R, B, C⟩) : SW (sfor (dvar i) bind body) e ⟨N, R, B, C⟩ :=
  w_sforI (w_varI h ⟨ds, hs, p⟩)
/-- a loop over l's pictures -/
theorem sw_each {γ : Type} {bind : D → Env → Option Env} {body : SDen} {A : Aft} (l : List γ) (g : γ → D) (Iv : Nat → Env → Prop) (h0 : Iv 0 e)
    (hs : ∀ i a e', l[i]? = some a → Iv i e' → OP (bind (g a) e') fun e1 => SW body e1 ⟨Iv (i + 1), A.R, A.N, Iv (i + 1)⟩) (hd : ∀ e', Iv l.length e' → A.N e') : SW (sloop bind body (l.map g)) e A := by
  refine sw_loop Iv h0 (fun i d e' hi h' => ?_) fun e' h' => hd e' (by rwa [List.length_map] at h')
  rw [List.getElem?_map] at hi
  obtain ⟨a, ha, rfl⟩ := Option.map_eq_some_iff.mp hi
  exact hs i a e' ha h'
theorem take_snoc {γ : Type} {l : List γ} {i : Nat} {a : γ} (h : l[i]? = some a) : l.take (i + 1) = l.take i ++ [a] := by
  rw [List.take_succ, h]; rfl
theorem flat_map {γ : Type} (g : γ → D) (l : List γ) : O.flat (.lst (l.map fun a => O.im (g a))) = .lst (l.map g) := by
  show D.lst (O.flats _) = _
  rw [flats_map]
theorem op_isiII {i : Int} {P : D → Prop} (p : P (.bl true)) : OP (isiD [.int i, .ty "int"]) P := ⟨_, rfl, p⟩
theorem op_isiIB {i : Int} {P : D → Prop} (p : P (.bl false)) : OP (isiD [.int i, .ty "bool"]) P := ⟨_, rfl, p⟩
theorem op_isiTT {i : List D} {P : D → Prop} (p : P (.bl true)) : OP (isiD [.tup i, .ty "tuple"]) P := ⟨_, rfl, p⟩
theorem op_isiLL {i : List D} {P : D → Prop} (p : P (.bl true)) : OP (isiD [.lst i, .ty "list"]) P := ⟨_, rfl, p⟩
theorem op_rngG {m : Int} {P : List D → Prop} (h : (0 ≤ m ∧ m ≤ 1000000) ∧ P (rangeD 0 m.toNat)) : OP (rng1D [.int m]) P := op_rng h.1 h.2
end
end DL

/-! DLR: match over written strings. -/
namespace DL
open PySem PySem.Spec PyProof.Rows L2 Evl
/-- cases, the subject at hand -/
structure PMC (X : Cx) (cs : List MatchCase) (t : V → TS) : Prop where
  run : ∀ (first : Bool) (pins : List (Addr × Obj)) (s : Shared) (σ : L2.St) (H : Hp) (D : Ends) (x : V) (u : Value), Inv X pins σ H s → RelV x u → t x D σ H → wpAny (model X.prog X.w) X.A (matchCases cs X.env u first) (SP X pins D) X.xe s
section
variable {X : Cx} {W : WX}
/-- what is done for z -/
def spick (z : Str) : List (Str × SDen) → SDen
  | [] => snext
  | (p, b) :: cs => if z = p then b else spick z cs
def smatch (d : Den D) (cs : List (Str × SDen)) : SDen := sbind d fun x => match x with
  | .str z => if PyData.strOk z = true then spick z cs else fun _ => none
  | _ => fun _ => none
structure DMC (X : Cx) (W : WX) (cs : List MatchCase) (ds : List (Str × SDen)) : Prop where
  run : PMC X cs fun x D σ H => ∃ z, x = .str z ∧ PyData.strOk z = true ∧ ∃ c F e ts, RE X.B c F H σ e ts ∧ AtS X.B W (spick z ds) D c F σ e ts H
end
section
variable {e : Env} {N : Env → Prop} {R : Rv → Env → Prop} {B C : Env → Prop}
def pickP (x : D) (cs : List (Str × SDen)) (e : Env) (A : Aft) : Prop := match x with
  | .str z => PyData.strOk z = true ∧ SW (spick z cs) e A
  | _ => False
theorem w_match {d : Den D} {cs : List (Str × SDen)} (p : EW false d e fun x e' => pickP x cs e' ⟨N, R, B, C⟩) : SW (smatch d cs) e ⟨N, R, B, C⟩ := by
  unfold smatch
  rw [sw_bind]
  refine ew_imp p fun x e' h => ?_
  unfold pickP at h
  cases x <;> first | exact False.elim h | (dsimp only at h ⊢; rw [if_pos h.1]; exact h.2)
theorem pickP_of {z : Str} {cs : List (Str × SDen)} (hz : PyData.strOk z = true) (p : SW (spick z cs) e ⟨N, R, B, C⟩) : pickP (.str z) cs e ⟨N, R, B, C⟩ := ⟨hz, p⟩
theorem sp_n {z : Str} (p : N e) : SW (spick z []) e ⟨N, R, B, C⟩ := w_next p
theorem sp_t {z : Str} {b : SDen} {cs : List (Str × SDen)} (p : SW b e ⟨N, R, B, C⟩) : SW (spick z ((z, b) :: cs)) e ⟨N, R, B, C⟩ := by
  unfold spick
  rw [if_pos rfl]
  exact p
theorem sp_f {z y : Str} {b : SDen} {cs : List (Str × SDen)} (h : ¬ z = y) (p : SW (spick z cs) e ⟨N, R, B, C⟩) : SW (spick z ((y, b) :: cs)) e ⟨N, R, B, C⟩ := by
  unfold spick
  rw [if_neg h]
  exact p
theorem w_chain {q : Bool} {da db dc : Den D} {g g' : D → D → Option Bool} {P : D → Env → Prop} (p : EW q da e fun x e1 => EW true db e1 fun y e2 => OP (g x y) fun k => BR k (EW true dc e2 fun z e3 => OP (g' y z) fun b => P (.bl b) e3) (P (.bl false) e2)) : EW q (dchain da db dc g g') e P := ew_chain.mpr p
end
section
variable {X : Cx} {W : WX} {a b : Expr} {pos : Pos} {da db : Den D}
/-- an item of what is frozen; the index may do something -/
theorem di_ixI (ha : DI X W a da) (hb : DI X W b db) (hs : PlainIx b := by exact fun _ _ => rfl) : DI X W (.Subscript a b pos) (dbin da db elemD) := ⟨pe_weak (pe_ix ix_seq ha.run hb.run hs) fun σ H Q q => by
  obtain ⟨c, F, e, ts, R, q⟩ := q
  refine ⟨c, F, e, ts, R, q.bind (rel := relI) fun F1 H1 e1 x v ef hr q1 => ⟨c, F1, e1, ts, hr.1, q1.bind (rel := relI) fun F2 H2 e2 y u ef2 hr2 q2 => ?_⟩⟩
  obtain ⟨z, hz, k⟩ := q2.lift
  exact elemD_ok hr2.1.fh (Rep.mono ef2 _ _ hr.2) hr2.2 hz fun w hw => k F2 H2 w (Ex.refl _) (Ex.refl _) ⟨hr2.1, hw⟩⟩
end
end DL

/-! DLS: lists put together. -/
namespace DL
open PySem PySem.Spec PyProof.Rows L2 Evl
def lstV : O → Option (List D)
  | .im (.lst ds) => some ds
  | .lst os => ims os
  | _ => none
def catV (a b : O) : Option Rv := match lstV a, lstV b with
  | some xs, some ys => if xs.length + ys.length ≤ sizeLine then some (.new (.lst ((xs ++ ys).map O.im))) else none
  | _, _ => none
def dcat (d f : Den O) : Den Rv := dbind d fun x => dbind (dq f) fun y => dlift (catV x y)
theorem lstV_ok {K : KB} {F H : Hp} {o : O} {ds : List D} {v : V} {fs : List Addr} (fh : Ex F H) (h : Own K F H o v fs) (hs : lstV o = some ds) : ∃ a xs, v = .ref a ∧ Reps K F ds xs ∧ H a = some (.lst xs) := by
  cases o with
  | im d =>
    cases d with
    | lst es => cases hs; obtain ⟨a, xs, e1, h1, h2⟩ := h.2; exact ⟨a, xs, e1, h2, fh _ _ h1⟩
    | _ => cases hs
  | lst os =>
    have eo := ims_eq hs
    subst eo
    obtain ⟨a, xs, rr, rfl, _, ha, hos⟩ := h
    exact ⟨a, xs, rfl, (of_owns_im hos).1, ha⟩
  | _ => cases hs
section
variable {X : Cx} {W : WX} {a b : Expr} {pos : Pos} {da db : Den O}
theorem de_cat (ha : DO X W a da) (hb : DO X W b db) (h : ∀ {ta tb}, PE X a ta → PE X b tb → PE X (.BinOp a .Add b pos) (tOp rCat ta tb)) : DE X W (.BinOp a .Add b pos) (dcat da db) := ⟨pe_weak (h ha.run hb.run) fun σ H Q q => by
  obtain ⟨c, F, e, ts, R, q⟩ := q
  refine ⟨c, F, e, ts, R, q.bind (rel := relW) fun F1 H1 e1 x v ef hr q1 => ⟨c, F1, e1, ts, hr.1, ?_⟩⟩
  have q2 := (q1.bind (rel := relW) (Q' := fun u H2 => Ex H1 H2 → rCat v u H2 Q) fun F2 H2 e2 y u ef2 hr2 q2 ee => by
    obtain ⟨rv, hd, k⟩ := q2.lift
    obtain ⟨fs, ho⟩ := hr.2
    obtain ⟨R2, gs, ho2⟩ := hr2
    unfold catV at hd
    split at hd
    · rename_i xs ys h1 h2
      split at hd
      · rename_i hz
        cases hd
        obtain ⟨a', vs, rfl, r1, k1⟩ := lstV_ok R2.fh (Own.mono ef2 _ _ _ (fun p _ w z => ee p w z) ho) h1
        obtain ⟨b', us, rfl, r2, k2⟩ := lstV_ok R2.fh ho2 h2
        refine ⟨a', b', vs, us, rfl, rfl, k1, k2, by rw [← r1.length, ← r2.length]; exact hz, fun p hp => k F2 _ (.ref p) (Ex.refl _) (Ex.new hp) (R2.newO hp ⟨p, vs ++ us, [], rfl, rfl, upd_same, owns_im (Reps.append r1 r2)⟩)⟩
      · cases hd
    · cases hd).quiet
  obtain ⟨rr, h1, post⟩ := q2
  refine ⟨rr, h1, ?_⟩
  cases rr with
  | err m e1 x => exact post
  | ok m e1 a => exact fun F' H' v' ef' eh hrel => let z := post F' H' v' ef' eh hrel; z.2 z.1 z.1⟩
end
section
variable {q : Bool} {e : Env}
theorem w_cat {d f : Den O} {P : Rv → Env → Prop} (p : EW q d e fun x e1 => EW true f e1 fun y e2 => OP (catV x y) fun r => P r e2) : EW q (dcat d f) e P := by
  unfold dcat
  simp only [ew_bind, ew_lift, ew_dq]
  exact p
end
/-! ### x.pop() -/
def dpop (i : Nat) : Den Rv := fun e => match e[i]? with
  | some (some (b, .lst os)) => match os[os.length - 1]? with
    | some (.im d) => some (.ok true (e.set i (some (b, .lst os.dropLast))) (.im d))
    | _ => none
  | _ => none
theorem owns_pop {K : KB} {F H : Hp} {d0 : D} : ∀ {os : List O} {xs : List V} {fs : List Addr}, Owns K F H os xs fs → os[os.length - 1]? = some (.im d0) → Owns K F H os.dropLast xs.dropLast fs ∧ ∃ x, xs[xs.length - 1]? = some x ∧ Rep K F d0 x
  | [], xs, fs, h, e => by simp at e
  | [o], xs, fs, h, e => by
    obtain ⟨y, r, f1, f2, rfl, rfl, h1, h2⟩ := h
    obtain ⟨rfl, rfl⟩ := h2
    have eo : o = .im d0 := by simpa using e
    subst eo
    obtain ⟨rfl, h1⟩ := h1
    exact ⟨⟨rfl, rfl⟩, y, rfl, h1⟩
  | o :: o2 :: os, xs, fs, h, e => by
    obtain ⟨y, r, f1, f2, rfl, rfl, h1, h2⟩ := h
    have e2 : (o2 :: os)[(o2 :: os).length - 1]? = some (.im d0) := by simpa using e
    obtain ⟨k1, x, k2, k3⟩ := owns_pop h2 e2
    have hl := h2.length
    cases r with
    | nil => simp at hl
    | cons z zs =>
      refine ⟨⟨y, (z :: zs).dropLast, f1, f2, rfl, rfl, h1, k1⟩, x, by simpa using k2, k3⟩
section
variable {X : Cx} {W : WX}
theorem de_pop {i : Nat} {x : Str} {px apos pos : Pos} (h : PE X (.Call (.Attribute (.Name x px) "pop" apos) [] [] pos) (tBM0 X.B "list" rPop (tVar i))) : DE X W (.Call (.Attribute (.Name x px) "pop" apos) [] [] pos) (dpop i) := ⟨pe_weak h fun σ H Q q => by
  obtain ⟨c, F, e, ts, R, r, hr, post⟩ := q
  unfold dpop at hr
  split at hr
  · rename_i b os he
    split at hr
    · rename_i d hd
      cases hr
      obtain ⟨v, f0, hv, how, nd, fr, hc⟩ := R.mutSlot he
      obtain ⟨a, xs, rr, rfl, rfl, ha, hos⟩ := how
      have fa := fr a List.mem_cons_self
      obtain ⟨k1, y, k2, k3⟩ := owns_pop hos hd
      refine ⟨.ref a, hv, .inl ⟨rfl, xs, SqL.of ha⟩, a, xs, y, rfl, rfl, ha, k2, ?_⟩
      refine post F _ y (Ex.refl _) (fun z => by cases z) ⟨hc F _ (.lst os.dropLast) (a :: rr) ⟨Ex.refl _, fun p u z => ?_, fun q u hq z => ?_, fun p hp => .inl hp⟩ ⟨a, xs.dropLast, rr, rfl, rfl, upd_same, ?_⟩ nd fun q hq => ⟨.inl hq, fr q hq⟩, k3⟩
      · rw [upd_ne (fun w => by subst w; rw [fa.1] at z; cases z)]
        exact R.fh p u z
      · rw [upd_ne (fun w => hq (by subst w; exact List.mem_cons_self))]
        exact z
      · refine Owns.mono (Ex.refl _) _ _ _ (fun p hp u z => ?_) k1
        rw [upd_ne (fun w => (List.nodup_cons.mp nd).1 (by subst w; exact hp))]
        exact z
    · cases hr
  · cases hr⟩
end
theorem w_pop {e : Env} {i : Nat} {b : Bool} {os : List O} {d : D} {P : Rv → Env → Prop} (h : lk e i = some (b, .lst os)) (hd : os[os.length - 1]? = some (.im d)) (p : P (.im d) (e.set i (some (b, .lst os.dropLast)))) : EW false (dpop i) e P := by
  unfold EW dpop
  rw [lk_some h]
  dsimp only
  rw [hd]
  exact ⟨_, _, _, rfl, (fun z => by cases z), p⟩
/-! ### x[::-1] -/
def lsqV : O → Option (List D)
  | .im (.lst ds) => some ds
  | .im (.scr ds) => some ds
  | .lst os => ims os
  | _ => none
def drev (d : Den O) : Den Rv := dbind d fun o => dlift ((lsqV o).map fun ds => Rv.new (.lst (ds.reverse.map O.im)))
theorem lsqV_ok {K : KB} {F H : Hp} {o : O} {ds : List D} {v : V} {fs : List Addr} (fh : Ex F H) (h : Own K F H o v fs) (hs : lsqV o = some ds) : ∃ a xs, v = .ref a ∧ Reps K F ds xs ∧ SqL K H a xs := by
  cases o with
  | im d =>
    cases d with
    | lst es => cases hs; obtain ⟨a, xs, e1, h1, h2⟩ := h.2; exact ⟨a, xs, e1, h2, SqL.of (fh _ _ h1)⟩
    | scr es => cases hs; obtain ⟨a, xs, e1, h1, h2⟩ := h.2; exact ⟨a, xs, e1, h2, ex_l fh h1⟩
    | _ => cases hs
  | lst os =>
    have eo := ims_eq hs
    subst eo
    obtain ⟨a, xs, rr, rfl, _, ha, hos⟩ := h
    exact ⟨a, xs, rfl, (of_owns_im hos).1, SqL.of ha⟩
  | _ => cases hs
theorem Reps.rev {K : KB} {F : Hp} : ∀ {ds : List D} {xs : List V}, Reps K F ds xs → Reps K F ds.reverse xs.reverse
  | [], xs, h => by rw [show xs = [] from h]; rfl
  | d :: ds, xs, h => by
    obtain ⟨x, r, rfl, h1, h2⟩ := h
    rw [List.reverse_cons, List.reverse_cons]
    exact Reps.append (Reps.rev h2) ⟨x, [], rfl, h1, rfl⟩
theorem de_rev {X : Cx} {W : WX} {a ex : Expr} {d : Den O} (ha : DO X W a d) (h : ∀ {te}, PE X a te → PE X ex (tRevL X.B te)) : DE X W ex (drev d) := ⟨pe_weak (h ha.run) fun σ H Q q => by
  obtain ⟨c, F, e, ts, R, q⟩ := q
  refine ⟨c, F, e, ts, R, q.bind (rel := relW) fun F1 H1 e1 o v ef hr q1 => ?_⟩
  obtain ⟨z, hz, k⟩ := q1.lift
  obtain ⟨ds, hd, rfl⟩ := Option.map_eq_some_iff.mp hz
  obtain ⟨R1, fs, ho⟩ := hr
  obtain ⟨p', xs, rfl, hrs, hsq⟩ := lsqV_ok R1.fh ho hd
  exact ⟨p', xs, rfl, hsq, fun l hl => k F1 _ (.ref l) (Ex.refl _) (Ex.new hl) (R1.newO hl ⟨l, xs.reverse, [], rfl, rfl, upd_same, owns_im (Reps.rev hrs)⟩)⟩⟩
theorem w_rev {q : Bool} {e : Env} {d : Den O} {P : Rv → Env → Prop} (p : EW q d e fun o e' => OP (lsqV o) fun ds => P (.new (.lst (ds.reverse.map O.im))) e') : EW q (drev d) e P := by
  unfold drev
  rw [ew_bind]
  refine ew_imp p fun o e' h => ew_lift.mpr ?_
  obtain ⟨z, hz, p⟩ := h
  exact ⟨_, by rw [hz]; rfl, p⟩
end DL

/-! DLT: own classes: made, fields stored, methods, properties; defaults. -/
namespace DL
open PySem PySem.Spec PyProof.Rows L2 Evl

/-! ### the machine's side, at the caller's slots -/
section
variable {X : Cx} {CX : CXT} {k : Nat} {f C : Addr} {fd : FuncData} {ps : List Str} {sp : Sp} {dvs : List V} {ds : List Value} {E : L2.St → XK} {x m : Str} {p pos apos : Pos} {e o : Expr} {es : List Expr} {ta : TE} {t : TA}
end

/-! ### arguments with defaults; a call -/
section
variable {K : KB} {c : Ctx} {F F' H H' : Hp} {σ : L2.St} {e : Env} {ts : List (V × O)}

theorem arel_of {K : KB} {F : Hp} {σ : L2.St} : ∀ {ds : List D} {ws : List V}, Reps K F ds ws → ARel K F σ (ds.map AR.im) ws
  | [], ws, h => h
  | d :: ds, ws, h => by
    obtain ⟨x, r, rfl, h3, h4⟩ := h
    exact ⟨x, r, rfl, h3, arel_of h4⟩
theorem ARel.append {K : KB} {F : Hp} {σ : L2.St} : ∀ {as : List AR} {vs : List V} {ds : List D} {ws : List V}, ARel K F σ as vs → Reps K F ds ws → ARel K F σ (as ++ ds.map AR.im) (vs ++ ws)
  | [], vs, ds, ws, h, h2 => by
    rw [show vs = [] from h]
    exact arel_of h2
  | .im d :: as, vs, ds, ws, h, h2 => by
    obtain ⟨v, r, rfl, h1, h3⟩ := h
    exact ⟨v, r ++ ws, rfl, h1, ARel.append h3 h2⟩
  | .bor i :: as, vs, ds, ws, h, h2 => by
    obtain ⟨v, r, rfl, h1, h3⟩ := h
    exact ⟨v, r ++ ws, rfl, h1, ARel.append h3 h2⟩
/-- defaults: data that stands at every heap -/
def Dfl (K : KB) (dd : List D) (dvs : List V) : Prop := ∀ F : Hp, Reps K F dd dvs
end
section
variable {X : Cx} {W : WX} {a : Expr} {es : List Expr} {pos p apos : Pos} {x m : Str} {k : Nat} {f C : Addr} {fd : FuncData} {ps : List Str} {fn : FDen} {dd : List D} {dvs : List V} {dl : List Value}

/-! ### a new instance -/
/-! ### o.m(..) -/
/-- the receiver is an instance of C, not hiding m -/
def isC (C : Addr) (m : Str) (a : AR) : Env → Bool := fun e => match a with
  | .im (.ins C' ns ds) => decide (C' = C) && ((ns.zip ds).lookup m).isNone
  | .bor i => match e[i]? with
    | some (some (_, .ins C' ns os)) => decide (C' = C) && ((ns.zip os).lookup m).isNone
    | _ => false
  | _ => false
def dmeth (C : Addr) (m : Str) (n : Nat) (f : FDen) (da : Den Rv) (ds : Den (List AR)) (dd : List D) : Den Rv := dbind (ar1 da) fun a e => if isC C m a e = true then (dbind ds fun as => dfnA n f (a :: (as ++ dd.map AR.im))) e else none
end
end DL

/-! DLU: places within what a slot holds. -/
namespace DL
open PySem PySem.Spec PyProof.Rows L2 Evl

/-! ### parts -/
@[simp] def O.kids : O → Option (List O)
  | .im _ => none
  | .lst xs => some xs
  | .tup xs => some xs
  | .dct _ vs => some vs
  | .ins _ _ vs => some vs
@[simp] def O.setKids : O → List O → O
  | .im d, _ => .im d
  | .lst _, xs => .lst xs
  | .tup _, xs => .tup xs
  | .dct ks _, xs => .dct ks xs
  | .ins C ns _, xs => .ins C ns xs
@[simp] def O.get : List Nat → O → Option O
  | [], o => some o
  | n :: p, o => o.kids.bind fun xs => (xs[n]?).bind (O.get p)
@[simp] def O.put : List Nat → O → O → O
  | [], _, x => x
  | n :: p, o, x => match o.kids with
    | some xs => match xs[n]? with
      | some y => o.setKids (xs.set n (O.put p y x))
      | none => o
    | none => o
theorem kids_set {o : O} {xs ys : List O} (h : o.kids = some xs) : (o.setKids ys).kids = some ys := by
  cases o with
  | im d => cases h
  | _ => rfl
theorem setKids_set {o : O} {xs ys : List O} : (o.setKids xs).setKids ys = o.setKids ys := by cases o <;> rfl

/-! ### parts in the heap -/
def Kids (K : KB) (H : Hp) (a : Addr) (xs : List V) : Prop := ∃ ho, H a = some ho ∧ (ho = .lst xs ∨ ho = .tup xs ∨ (∃ (C dx : Addr) (ns : List Str), ns.length = xs.length ∧ ho = .ins C dx (ns.zip xs)) ∨ (∃ kvs : List (Key × V), ho = .dK kvs ∧ xs = kvs.map (·.2)) ∨ ∃ kvs, ho = dX K a kvs ∧ xs = kvs.map (·.2.2))
theorem zip_snd {α β : Type} : ∀ {ns : List α} {xs : List β}, ns.length = xs.length → (ns.zip xs).map (·.2) = xs
  | [], [], _ => rfl
  | [], _ :: _, h => by simp at h
  | _ :: _, [], h => by simp at h
  | n :: ns, x :: xs, h => by
    rw [List.zip_cons_cons, List.map_cons, zip_snd (by simpa using h)]
theorem Kids.fn {K : KB} {H : Hp} {a : Addr} {xs ys : List V} (h : Kids K H a xs) (h' : Kids K H a ys) : xs = ys := by
  obtain ⟨ho, h1, h2⟩ := h
  obtain ⟨ho', h3, h4⟩ := h'
  rw [h1] at h3
  cases h3
  unfold dX at *
  rcases h2 with rfl | rfl | ⟨C, dx, ns, hl, rfl⟩ | ⟨kvs, rfl, rfl⟩ | ⟨kvs, rfl, rfl⟩
  · rcases h4 with e | e | ⟨_, _, _, _, e⟩ | ⟨_, e, _⟩ | ⟨_, e, _⟩ <;> cases e
    rfl
  · rcases h4 with e | e | ⟨_, _, _, _, e⟩ | ⟨_, e, _⟩ | ⟨_, e, _⟩ <;> cases e
    rfl
  · rcases h4 with e | e | ⟨C', dx', ns', hl', e⟩ | ⟨_, e, _⟩ | ⟨_, e, _⟩
    · cases e
    · cases e
    · have e1 := (HO.ins.inj e).2.2
      rw [← zip_snd hl, e1, zip_snd hl']
    · cases e
    · cases e
  · rcases h4 with e | e | ⟨_, _, _, _, e⟩ | ⟨_, e, e2⟩ | ⟨_, e, _⟩ <;> cases e
    exact e2.symm
  · rcases h4 with e | e | ⟨_, _, _, _, e⟩ | ⟨_, e, _⟩ | ⟨kvs', e, e2⟩
    · cases e
    · cases e
    · cases e
    · cases e
    · rw [e2]
      exact dX_inj e
theorem Kids.mono {K : KB} {H H' : Hp} {a : Addr} {xs : List V} (e : Ex H H') (h : Kids K H a xs) : Kids K H' a xs := by
  obtain ⟨ho, h1, h2⟩ := h
  exact ⟨ho, e _ _ h1, h2⟩
def WalkTo (K : KB) (H : Hp) : V → List Nat → V → Prop
  | v, [], w => v = w
  | v, n :: p, w => ∃ a xs x, v = .ref a ∧ Kids K H a xs ∧ xs[n]? = some x ∧ WalkTo K H x p w
theorem WalkTo.fn {K : KB} {H : Hp} : ∀ {p : List Nat} {v w w' : V}, WalkTo K H v p w → WalkTo K H v p w' → w = w'
  | [], v, w, w', h, h' => h.symm.trans h'
  | n :: p, v, w, w', h, h' => by
    obtain ⟨a, xs, x, rfl, h1, h2, h3⟩ := h
    obtain ⟨a', xs', x', e, h4, h5, h6⟩ := h'
    cases e
    have e1 := h1.fn h4
    subst e1
    rw [h2] at h5
    cases h5
    exact h3.fn h6
theorem WalkTo.mono {K : KB} {H H' : Hp} (e : Ex H H') : ∀ {p : List Nat} {v w : V}, WalkTo K H v p w → WalkTo K H' v p w
  | [], v, w, h => h
  | n :: p, v, w, h => by
    obtain ⟨a, xs, x, rfl, h1, h2, h3⟩ := h
    exact ⟨a, xs, x, rfl, h1.mono e, h2, h3.mono e⟩
theorem WalkTo.snoc {K : KB} {H : Hp} {n : Nat} {a : Addr} {xs : List V} {x : V} : ∀ {p : List Nat} {v : V}, WalkTo K H v p (.ref a) → Kids K H a xs → xs[n]? = some x → WalkTo K H v (p ++ [n]) x
  | [], v, h, hk, hx => ⟨a, xs, x, h, hk, hx, rfl⟩
  | m :: p, v, h, hk, hx => by
    obtain ⟨b, ys, y, rfl, h1, h2, h3⟩ := h
    exact ⟨b, ys, y, rfl, h1, h2, h3.snoc hk hx⟩
/-- what is owned, its parts -/
theorem own_kids {K : KB} {F H : Hp} {o : O} {os : List O} {v : V} {fs : List Addr} (h : Own K F H o v fs) (hk : o.kids = some os) : ∃ a xs r, v = .ref a ∧ fs = a :: r ∧ Kids K H a xs ∧ Owns K F H os xs r ∧
    ∀ os' r', Owns K F H os' xs r' → Own K F H (o.setKids os') v (a :: r') := by
  cases o with
  | im d => cases hk
  | lst xs =>
    cases hk
    obtain ⟨a, ys, r, e1, e2, h1, h2⟩ := h
    exact ⟨a, ys, r, e1, e2, ⟨_, h1, .inl rfl⟩, h2, fun os' r' h' => ⟨a, ys, r', e1, rfl, h1, h'⟩⟩
  | tup xs =>
    cases hk
    obtain ⟨a, ys, r, e1, e2, h1, h2⟩ := h
    exact ⟨a, ys, r, e1, e2, ⟨_, h1, .inr (.inl rfl)⟩, h2, fun os' r' h' => ⟨a, ys, r', e1, rfl, h1, h'⟩⟩
  | dct ks vs =>
    cases hk
    obtain ⟨a, ho, ys, r, e1, e2, h1, h0, h2⟩ := h
    refine ⟨a, ys, r, e1, e2, ⟨_, h1, ?_⟩, h2, fun os' r' h' => ⟨a, ho, ys, r', e1, rfl, h1, h0, h'⟩⟩
    rcases h0 with ⟨kvs, e3, _, _, e4⟩ | ⟨kvs, e3, _, _, e4⟩
    · exact .inr (.inr (.inr (.inl ⟨kvs, e3, e4⟩)))
    · exact .inr (.inr (.inr (.inr ⟨kvs, e3, e4⟩)))
  | ins C ns vs =>
    cases hk
    obtain ⟨a, dx, ys, r, e1, e2, h1, h0, h2⟩ := h
    exact ⟨a, ys, r, e1, e2, ⟨_, h1, .inr (.inr (.inl ⟨C, dx, ns, h0, rfl⟩))⟩, h2, fun os' r' h' => ⟨a, dx, ys, r', e1, rfl, h1, h0, h'⟩⟩
theorem owns_out {K : KB} {F H : Hp} : ∀ {os : List O} {xs : List V} {fs : List Addr} {n : Nat} {o : O}, Owns K F H os xs fs → os[n]? = some o → ∃ x f1 f0 f2, xs[n]? = some x ∧ fs = f1 ++ (f0 ++ f2) ∧ Own K F H o x f0 ∧
    ∀ (o' : O) (f0' : List Addr), Own K F H o' x f0' → Owns K F H (os.set n o') xs (f1 ++ (f0' ++ f2))
  | [], xs, fs, n, o, h, e => by simp at e
  | o0 :: os, xs, fs, 0, o, h, e => by
    have eo : o0 = o := by simpa using e
    subst eo
    obtain ⟨y, r, f1, f2, rfl, rfl, h1, h2⟩ := h
    exact ⟨y, [], f1, f2, rfl, rfl, h1, fun o' f0' ho => ⟨y, r, f0', f2, rfl, rfl, ho, h2⟩⟩
  | o0 :: os, xs, fs, n + 1, o, h, e => by
    obtain ⟨y, r, f1, f2, rfl, rfl, h1, h2⟩ := h
    obtain ⟨x, g1, g0, g2, k1, k2, k3, k4⟩ := owns_out h2 (show os[n]? = some o by simpa using e)
    subst k2
    exact ⟨x, f1 ++ g1, g0, g2, by simpa using k1, by rw [List.append_assoc], k3, fun o' f0' ho => by
      rw [List.append_assoc]
      exact ⟨y, r, f1, g1 ++ (f0' ++ g2), rfl, rfl, h1, k4 o' f0' ho⟩⟩
theorem put_cons {n : Nat} {p : List Nat} {o y x : O} {os : List O} (h1 : o.kids = some os) (h2 : os[n]? = some y) : O.put (n :: p) o x = o.setKids (os.set n (O.put p y x)) := by
  rw [O.put, h1]
  dsimp only
  rw [h2]
/-- a part, taken out; adr a stands where it was -/
theorem own_out {K : KB} {F H : Hp} : ∀ {p : List Nat} {o0 tgt : O} {v : V} {fs : List Addr}, Own K F H o0 v fs → O.get p o0 = some tgt → tgt.kids.isSome = true →
    ∃ a f1 f2, WalkTo K H v p (.ref a) ∧ Own K F H tgt (.ref a) f1 ∧ fs.Perm (f1 ++ f2) ∧ Own K F H (O.put p o0 (.im (.adr a))) v f2
  | [], o0, tgt, v, fs, h, hg, hk => by
    cases hg
    obtain ⟨os, hos⟩ := Option.isSome_iff_exists.mp hk
    obtain ⟨a, xs, r, rfl, _⟩ := own_kids h hos
    exact ⟨a, fs, [], rfl, h, by rw [List.append_nil], ⟨rfl, rfl⟩⟩
  | n :: p, o0, tgt, v, fs, h, hg, hk => by
    unfold O.get at hg
    obtain ⟨os, h1, h2⟩ := Option.bind_eq_some_iff.mp hg
    obtain ⟨y, h3, h4⟩ := Option.bind_eq_some_iff.mp h2
    obtain ⟨b, xs, r, rfl, rfl, hkid, hown, back⟩ := own_kids h h1
    obtain ⟨x, g1, g0, g2, k1, k2, k3, k4⟩ := owns_out hown h3
    obtain ⟨a, f1, f2, w1, w2, w3, w4⟩ := own_out k3 h4 hk
    refine ⟨a, f1, b :: (g1 ++ (f2 ++ g2)), ⟨b, xs, x, rfl, hkid, k1, w1⟩, w2, ?_, ?_⟩
    · rw [k2]
      have e1 : (b :: (g1 ++ (g0 ++ g2))).Perm (b :: (g1 ++ ((f1 ++ f2) ++ g2))) := List.Perm.cons b (List.Perm.append_left g1 (List.Perm.append_right g2 w3))
      refine e1.trans ?_
      have e2 : (g1 ++ ((f1 ++ f2) ++ g2)).Perm (f1 ++ (g1 ++ (f2 ++ g2))) := by
        rw [List.append_assoc, ← List.append_assoc, ← List.append_assoc f1]
        exact List.Perm.append_right _ List.perm_append_comm
      exact (List.Perm.cons b e2).trans List.perm_middle.symm
    · rw [put_cons h1 h3]
      exact back _ _ (k4 _ _ w4)
theorem own_in {K : KB} {F H : Hp} {a : Addr} {o' : O} {f1 : List Addr} (ho : Own K F H o' (.ref a) f1) : ∀ {p : List Nat} {o0 tgt : O} {v : V} {f2 : List Addr}, O.get p o0 = some tgt → Own K F H (O.put p o0 (.im (.adr a))) v f2 →
    ∃ fs, Own K F H (O.put p o0 o') v fs ∧ fs.Perm (f1 ++ f2)
  | [], o0, tgt, v, f2, hg, h => by
    obtain ⟨e1, e2⟩ := h
    rw [show v = .ref a from e2, e1, List.append_nil]
    exact ⟨f1, ho, .refl _⟩
  | n :: p, o0, tgt, v, f2, hg, h => by
    unfold O.get at hg
    obtain ⟨os, h1, h2⟩ := Option.bind_eq_some_iff.mp hg
    obtain ⟨y, h3, h4⟩ := Option.bind_eq_some_iff.mp h2
    rw [put_cons h1 h3] at h
    obtain ⟨b, xs, r, rfl, rfl, hkid, hown, back⟩ := own_kids h (kids_set h1)
    have hn : n < os.length := (List.getElem?_eq_some_iff.mp h3).1
    obtain ⟨x, g1, g0, g2, k1, k2, k3, k4⟩ := owns_out hown (List.getElem?_set_self hn)
    obtain ⟨fs, w1, w2⟩ := own_in ho h4 k3
    refine ⟨b :: (g1 ++ (fs ++ g2)), ?_, ?_⟩
    · rw [put_cons h1 h3]
      have q := back _ _ (k4 _ _ w1)
      rw [setKids_set, List.set_set] at q
      exact q
    · rw [k2]
      have e1 : (b :: (g1 ++ (fs ++ g2))).Perm (b :: (g1 ++ ((f1 ++ g0) ++ g2))) := List.Perm.cons b (List.Perm.append_left g1 (List.Perm.append_right g2 w2))
      refine e1.trans ?_
      have e2 : (g1 ++ ((f1 ++ g0) ++ g2)).Perm (f1 ++ (g1 ++ (g0 ++ g2))) := by
        rw [List.append_assoc, ← List.append_assoc, ← List.append_assoc f1]
        exact List.Perm.append_right _ List.perm_append_comm
      exact (List.Perm.cons b e2).trans List.perm_middle.symm

section
variable {K : KB} {c : Ctx} {F F' H H' : Hp} {σ : L2.St} {e : Env} {ts : List (V × O)}
theorem RE.outP {i : Nat} {b : Bool} {o0 tgt : O} {p : List Nat} (R : RE K c F H σ e ts) (h : e[i]? = some (some (b, o0))) (hg : O.get p o0 = some tgt) (hk : tgt.kids.isSome = true) :
    ∃ v a, σ[i]? = some (some v) ∧ WalkTo K H v p (.ref a) ∧ RE K c F H σ (e.set i (some (b, O.put p o0 (.im (.adr a))))) ((.ref a, tgt) :: ts) := by
  obtain ⟨hs, fs, h1, h2, h3, h4⟩ := R.hd
  obtain ⟨v, A, B, k1, k2, k3, k4⟩ := h1.at i h
  subst k1
  rw [← List.append_assoc] at h2
  obtain ⟨f1, f2, rfl, q1, q2⟩ := h2.split
  obtain ⟨g0, g2, rfl, q3, q4⟩ := q2
  obtain ⟨a, w1, w2, z1, z2, z3, z4⟩ := own_out q3 hg hk
  have pm : (f1 ++ (g0 ++ g2)).Perm (w1 ++ (f1 ++ (w2 ++ g2))) := by
    refine (List.Perm.append_left f1 (List.Perm.append_right g2 z3)).trans ?_
    rw [List.append_assoc, ← List.append_assoc, ← List.append_assoc w1]
    exact List.Perm.append_right _ List.perm_append_comm
  refine ⟨v, a, k2, z1, R.g, R.f0, R.fh, R.nw, _, w1 ++ (f1 ++ (w2 ++ g2)), k4 _, ⟨w1, _, rfl, z2, ?_⟩, pm.nodup_iff.mp h3, fun p hp => h4 p (pm.mem_iff.mpr hp)⟩
  show Held K F H (ts ++ (A ++ (v, O.put p o0 (O.im (D.adr a))) :: B)) (f1 ++ (w2 ++ g2))
  rw [← List.append_assoc]
  exact Held.join q1 ⟨w2, g2, rfl, z4, q4⟩
theorem RE.inP {i : Nat} {b : Bool} {o0 o' tgt : O} {p : List Nat} {a : Addr} (R : RE K c F H σ (e.set i (some (b, O.put p o0 (.im (.adr a))))) ((.ref a, o') :: ts)) (hi : i < e.length) (hg : O.get p o0 = some tgt) :
    RE K c F H σ (e.set i (some (b, O.put p o0 o'))) ts := by
  obtain ⟨hs, fs, h1, h2, h3, h4⟩ := R.hd
  obtain ⟨v, A, B, k1, k2, k3, k4⟩ := h1.at i (List.getElem?_set_self hi)
  subst k1
  obtain ⟨w1, fr, rfl, z2, h2⟩ := h2
  have h2 : Held K F H (ts ++ (A ++ (v, O.put p o0 (O.im (D.adr a))) :: B)) fr := h2
  rw [← List.append_assoc] at h2
  obtain ⟨f1, f2, rfl, q1, q2⟩ := h2.split
  obtain ⟨g0, g2, rfl, q3, q4⟩ := q2
  obtain ⟨f', z3, z4⟩ := own_in z2 hg q3
  have pm : (w1 ++ (f1 ++ (g0 ++ g2))).Perm (f1 ++ (f' ++ g2)) := by
    refine List.Perm.symm ?_
    refine (List.Perm.append_left f1 (List.Perm.append_right g2 z4)).trans ?_
    rw [List.append_assoc, ← List.append_assoc, ← List.append_assoc w1]
    exact List.Perm.append_right _ List.perm_append_comm
  have q := k4 (O.put p o0 o')
  rw [List.set_set] at q
  refine ⟨R.g, R.f0, R.fh, R.nw, _, f1 ++ (f' ++ g2), q, ?_, pm.nodup_iff.mp h3, fun p hp => h4 p (pm.mem_iff.mpr hp)⟩
  rw [← List.append_assoc]
  exact Held.join q1 ⟨f', g2, rfl, z3, q4⟩
end
end DL

/-! DLV: dicts, the machine's side: keys ints and texts, or tuples of these (tracked or written). -/
namespace DL
open PySem PySem.Spec PyProof.Rows L2 Evl

abbrev XK3 := List Key × Addr × V
abbrev PX : List XK3 → List (List Key × Addr × Value) → Prop := Paired fun p q => p.1 = q.1 ∧ p.2.1 = q.2.1 ∧ RelV p.2.2 q.2.2
def valX (kvs : List XK3) (k : List Key) : Option V := (kvs.find? fun p => decide (p.1 = k)).map (·.2.2)
def repX (k : List Key) (v : V) (p : XK3) : XK3 := if p.1 = k then (p.1, p.2.1, v) else p
def putX (kvs : List XK3) (k : List Key) (b : Addr) (v : V) : List XK3 := if (valX kvs k).isSome then kvs.map (repX k v) else kvs ++ [(k, b, v)]
def dropX (kvs : List XK3) (k : List Key) : List XK3 := kvs.filter fun p => decide (p.1 ≠ k)
def hoT (K : KB) (a : Addr) : List XK3 → HO
  | [] => .dK []
  | p :: r => dX K a (p :: r)
/-- at a stands a dict whose keys are tuples -/
def TD (K : KB) (H : Hp) (a : Addr) (kvs : List XK3) : Prop := H a = some (hoT K a kvs) ∧ (kvs ≠ [] → KeysOk K H a kvs)
/-- .. or while a loop walks it -/
def TDr (K : KB) (H : Hp) (a : Addr) (kvs : List XK3) : Prop := Rd H a (hoT K a kvs) ∧ (kvs ≠ [] → KeysOk K H a kvs)
theorem TD.r {K : KB} {H : Hp} {a : Addr} {kvs : List XK3} (h : TD K H a kvs) : TDr K H a kvs := ⟨.inl h.1, h.2⟩
theorem PX.val {kvs : List XK3} {xs : List (List Key × Addr × Value)} (r : PX kvs xs) (k : List Key) : RelO (valX kvs k) ((atKey xs k).map (·.2)) := by
  induction r with
  | nil => exact True.intro
  | @cons p q ps qs h t ih =>
    obtain ⟨h1, _, h2⟩ := h
    by_cases e : p.1 = k
    · have e' : q.1 = k := h1.symm.trans e
      have a : valX (p :: ps) k = some p.2.2 := by simp [valX, List.find?_cons, e]
      have b : atKey (q :: qs) k = some q.2 := by simp [atKey, List.find?_cons, e']
      rw [a, b]; exact h2
    · have e' : ¬ q.1 = k := fun z => e (h1.trans z)
      have a : valX (p :: ps) k = valX ps k := by simp [valX, List.find?_cons, e]
      have b : atKey (q :: qs) k = atKey qs k := by simp [atKey, List.find?_cons, e']
      rw [a, b]; exact ih
theorem PX.repl {kvs : List XK3} {xs : List (List Key × Addr × Value)} (r : PX kvs xs) (k : List Key) {y : V} {u : Value} (ry : RelV y u) : PX (kvs.map (repX k y)) (xs.map (putAt k u)) := by
  induction r with
  | nil => exact .nil
  | @cons p q ps qs h t ih =>
    rw [List.map_cons, List.map_cons]
    refine .cons ?_ ih
    obtain ⟨h1, h2, h3⟩ := h
    unfold putAt repX
    by_cases e : p.1 = k
    · rw [if_pos e, if_pos (h1.symm.trans e)]; exact ⟨h1, h2, ry⟩
    · rw [if_neg e, if_neg (fun z => e (h1.trans z))]; exact ⟨h1, h2, h3⟩
theorem PX.put {kvs : List XK3} {xs : List (List Key × Addr × Value)} (r : PX kvs xs) (k : List Key) {b : Addr} {y : V} {u : Value} (ry : RelV y u) : PX (putX kvs k b y) (storedH xs k b u) := by
  have e : (valX kvs k).isSome = (atKey xs k).isSome := by rw [(r.val k).isSome_eq, Option.isSome_map]
  unfold putX storedH
  rw [e]
  by_cases q : (atKey xs k).isSome = true
  · rw [if_pos q, if_pos q]; exact r.repl k ry
  · rw [if_neg q, if_neg q]; exact Paired.snoc r ⟨rfl, rfl, ry⟩
theorem PX.drop {kvs : List XK3} {xs : List (List Key × Addr × Value)} (r : PX kvs xs) (k : List Key) : PX (dropX kvs k) (withoutH xs k) := by
  unfold dropX withoutH
  induction r with
  | nil => exact .nil
  | @cons p q ps qs h t ih =>
    obtain ⟨h1, h2⟩ := h
    rw [List.filter_cons, List.filter_cons]
    by_cases e : p.1 = k
    · have a : ¬ decide (p.1 ≠ k) = true := by simp [e]
      have b : ¬ decide (q.1 ≠ k) = true := by simp [h1.symm.trans e]
      rw [if_neg a, if_neg b]; exact ih
    · have e' : ¬ q.1 = k := fun z => e (h1.trans z)
      have a : decide (p.1 ≠ k) = true := by simp [e]
      have b : decide (q.1 ≠ k) = true := by simp [e']
      rw [if_pos a, if_pos b]; exact .cons ⟨h1, h2⟩ ih
theorem PX.keys {kvs : List XK3} {xs : List (List Key × Addr × Value)} (r : PX kvs xs) : kvs.map (·.1) = xs.map (·.1) := by
  induction r with
  | nil => rfl
  | cons h t ih => rw [List.map_cons, List.map_cons, ih, h.1]
theorem putX_ne (kvs : List XK3) (k : List Key) (b : Addr) (v : V) : putX kvs k b v ≠ [] := by
  unfold putX
  split
  · rename_i h
    intro z
    have e : kvs = [] := List.map_eq_nil_iff.mp z
    subst e
    simp [valX] at h
  · simp
theorem hoT_ne {K : KB} {a : Addr} {kvs : List XK3} (h : kvs ≠ []) : hoT K a kvs = dX K a kvs := by
  cases kvs with
  | nil => exact absurd rfl h
  | cons _ _ => rfl
section
variable {X : Cx} {pins : List (Addr × Obj)} {σ : L2.St} {H : Hp} {s : Shared} {a b : Addr} {y v d : V} {u r : Value} {o : Option V} {A : Around} {E : Value → Shared → Prop} {kvs : List XK3} {k : List Key}
theorem xkey_of (I : Inv X pins σ H s) (e : SqT X.K H b (k.map kV)) : (tupleKind (mixKind X.prog X.w)).is s.heap k b := by
  obtain ⟨its, r, ⟨o, h1, h2, n, h3⟩, _⟩ := I.tuple e
  exact ⟨o, its.toArray, n, h1, h2, h3, by simpa using items_are r⟩
theorem tdr_of (I : Inv X pins σ H s) (h : TDr X.B H a kvs) : kvs.length ≤ sizeLine ∧ (a == sysModules) = false ∧ ∃ xs, PX kvs xs ∧ s.heap.DictOfH (tupleKind (mixKind X.prog X.w)) a xs := by
  obtain ⟨h1, h2⟩ := h
  cases kvs with
  | nil =>
    obtain ⟨z, hd, vs, rel, o, es, ep, g1, g2, g3, g4, g5, g6⟩ := dk_rd I.hok h1
    cases rel
    refine ⟨Nat.zero_le _, hd, [], .nil, o, es, ep, g1, g2, g3, ?_, fun x hx => (by cases hx), List.nodup_nil⟩
    generalize es.toList = l at g5
    cases g5
    rfl
  | cons p r =>
    have ko := h2 (by simp)
    obtain ⟨⟨xs, hp, o, es, ep, g1, g2, g3, g4⟩, _⟩ := (show ObjOk X.prog X.w H s.heap a (dX X.B a (p :: r)) from h1.ok I.hok)
    refine ⟨ko.len, ko.sys, xs, hp, o, es, ep, g1, g2, g3, g4, fun x hx => ?_, ?_⟩
    · have all : ∀ {l : List XK3} {m : List (List Key × Addr × Value)}, PX l m → (∀ p ∈ l, SqT X.K H p.2.1 (p.1.map kV)) → ∀ x ∈ m, (tupleKind (mixKind X.prog X.w)).is s.heap x.1 x.2.1 := by
        intro l m q
        induction q with
        | nil => intro _ x hx; exact nomatch hx
        | @cons p q ps qs hq t ih =>
          intro hl x hx
          rcases List.mem_cons.mp hx with e | hx
          · subst e
            rw [← hq.1, ← hq.2.1]
            exact xkey_of I (hl p List.mem_cons_self)
          · exact ih (fun p hp => hl p (List.mem_cons_of_mem _ hp)) x hx
      exact all hp ko.at_ x hx
    · rw [← PX.keys hp]
      exact ko.nd
theorem td_of (I : Inv X pins σ H s) (h : TD X.B H a kvs) : kvs.length ≤ sizeLine ∧ (a == sysModules) = false ∧ ∃ xs, PX kvs xs ∧ s.heap.DictOfH (tupleKind (mixKind X.prog X.w)) a xs := tdr_of I h.r
/-- what the dict at a holds at the key y -/
def XGet (K : KB) (H : Hp) (a : Addr) (y : V) (r : Option V) : Prop :=
  (∃ kvs k, Rd H a (.dK kvs) ∧ y = kV k ∧ r = valV kvs k) ∨ ∃ kvs k b, TDr K H a kvs ∧ y = .ref b ∧ SqT K H b (k.map kV) ∧ r = valX kvs k
def XPut (K : KB) (H : Hp) (a : Addr) (y v : V) (H' : Hp) : Prop :=
  (∃ kvs k, H a = some (.dK kvs) ∧ y = kV k ∧ kvs.length < sizeLine ∧ H' = upd H a (.dK (putK kvs k v))) ∨
  ∃ kvs k b, TD K H a kvs ∧ y = .ref b ∧ SqT K H b (k.map kV) ∧ kvs.length < sizeLine ∧ H' = upd H a (dX K a (putX kvs k b v))
theorem x_notIn {Q : Value → Shared → Prop} (hu : A.units + 1 < cLine) (I : Inv X pins σ H s) (g : XGet X.B H a y o) (ry : RelV y u) (h : ∀ s', Inv X pins σ H s' → Q (.bool (!o.isSome)) s') :
    wpAny (model X.prog X.w) A (compareOp .NotIn u (.ref a)) Q E s := by
  rcases g with ⟨kvs, k, e, ey, l⟩ | ⟨kvs, k, b, e, ey, eb, l⟩
  · exact d_notIn hu I (.inl ⟨kvs, k, e, ey, l⟩) ry h
  · subst ey
    cases (show u = Value.ref b from ry)
    obtain ⟨z, hd, xs, rel, dd⟩ := tdr_of I e
    refine wpAny_notIn_heap (tupleKind_room_in1 hu) (xkey_of I eb) hd dd ?_
    have q := (rel.val k).isSome_eq
    rw [Option.isSome_map] at q
    rw [← q, ← l]
    exact h _ (I.tok _)
theorem mut_td (h : TD X.B H a kvs) : Mut (H a) := by
  rw [h.1]
  cases kvs <;> exact True.intro
/-- the dict's own object, written -/
theorem td_new {H' : Hp} {h' : Heap} {xs : List (List Key × Addr × Value)} (hl : kvs.length ≤ sizeLine) (hd : (a == sysModules) = false) (rel : PX kvs xs) (dd : h'.DictOfH (tupleKind (mixKind X.prog X.w)) a xs) : ObjOk X.prog X.w H' h' a (hoT X.B a kvs) := by
  obtain ⟨q, es, ep, hq, h2, h3, h4, h6, h5⟩ := dd
  cases kvs with
  | nil =>
    cases rel
    have e0 : es.toList = [] := h4
    refine ⟨Nat.zero_le _, hd, [], .nil, q, es, ep, hq, h2, h3, fun e he => ?_, ?_, List.nodup_nil⟩
    · have : e ∈ es.toList := by simpa using he
      rw [e0] at this
      cases this
    · rw [e0]
      exact .nil
  | cons p r =>
    refine ⟨⟨xs, rel, q, es, ep, hq, h2, h3, h4⟩, ⟨q, hq⟩, ?_⟩
    rintro h1 h2 ⟨xs, rel, q, es, ep, g1, g2⟩ k
    exact ⟨xs, rel, q, es, ep, k q g1, g2⟩
theorem x_setItem {H' : Hp} {Q : Unit → Shared → Prop} (hu : A.units + 1 < cLine) (I : Inv X pins σ H s) (g : XPut X.B H a y v H') (ry : RelV y u) (rv : RelV v r) (h : ∀ s', Inv X pins σ H' s' → Q () s') :
    wpAny (model X.prog X.w) A (setItem (.ref a) u r) Q E s := by
  rcases g with ⟨kvs, k, e, ey, l, eH⟩ | ⟨kvs, k, b, e, ey, eb, l, eH⟩
  · exact d_setItem hu I (.inl ⟨kvs, k, e, ey, l, eH⟩) ry rv h
  · subst ey eH
    cases (show u = Value.ref b from ry)
    obtain ⟨z, hd, xs, rel, dd⟩ := td_of I e
    have hz : xs.length ≤ sizeLine := by rw [← Paired.length rel]; exact z
    have hl : (putX kvs k b v).length ≤ sizeLine := by
      unfold putX
      split
      · rw [List.length_map]; exact z
      · rw [List.length_append]; exact l
    refine wpAny_setItem_heap (hsz := hz) (tupleKind_room_in1 hu) (xkey_of I eb) dd fun h' dd' hs => h _ ?_
    have he : ∃ q, h'.get? a = some q := let ⟨q, _, _, hq, _⟩ := dd'; ⟨q, hq⟩
    have nw := td_new (X := X) (H' := upd H a (hoT X.B a (putX kvs k b v))) hl hd (rel.put k rv) dd'
    rw [hoT_ne (putX_ne _ _ _ _)] at nw
    exact d_write I (mut_td e) hs he nw
theorem x_get1 {Q : Value → Shared → Prop} (hu : A.units + 1 < cLine) (I : Inv X pins σ H s) (g : XGet X.B H a y o) (ry : RelV y u) (h : ∀ w' s', Inv X pins σ H s' → RelV (o.getD .non) w' → Q w' s') :
    wpAny (model X.prog X.w) A (call (.builtin "dict.get") [.ref a, u]) Q E s := by
  rcases g with ⟨kvs, k, e, ey, l⟩ | ⟨kvs, k, b, e, ey, eb, l⟩
  · exact d_get1 hu I (.inl ⟨kvs, k, e, ey, l⟩) ry h
  · subst ey
    cases (show u = Value.ref b from ry)
    obtain ⟨z, hd, xs, rel, dd⟩ := tdr_of I e
    refine call_meetsIn PySem.F.slot_dict_get dd.typeIs PySem.F.entry_dict_get (PySem.F.args_dict_get_2 _ _) (meetsH_dict_get (tupleKind (mixKind X.prog X.w)) a b hd) ⟨tupleKind_room_in1 hu, k, xs, xkey_of I eb, dd, h _ _ (I.tok _) ?_⟩
    rw [l]
    exact (rel.val k).getD rfl
theorem x_get2 {Q : Value → Shared → Prop} (hu : A.units + 1 < cLine) (I : Inv X pins σ H s) (g : XGet X.B H a y o) (ry : RelV y u) (rd : RelV d r) (h : ∀ w' s', Inv X pins σ H s' → RelV (o.getD d) w' → Q w' s') :
    wpAny (model X.prog X.w) A (call (.builtin "dict.get") [.ref a, u, r]) Q E s := by
  rcases g with ⟨kvs, k, e, ey, l⟩ | ⟨kvs, k, b, e, ey, eb, l⟩
  · exact d_get2 hu I (.inl ⟨kvs, k, e, ey, l⟩) ry rd h
  · subst ey
    cases (show u = Value.ref b from ry)
    obtain ⟨z, hd, xs, rel, dd⟩ := tdr_of I e
    refine call_meetsIn PySem.F.slot_dict_get dd.typeIs PySem.F.entry_dict_get (PySem.F.args_dict_get_3 _ _ _) (meetsH_dict_get_default (tupleKind (mixKind X.prog X.w)) a b hd r) ⟨tupleKind_room_in1 hu, k, xs, xkey_of I eb, dd, h _ _ (I.tok _) ?_⟩
    rw [l]
    exact (rel.val k).getD rd
end
/-- any dict -/
def IsX (K : KB) (H : Hp) (a : Addr) : Prop := (∃ kvs, Rd H a (.dK kvs)) ∨ ∃ kvs, Rd H a (dX K a kvs)
section
variable {X : Cx} {pins : List (Addr × Obj)} {σ : L2.St} {H : Hp} {s : Shared} {a b : Addr}
theorem isX_obj (I : Inv X pins σ H s) (d : IsX X.B H a) : ∃ o, s.heap.get? a = some o ∧ o.ExactDict := by
  rcases d with ⟨kvs, e⟩ | ⟨kvs, e⟩
  · obtain ⟨_, hd, vs, _, ob, _, _, h1, h2, _⟩ := dk_rd I.hok e
    exact ⟨ob, h1, h2⟩
  · obtain ⟨⟨xs, hp, o, es, ep, g1, g2, g3, g4⟩, _⟩ := (show ObjOk X.prog X.w H s.heap a (dX X.B a kvs) from e.ok I.hok)
    exact ⟨o, g1, g2⟩
end
/-! ### rules -/
def rXIn (K : KB) (neg : Bool) : R2 := fun y x H Q => ∃ a o, x = .ref a ∧ XGet K H a y o ∧ Q (.bl (if neg then !o.isSome else o.isSome)) H
def rXSet (K : KB) : TSet := fun x y v H Q => ∃ a H', x = .ref a ∧ XPut K H a y v H' ∧ Q H'
section
variable {X : Cx}
theorem op_notinX (hu : X.A.units + 1 < cLine) : OpR X (compareOp .NotIn) (rXIn X.B true) := by
  intro pins s σ H x y v u Q I rx ry h
  obtain ⟨a, o, rfl, g, q⟩ := h
  cases ry
  exact x_notIn hu I g rx fun s' I' => ⟨.bl _, H, I', rfl, q⟩
theorem set_dictX (hu : X.A.units + 1 < cLine) : PSet X (rXSet X.B) := by
  intro pins s σ H o i v ov iv u Q I ro ri rv h
  obtain ⟨a, H', rfl, g, q⟩ := h
  cases ro
  exact x_setItem hu I g ri rv fun s' I' => ⟨H', I', q⟩
/-- methods of a dict -/
def tXM (K : KB) (r : V → List V → Hp → VK → Prop) (to : TE) (t : TA) : TE := fun σ H Q => to σ H fun x H1 => (∃ a, x = .ref a ∧ IsX K H1 a) ∧ t σ H1 fun xs H2 => r x xs H2 Q
theorem pe_xm {o e : Expr} {es : List Expr} {to : TE} {t : TA} {name : Str} {apos cpos : Pos} {id : String} {r : V → List V → Hp → VK → Prop} (slot : PySem.Slot "dict" name id) (hty : typeOf (.builtin id) = pure (.type "method_descriptor")) (hm : MtR X id r) (ho : PE X o to) (ha : PA X (e :: es) t)
    (hbase : attributeBase o name X.env (eval o X.env) = eval o X.env := by rfl)
    (hfew : ((backTo cpos (starEach (e :: es) X.env)).all (fun x => !x.1) && (backToKw cpos (keywordEach [] X.env)).all (fun x => x.1.isSome)
      && decide ((e :: es).length + ([] : List Keyword).length + (if ([] : List Keyword).isEmpty then 0 else 1) < 30)) = true := by rfl)
    (hline : (apos.endLine == cpos.line) = true := by rfl) (hs : starEach (e :: es) X.env = (false, eval e X.env) :: starEach es X.env := by rfl) (hplain : (backTo cpos (starEach es X.env)).any (·.1) = false := by rfl) :
    PE X (.Call (.Attribute o name apos) (e :: es) [] cpos) (tXM X.B r to t) := by
  refine ⟨fun pins s σ H Q I h => ?_⟩
  refine wpAny_Call_method_late hbase hfew hline rfl (thn (ho.run pins s σ H _ I h) fun v s1 ⟨x, H1, I1, r1, ⟨a, ex, ty⟩, q1⟩ => ?_)
  subst ex
  cases r1
  obtain ⟨ob, g1, g2⟩ := isX_obj I1 ty
  refine ⟨"dict", id, PySem.F.plainAttrs_dict, slot, hty, ⟨ob, g1, g2.1⟩, fun b hb => by cases hb; exact ⟨ob, g1, g2.2.1⟩, ?_⟩
  have hA := ha.run cpos pins s1 σ H1 _ I1 q1
  rw [hs] at hA ⊢
  refine Calls.callWith_builtin (by show (false || (backTo cpos (starEach es X.env)).any (·.1)) = false; rw [hplain] <;> rfl) (Calls.evalArgs_plain ?_)
  exact thn hA fun us s2 ⟨vs, H2, I2, r2, q2⟩ => hm pins s2 σ H2 (.ref a) vs (.ref a) us Q I2 rfl r2 q2
def rXGet (K : KB) : V → List V → Hp → VK → Prop := fun x xs H Q => ∃ a o, x = .ref a ∧ ((∃ y, xs = [y] ∧ XGet K H a y o ∧ Q (o.getD .non) H) ∨ ∃ y d, xs = [y, d] ∧ XGet K H a y o ∧ Q (o.getD d) H)
theorem mt_getX (hu : X.A.units + 1 < cLine) : MtR X "dict.get" (rXGet X.B) := by
  intro pins s σ H x xs v us Q I rx r h
  obtain ⟨a, o, rfl, h⟩ := h
  cases rx
  rcases h with ⟨y, rfl, g, q⟩ | ⟨y, d, rfl, g, q⟩
  · obtain ⟨u, rfl, ru⟩ := vals1 r
    exact x_get1 hu I g ru fun w' s' I' rw' => ⟨_, H, I', rw', q⟩
  · obtain ⟨u, w, rfl, ru, rw⟩ := vals2 r
    exact x_get2 hu I g ru rw fun w' s' I' rw' => ⟨_, H, I', rw', q⟩
end
end DL

/-! DLW: dicts as data. -/
namespace DL
open PySem PySem.Spec PyProof.Rows L2 Evl

/-! ### keys -/
def kyD : D → Option Key
  | .int i => some (.inl i)
  | .str x => some (.inr x)
  | _ => none
def kyDs : List D → Option (List Key)
  | [] => some []
  | d :: ds => match kyD d, kyDs ds with
    | some k, some ks => some (k :: ks)
    | _, _ => none
def kyOf : D → Option (Key ⊕ List Key)
  | .int i => some (.inl (.inl i))
  | .str x => some (.inl (.inr x))
  | .tup ds => (kyDs ds).map .inr
  | _ => none
def kix (ks : List D) (k : D) : Option Nat := ks.findIdx? fun d => decide (kyOf d = kyOf k)
def okKey (ks : List D) (k : D) : Bool := match kyOf k, ks with
  | none, _ => false
  | some _, [] => true
  | some (.inl _), .int _ :: _ => true
  | some (.inl _), .str _ :: _ => true
  | some (.inr _), .tup _ :: _ => true
  | _, _ => false
theorem kyDs_map : ∀ k : List Key, kyDs (k.map kD) = some k
  | [] => rfl
  | .inl i :: k => by
    show (match kyD (.int i), kyDs (k.map kD) with | some k, some ks => some (k :: ks) | _, _ => none) = _
    rw [kyDs_map k]
    rfl
  | .inr i :: k => by
    show (match kyD (.str i), kyDs (k.map kD) with | some k, some ks => some (k :: ks) | _, _ => none) = _
    rw [kyDs_map k]
    rfl
theorem kyD_inv {d : D} {k : Key} (h : kyD d = some k) : d = kD k := by
  cases d <;> cases h <;> rfl
theorem kyDs_inv : ∀ {ds : List D} {k : List Key}, kyDs ds = some k → ds = k.map kD
  | [], k, h => by cases h; rfl
  | d :: ds, k, h => by
    unfold kyDs at h
    cases h1 : kyD d with
    | none => rw [h1] at h; cases h
    | some a =>
      cases h2 : kyDs ds with
      | none => rw [h1, h2] at h; cases h
      | some as =>
        rw [h1, h2] at h
        cases h
        rw [List.map_cons, ← kyDs_inv h2, kyD_inv h1]
theorem kyOf_kD (k : Key) : kyOf (kD k) = some (.inl k) := by cases k <;> rfl
theorem kyOf_tup (k : List Key) : kyOf (.tup (k.map kD)) = some (.inr k) := by
  show (kyDs (k.map kD)).map Sum.inr = _
  rw [kyDs_map]
  rfl
theorem kyOf_inl {d : D} {k : Key} (h : kyOf d = some (.inl k)) : d = kD k := by
  cases d with
  | int i => cases h; rfl
  | str i => cases h; rfl
  | tup ds =>
    obtain ⟨z, _, e⟩ := Option.map_eq_some_iff.mp (show (kyDs ds).map Sum.inr = _ from h)
    cases e
  | _ => cases h
theorem kyOf_inr {d : D} {k : List Key} (h : kyOf d = some (.inr k)) : d = .tup (k.map kD) := by
  cases d with
  | tup ds =>
    obtain ⟨z, h1, e⟩ := Option.map_eq_some_iff.mp (show (kyDs ds).map Sum.inr = _ from h)
    cases e
    rw [← kyDs_inv h1]
  | int i => cases h
  | str i => cases h
  | _ => cases h
theorem rep_kD {K : KB} {F : Hp} {k : Key} {v : V} (h : Rep K F (kD k) v) : v = kV k := by cases k <;> exact h
theorem reps_kD {K : KB} {F : Hp} : ∀ {k : List Key} {vs : List V}, Reps K F (k.map kD) vs → vs = k.map kV
  | [], vs, h => h
  | k :: ks, vs, h => by
    obtain ⟨x, r, rfl, h1, h2⟩ := h
    rw [rep_kD h1, reps_kD h2]
    rfl
theorem rep_tupk {K : KB} {F : Hp} {k : List Key} {v : V} (h : Rep K F (.tup (k.map kD)) v) : ∃ b, v = .ref b ∧ SqT K F b (k.map kV) := by
  obtain ⟨a, xs, rfl, h1, h2⟩ := h
  rw [reps_kD h2] at h1
  exact ⟨a, rfl, h1⟩
/-! ### lists of pairs -/
section
variable {κ β : Type} [DecidableEq κ]
theorem find_ix (l : List (κ × β)) (k : κ) : (l.find? fun p => decide (p.1 = k)).map (·.2) = (l.findIdx? fun p => decide (p.1 = k)).bind fun n => (l.map (·.2))[n]? := by
  induction l with
  | nil => rfl
  | cons p l ih =>
    rw [List.find?_cons, List.findIdx?_cons]
    by_cases e : p.1 = k
    · rw [decide_eq_true e]
      rfl
    · rw [decide_eq_false e]
      rw [ih]
      cases (l.findIdx? fun p => decide (p.1 = k)) <;> rfl
theorem modify_of {l : List (κ × β)} {k : κ} {n : Nat} (nd : (l.map (·.1)).Nodup) (h : (l.findIdx? fun p => decide (p.1 = k)) = some n) (f : κ × β → κ × β) : (l.map fun p => if p.1 = k then f p else p) = l.modify n f := by
  induction l generalizing n with
  | nil => cases h
  | cons p l ih =>
    rw [List.findIdx?_cons] at h
    rw [List.map_cons, List.nodup_cons] at nd
    rw [List.map_cons]
    by_cases e : p.1 = k
    · rw [decide_eq_true e] at h
      cases h
      rw [if_pos e]
      have : (l.map fun p => if p.1 = k then f p else p) = l := by
        conv => rhs; rw [← List.map_id l]
        refine List.map_congr_left fun q hq => ?_
        rw [if_neg]
        · rfl
        · intro z
          exact nd.1 (List.mem_map.mpr ⟨q, hq, z.trans e.symm⟩)
      rw [this]
      rfl
    · rw [decide_eq_false e] at h
      cases h2 : (l.findIdx? fun p => decide (p.1 = k)) with
      | none => rw [h2] at h; cases h
      | some m =>
        rw [h2] at h
        cases h
        rw [if_neg e, ih nd.2 h2]
        rfl
theorem none_of {l : List (κ × β)} {k : κ} (h : (l.findIdx? fun p => decide (p.1 = k)) = none) : k ∉ l.map (·.1) := by
  intro hm
  obtain ⟨p, hp, e⟩ := List.mem_map.mp hm
  have := List.findIdx?_eq_none_iff.mp h p hp
  simp [e] at this
end
theorem kix_map {β : Type} (l : List (Key × β)) (k : Key) : kix (l.map fun p => kD p.1) (kD k) = l.findIdx? fun p => decide (p.1 = k) := by
  unfold kix
  rw [List.findIdx?_map]
  congr 1
  funext p
  show decide (kyOf (kD p.1) = kyOf (kD k)) = _
  rw [kyOf_kD, kyOf_kD]
  by_cases e : p.1 = k
  · rw [e]; simp
  · rw [decide_eq_false e]
    refine decide_eq_false fun z => e ?_
    cases z
    rfl
theorem kix_tup {β : Type} (l : List (List Key × β)) (k : List Key) : kix (l.map fun p => D.tup (p.1.map kD)) (.tup (k.map kD)) = l.findIdx? fun p => decide (p.1 = k) := by
  unfold kix
  rw [List.findIdx?_map]
  congr 1
  funext p
  show decide (kyOf (.tup (p.1.map kD)) = kyOf (.tup (k.map kD))) = _
  rw [kyOf_tup, kyOf_tup]
  by_cases e : p.1 = k
  · rw [e]; simp
  · rw [decide_eq_false e]
    refine decide_eq_false fun z => e ?_
    cases z
    rfl
theorem map_modify {α β : Type} (g : α → β) (l : List α) (n : Nat) (f : α → α) (f' : β → β) (h : ∀ a, g (f a) = f' (g a)) : (l.modify n f).map g = (l.map g).modify n f' := by
  induction l generalizing n with
  | nil => cases n <;> rfl
  | cons a l ih =>
    cases n with
    | zero => simp [h]
    | succ n => simp [ih]
theorem modify_const {α : Type} (l : List α) (n : Nat) (x : α) : l.modify n (fun _ => x) = l.set n x := by
  induction l generalizing n with
  | nil => cases n <;> rfl
  | cons a l ih =>
    cases n with
    | zero => rfl
    | succ n => simp [ih]
theorem modify_same {α β : Type} (g : α → β) (l : List α) (n : Nat) (f : α → α) (h : ∀ a, g (f a) = g a) : (l.modify n f).map g = l.map g := by
  induction l generalizing n with
  | nil => cases n <;> rfl
  | cons a l ih =>
    cases n with
    | zero => simp [h]
    | succ n => simp [ih]

/-! ### what a dict holds -/
section
variable {K : KB} {F H : Hp} {a : Addr} {ho : HO} {ks : List D} {xs : List V} {k : D} {y v : V}
theorem dict_kindsP {P : HO → Prop} (h : DictAt K F a ho ks xs) (hk : Rep K F k y) (ok : okKey ks k = true) (fh : Ex F H) (ha : P ho) :
    (∃ (kvs : List (Key × V)) (q : Key), ho = .dK kvs ∧ ((a == sysModules) = false ∧ (kvs.map (·.1)).Nodup) ∧ ks = kvs.map (fun p => kD p.1) ∧ xs = kvs.map (·.2) ∧ k = kD q ∧ y = kV q ∧ kix ks k = kvs.findIdx? fun p => decide (p.1 = q)) ∨
    (∃ (kvs : List XK3) (q : List Key) (b : Addr), (P (hoT K a kvs) ∧ (kvs ≠ [] → KeysOk K H a kvs)) ∧ (kvs ≠ [] → KeysOk K F a kvs) ∧ (kvs.map (·.1)).Nodup ∧ ks = kvs.map (fun p => D.tup (p.1.map kD)) ∧ xs = kvs.map (·.2.2) ∧ k = .tup (q.map kD) ∧ y = .ref b ∧ SqT K F b (q.map kV) ∧ (kix ks k = kvs.findIdx? fun p => decide (p.1 = q)) ∧ (a == sysModules) = false ∨ (kvs = [] ∧ (a == sysModules) = false ∧ (P (hoT K a []) ∧ (([] : List XK3) ≠ [] → KeysOk K H a [])) ∧ ks = [] ∧ xs = [] ∧ k = .tup (q.map kD) ∧ y = .ref b ∧ SqT K F b (q.map kV) ∧ kix ks k = none)) := by
  rcases h with ⟨kvs, h1, h2, h3, h4⟩ | ⟨kvs, h1, ⟨h2, h5⟩, h3, h4⟩
  · cases hq : kyOf k with
    | none =>
      unfold okKey at ok
      rw [hq] at ok
      cases ok
    | some q =>
      cases q with
      | inl q =>
        have e := kyOf_inl hq
        subst e
        exact .inl ⟨kvs, q, h1, h2, h3, h4, rfl, rep_kD hk, by rw [h3, kix_map]⟩
      | inr q =>
        have e := kyOf_inr hq
        subst e
        obtain ⟨b, rfl, hb⟩ := rep_tupk hk
        cases kvs with
        | nil =>
          subst h3
          subst h4
          subst h1
          exact .inr ⟨[], q, b, .inr ⟨rfl, h2.1, ⟨ha, fun z => absurd rfl z⟩, rfl, rfl, rfl, rfl, hb, rfl⟩⟩
        | cons p r =>
          unfold okKey at ok
          rw [hq, h3, List.map_cons] at ok
          obtain ⟨pk, pv⟩ := p
          cases pk <;> cases ok
  · cases hq : kyOf k with
    | none =>
      unfold okKey at ok
      rw [hq] at ok
      cases ok
    | some q =>
      cases q with
      | inl q =>
        cases kvs with
        | nil => exact absurd rfl h2
        | cons p r =>
          unfold okKey at ok
          rw [hq, h3, List.map_cons] at ok
          cases ok
      | inr q =>
        have e := kyOf_inr hq
        subst e
        obtain ⟨b, rfl, hb⟩ := rep_tupk hk
        refine .inr ⟨kvs, q, b, .inl ⟨⟨by rw [hoT_ne h2, ← h1]; exact ha, fun _ => ⟨h5.len, h5.sys, h5.nd, fun x hx => ex_t fh (h5.at_ x hx)⟩⟩, fun _ => h5, h5.nd, h3, h4, rfl, rfl, hb, by rw [h3, kix_tup], h5.sys⟩⟩
theorem dict_kinds (h : DictAt K F a ho ks xs) (hk : Rep K F k y) (ok : okKey ks k = true) (fh : Ex F H) (ha : H a = some ho) :
    (∃ (kvs : List (Key × V)) (q : Key), ho = .dK kvs ∧ ((a == sysModules) = false ∧ (kvs.map (·.1)).Nodup) ∧ ks = kvs.map (fun p => kD p.1) ∧ xs = kvs.map (·.2) ∧ k = kD q ∧ y = kV q ∧ kix ks k = kvs.findIdx? fun p => decide (p.1 = q)) ∨
    (∃ (kvs : List XK3) (q : List Key) (b : Addr), TD K H a kvs ∧ (kvs ≠ [] → KeysOk K F a kvs) ∧ (kvs.map (·.1)).Nodup ∧ ks = kvs.map (fun p => D.tup (p.1.map kD)) ∧ xs = kvs.map (·.2.2) ∧ k = .tup (q.map kD) ∧ y = .ref b ∧ SqT K F b (q.map kV) ∧ (kix ks k = kvs.findIdx? fun p => decide (p.1 = q)) ∧ (a == sysModules) = false ∨ (kvs = [] ∧ (a == sysModules) = false ∧ TD K H a [] ∧ ks = [] ∧ xs = [] ∧ k = .tup (q.map kD) ∧ y = .ref b ∧ SqT K F b (q.map kV) ∧ kix ks k = none)) := dict_kindsP (P := fun u => H a = some u) h hk ok fh ha
theorem dict_get (h : DictAt K F a ho ks xs) (hk : Rep K F k y) (ok : okKey ks k = true) (fh : Ex F H) (ha : Rd H a ho) : XGet K H a y ((kix ks k).bind fun n => xs[n]?) := by
  rcases dict_kindsP (P := Rd H a) h hk ok fh ha with ⟨kvs, q, h1, h2, h3, h4, h5, h6, h7⟩ | ⟨kvs, q, b, h1 | h1⟩
  · refine .inl ⟨kvs, q, by rw [← h1]; exact ha, h6, ?_⟩
    rw [h7, h4]
    exact (find_ix kvs q).symm
  · obtain ⟨h1, _, h2, h3, h4, h5, h6, h7, h8, _⟩ := h1
    refine .inr ⟨kvs, q, b, h1, h6, ex_t fh h7, ?_⟩
    rw [h8, h4]
    have e := find_ix (kvs.map fun p => (p.1, p.2.2)) q
    rw [List.find?_map, List.findIdx?_map, List.map_map, Option.map_map] at e
    exact e.symm
  · obtain ⟨rfl, h1, h2, h3, h4, h5, h6, h7, h8⟩ := h1
    refine .inr ⟨[], q, b, h2, h6, ex_t fh h7, ?_⟩
    rw [h8]
    rfl
/-- d[k] = v -/
def putKs (ks : List D) (k : D) : List D := match kix ks k with
  | some _ => ks
  | none => ks ++ [k]
def putVs {α : Type} (ks : List D) (k : D) (xs : List α) (v : α) : List α := match kix ks k with
  | some n => xs.set n v
  | none => xs ++ [v]
theorem dict_put (h : DictAt K F a ho ks xs) (hk : Rep K F k y) (ok : okKey ks k = true) (fh : Ex F H) (ha : H a = some ho) (hl : ks.length < sizeLine) : ∃ ho', XPut K H a y v (upd H a ho') ∧ DictAt K F a ho' (putKs ks k) (putVs ks k xs v) := by
  rcases dict_kinds h hk ok fh ha with ⟨kvs, q, h1, h2, h3, h4, h5, h6, h7⟩ | ⟨kvs, q, b, h1 | h1⟩
  · refine ⟨.dK (putK kvs q v), .inl ⟨kvs, q, by rw [ha, h1], h6, by rw [h3, List.length_map] at hl; exact hl, rfl⟩, .inl ⟨putK kvs q v, rfl, ?_⟩⟩
    unfold putKs putVs
    rw [h7]
    have ev : (kvs.any fun kv => decide (kv.1 = q)) = (kvs.findIdx? fun p => decide (p.1 = q)).isSome := by
      rw [List.findIdx?_isSome]
    unfold putK
    rw [ev]
    cases hn : (kvs.findIdx? fun p => decide (p.1 = q)) with
    | some n =>
      rw [if_pos (show (some n).isSome = true from rfl)]
      have e := modify_of h2.2 hn (fun p => (p.1, v))
      rw [e]
      refine ⟨⟨h2.1, ?_⟩, ?_, ?_⟩
      · rw [modify_same (fun p : Key × V => p.1) kvs n (fun p => (p.1, v)) fun _ => rfl]
        exact h2.2
      · rw [modify_same (fun p : Key × V => kD p.1) kvs n (fun p => (p.1, v)) fun _ => rfl]
        exact h3
      · rw [map_modify (fun p : Key × V => p.2) kvs n (fun p => (p.1, v)) (fun _ => v) fun _ => rfl, modify_const, h4]
    | none =>
      rw [if_neg (by simp)]
      refine ⟨⟨h2.1, ?_⟩, ?_, ?_⟩
      · rw [List.map_append]
        exact List.nodup_append.mpr ⟨h2.2, by simp, fun x hx z hz e => none_of hn (by
          have : z = q := by simpa using hz
          rw [← this, ← e]
          exact hx)⟩
      · rw [List.map_append, ← h3, h5]
        rfl
      · rw [List.map_append, ← h4]
        rfl
  · obtain ⟨h1, h0, h2, h3, h4, h5, h6, h7, h8, hs⟩ := h1
    have hlen : kvs.length < sizeLine := by rw [h3, List.length_map] at hl; exact hl
    refine ⟨dX K a (putX kvs q b v), .inr ⟨kvs, q, b, h1, h6, ex_t fh h7, hlen, rfl⟩, .inr ⟨putX kvs q b v, rfl, ?_⟩⟩
    unfold putKs putVs
    rw [h8]
    have ev : (valX kvs q).isSome = (kvs.findIdx? fun p => decide (p.1 = q)).isSome := by
      unfold valX
      rw [Option.isSome_map, List.findIdx?_isSome, Bool.eq_iff_iff, List.find?_isSome, List.any_eq_true]
    cases hn : (kvs.findIdx? fun p => decide (p.1 = q)) with
    | some n =>
      have ep : putX kvs q b v = kvs.modify n (fun p => (p.1, p.2.1, v)) := by
        unfold putX
        rw [ev, hn, if_pos (show (some n).isSome = true from rfl)]
        exact modify_of h2 hn (fun p => (p.1, p.2.1, v))
      have hne : kvs ≠ [] := fun z => by rw [z] at hn; cases hn
      refine ⟨⟨putX_ne _ _ _ _, ?_, hs, ?_, ?_⟩, ?_, ?_⟩
      · rw [ep, List.length_modify]
        exact Nat.le_of_lt hlen
      · rw [ep, modify_same (fun p : XK3 => p.1) kvs n (fun p => (p.1, p.2.1, v)) fun _ => rfl]
        exact h2
      · intro x hx
        have hx' : (x.1, x.2.1) ∈ (putX kvs q b v).map fun p => (p.1, p.2.1) := List.mem_map.mpr ⟨x, hx, rfl⟩
        rw [ep, modify_same (fun p : XK3 => (p.1, p.2.1)) kvs n (fun p => (p.1, p.2.1, v)) fun _ => rfl] at hx'
        obtain ⟨z, hz, e⟩ := List.mem_map.mp hx'
        have := (h0 hne).at_ z hz
        have e1 := Prod.mk.inj e
        rw [← e1.1, ← e1.2]
        exact this
      · rw [ep, modify_same (fun p : XK3 => D.tup (p.1.map kD)) kvs n (fun p => (p.1, p.2.1, v)) fun _ => rfl]
        exact h3
      · rw [ep, map_modify (fun p : XK3 => p.2.2) kvs n (fun p => (p.1, p.2.1, v)) (fun _ => v) fun _ => rfl, modify_const, h4]
    | none =>
      have ep : putX kvs q b v = kvs ++ [(q, b, v)] := by
        unfold putX
        rw [ev, hn]
        exact if_neg (by simp)
      refine ⟨⟨putX_ne _ _ _ _, ?_, hs, ?_, ?_⟩, ?_, ?_⟩
      · rw [ep, List.length_append]
        exact hlen
      · rw [ep, List.map_append]
        refine List.nodup_append.mpr ⟨h2, by simp, fun x hx z hz e => ?_⟩
        have e2 : z = q := by simpa using hz
        have := none_of (l := kvs) hn
        rw [← e2, ← e] at this
        exact this hx
      · intro x hx
        rw [ep] at hx
        rcases List.mem_append.mp hx with hx | hx
        · exact (h0 (fun z => by rw [z] at hx; cases hx)).at_ x hx
        · have e2 : x = (q, b, v) := by simpa using hx
          rw [e2]
          exact h7
      · rw [ep, List.map_append, ← h3, h5]
        rfl
      · rw [ep, List.map_append, ← h4]
        rfl
  · obtain ⟨rfl, hs, h2, rfl, rfl, h5, h6, h7, h8⟩ := h1
    refine ⟨dX K a (putX [] q b v), .inr ⟨[], q, b, h2, h6, ex_t fh h7, hl, rfl⟩, .inr ⟨[(q, b, v)], rfl, ⟨by simp, by simp; decide, hs, by simp, fun x hx => ?_⟩, ?_, ?_⟩⟩
    · have e2 : x = (q, b, v) := by simpa using hx
      rw [e2]
      exact h7
    · rw [h5]
      unfold putKs
      rfl
    · unfold putVs
      rfl
end
end DL

/-! DLX: dicts seen; places as expressions. -/
namespace DL
open PySem PySem.Spec PyProof.Rows L2 Evl

/-! ### dicts, seen -/
def elemOX : O → D → Option O
  | .dct ks vs, k => if okKey ks k = true then (kix ks k).bind fun n => vs[n]? else none
  | .im (.dct ks ds), k => if okKey ks k = true then ((kix ks k).bind fun n => ds[n]?).map O.im else none
  | o, k => elemOO o k
def dixX (d : Den O) (di : Den D) : Den O := dbind d fun o => dbind (dq di) fun i => dlift (elemOX o i)
theorem owns_get {K : KB} {F H : Hp} {os : List O} {xs : List V} {fs : List Addr} {n : Nat} {o : O} (h : Owns K F H os xs fs) (e : os[n]? = some o) : ∃ x f, xs[n]? = some x ∧ Own K F H o x f := by
  obtain ⟨x, f1, f0, f2, k1, _, k3, _⟩ := owns_out h e
  exact ⟨x, f0, k1, k3⟩
theorem dict_len {K : KB} {F : Hp} {a : Addr} {ho : HO} {ks : List D} {xs : List V} (h : DictAt K F a ho ks xs) : ks.length = xs.length := by
  rcases h with ⟨kvs, _, _, h3, h4⟩ | ⟨kvs, _, _, h3, h4⟩ <;> rw [h3, h4, List.length_map, List.length_map]
theorem kix_lt {ks : List D} {k : D} {n : Nat} (h : kix ks k = some n) : n < ks.length := (List.findIdx?_eq_some_iff_findIdx_eq.mp h).1
def rIn4 (K : KB) (neg : Bool) : R2 := fun x y H Q => (if neg then rNotIn3 K x y H Q else rIn3 K x y H Q) ∨ rXIn K neg x y H Q
theorem dict_in {K : KB} {H : Hp} {x y : V} {dx : D} {ks vs : List D} {b neg : Bool} (h1 : Rep K H dx x) (h2 : Rep K H (.dct ks vs) y) (ok : okKey ks dx = true) (Q : VK) (q : Q (.bl (if neg then !(kix ks dx).isSome else (kix ks dx).isSome)) H) : rXIn K neg x y H Q := by
  obtain ⟨a, ho, xs, rfl, h3, h0, h4⟩ := h2
  have g := dict_get h0 h1 ok (Ex.refl _) h3
  refine ⟨a, _, rfl, g, ?_⟩
  have e : ((kix ks dx).bind fun n => xs[n]?).isSome = (kix ks dx).isSome := by
    cases hn : kix ks dx with
    | none => rfl
    | some n =>
      have := kix_lt hn
      rw [dict_len h0] at this
      show (xs[n]?).isSome = true
      rw [List.getElem?_eq_getElem this]
      rfl
  rw [e]
  exact q
def notinXD : D → D → Option Bool
  | x, .dct ks _ => if okKey ks x = true then some (!(kix ks x).isSome) else none
  | x, y => notinD x y
theorem ok_notinX {K : KB} : CmpOk K (rIn4 K true) notinXD := by
  intro H x y dx dy b h1 h2 hg Q q
  unfold notinXD at hg
  split at hg
  · split at hg
    · rename_i ok
      cases hg
      exact .inr (dict_in (b := true) h1 h2 ok Q q)
    · cases hg
  · exact .inl (ok_notin H x y dx dy b h1 h2 hg Q q)
section
variable {X : Cx}
theorem op_notin4 (hu : X.A.units + 65 < cLine) : OpR X (compareOp .NotIn) (rIn4 X.B true) := (op_notin3 hu).or (op_notinX (by omega))
end
section
variable {X : Cx} {W : WX} {a b ex : Expr} {pos p : Pos} {x : Str}
/-! ### d.get(k), d.get(k, x) -/
def getOX (o : O) (k : D) (x : O) : Option O := match o with
  | .dct ks vs => if okKey ks k = true then some (((kix ks k).bind fun n => vs[n]?).getD x) else none
  | .im (.dct ks ds) => if okKey ks k = true then some ((((kix ks k).bind fun n => ds[n]?).map O.im).getD x) else none
  | _ => none
def isDO : O → Bool
  | .dct _ _ => true
  | .im (.dct _ _) => true
  | _ => false
def dgetX (d : Den O) (das : Den (List D)) : Den O := dbind d fun o => if isDO o = true then dbind (dq das) fun as => dlift (match as with
  | [k] => getOX o k (.im .non)
  | [k, x] => getOX o k (.im x)
  | _ => none) else fun _ => none
theorem getOX_ok {K : KB} {F H : Hp} {o z : O} {k x : D} {v u w : V} {fs : List Addr} (fh : Ex F H) (h : Own K F H o v fs) (hk : Rep K F k u) (hx : Rep K F x w) (e : getOX o k (.im x) = some z) :
    ∃ a r f, v = .ref a ∧ XGet K H a u r ∧ Own K F H z (r.getD w) f := by
  unfold getOX at e
  split at e
  · split at e
    · rename_i ok
      cases e
      obtain ⟨a, ho, xs, r, rfl, _, h1, h0, h2⟩ := h
      have g := dict_get h0 hk ok fh (.inl h1)
      cases hn : kix _ k with
      | none =>
        rw [hn] at g
        exact ⟨a, none, [], rfl, g, rfl, hx⟩
      | some n =>
        rw [hn] at g
        have hl := kix_lt hn
        rw [dict_len h0, ← h2.length] at hl
        obtain ⟨y, f, hy, how⟩ := owns_get h2 (List.getElem?_eq_getElem hl)
        refine ⟨a, _, f, rfl, g, ?_⟩
        dsimp only [Option.bind_some]
        rw [hy, List.getElem?_eq_getElem hl]
        exact how
    · cases e
  · split at e
    · rename_i ok
      cases e
      obtain ⟨_, a, ho, xs, rfl, h1, h0, h2⟩ := h
      have g := dict_get h0 hk ok fh (rd_mono fh h1)
      cases hn : kix _ k with
      | none =>
        rw [hn] at g
        exact ⟨a, none, [], rfl, g, rfl, hx⟩
      | some n =>
        rw [hn] at g
        have hl := kix_lt hn
        rw [dict_len h0, ← h2.length] at hl
        obtain ⟨y, hy, how⟩ := h2.get n (List.getElem?_eq_getElem hl)
        refine ⟨a, _, [], rfl, g, ?_⟩
        dsimp only [Option.bind_some]
        rw [hy, List.getElem?_eq_getElem hl]
        exact ⟨rfl, how⟩
    · cases e
  · cases e
theorem isDO_ok {K : KB} {F H : Hp} {o : O} {v : V} {fs : List Addr} (fh : Ex F H) (h : Own K F H o v fs) (e : isDO o = true) : ∃ a, v = .ref a ∧ IsX K H a := by
  have key : ∀ {a : Addr} {ho : HO} {ks : List D} {xs : List V}, Rd H a ho → DictAt K F a ho ks xs → IsX K H a := fun h1 h0 => by
    rcases h0 with ⟨kvs, e1, _⟩ | ⟨kvs, e1, _⟩
    · exact .inl ⟨kvs, by rw [← e1]; exact h1⟩
    · exact .inr ⟨kvs, by rw [← e1]; exact h1⟩
  unfold isDO at e
  split at e
  · obtain ⟨a, ho, xs, r, rfl, _, h1, h0, h2⟩ := h
    exact ⟨a, rfl, key (.inl h1) h0⟩
  · obtain ⟨_, a, ho, xs, rfl, h1, h0, h2⟩ := h
    exact ⟨a, rfl, key (rd_mono fh h1) h0⟩
  · cases e
theorem do_getX {d : Den O} {e1 : Expr} {es : List Expr} {das : Den (List D)} {o : Expr}
    (ho : DO X W o d) (ha : DA X W (e1 :: es) das) (hpe : ∀ {to : TE} {t : TA}, PE X o to → PA X (e1 :: es) t → PE X ex (tXM X.B (rXGet X.B) to t)) : DO X W ex (dgetX d das) := ⟨pe_weak (hpe ho.run ha.run) fun σ H Q q => by
  obtain ⟨c, F, e, ts, R, q⟩ := q
  refine ⟨c, F, e, ts, R, q.bind (rel := relW) fun F1 H1 e1 o v ef hr q1 => ?_⟩
  obtain ⟨R1, fs, ho⟩ := hr
  obtain ⟨r, hr3, post⟩ := q1
  split at hr3
  · rename_i hd
    refine ⟨isDO_ok R1.fh ho hd, c, F1, e1, ts, R1, ?_⟩
    have q2 : At relW X.B W (dbind (dq das) fun as => dlift (match as with
      | [k] => getOX o k (.im .non)
      | [k, x] => getOX o k (.im x)
      | _ => none)) c F1 σ e1 ts H1 Q := ⟨r, hr3, post⟩
    exact (q2.bind (rel := relA) (Q' := fun us H2 => Ex H1 H2 → rXGet X.B v us H2 Q) fun F2 H2 e2 as us ef2 hr2 q3 ee => by
      obtain ⟨R2, hrs⟩ := hr2
      obtain ⟨z, hz, k⟩ := q3.lift
      have ho2 := Own.mono ef2 _ _ _ (fun p _ w z => ee p w z) ho
      split at hz
      · obtain ⟨u, rfl, hu⟩ := reps1 hrs
        obtain ⟨a, r, f, rfl, g, how⟩ := getOX_ok (x := .non) (w := V.non) R2.fh ho2 hu rfl hz
        exact ⟨a, r, rfl, .inl ⟨u, rfl, g, k F2 H2 _ (Ex.refl _) (Ex.refl _) ⟨R2, f, how⟩⟩⟩
      · obtain ⟨u, w, rfl, hu, hw⟩ := reps2 hrs
        obtain ⟨a, r, f, rfl, g, how⟩ := getOX_ok R2.fh ho2 hu hw hz
        exact ⟨a, r, rfl, .inr ⟨u, w, rfl, g, k F2 H2 _ (Ex.refl _) (Ex.refl _) ⟨R2, f, how⟩⟩⟩
      · cases hz).toQ
  · cases hr3⟩
/-! ### list(d) -/
def keysOX : O → Option (List D)
  | .dct ks _ => some ks
  | .im (.dct ks _) => some ks
  | _ => none
def dlistX (d : Den O) : Den Rv := dbind d fun o => dlift ((keysOX o).map fun ds => Rv.new (.lst (ds.map O.im)))
end
section
variable {X : Cx} {W : WX} {a b ex : Expr} {pos p : Pos} {x : Str}
/-! ### {} -/
theorem pe_dict0 : PE X (.Dict [] [] pos) (fun _ H Q => ∀ p, H p = none → (p == sysModules) = false → Q (.ref p) (upd H p (.dK []))) := ⟨fun pins s σ H Q I h =>
  wpAny_Dict_empty ⟨.ref s.heap.objs.size, _, I.laid (a := s.heap.objs.size) (o := .dK []) (t' := s.toks) (fun _ _ q => Heap.get?_push_of_some _ q) (Nat.le_refl _) (dk_empty s.heap I.big), rfl, h _ (I.hok.fresh (Nat.le_refl _)) (beq_eq_false_iff_ne.mpr (Ne.symm (Nat.ne_of_lt I.big)))⟩⟩
theorem de_dict0 : DE X W (.Dict [] [] pos) (dpure (.new (.dct [] []))) := ⟨pe_weak pe_dict0 fun σ H Q q => by
  obtain ⟨c, F, e, ts, R, q⟩ := q
  intro p hp hs
  exact At.pure q F _ (.ref p) (Ex.refl _) (Ex.new hp) (R.newO hp ⟨p, .dK [], [], [], rfl, rfl, upd_same, .inl ⟨[], rfl, ⟨hs, by simp⟩, rfl, rfl⟩, rfl, rfl⟩)⟩
end
end DL

/-! DLY: places: stores, removals, calls. -/
namespace DL
open PySem PySem.Spec PyProof.Rows L2 Evl

/-! ### places as expressions -/
abbrev Pl := Nat × List Nat
def plO (pl : Pl) (e : Env) : Option O := match e[pl.1]? with
  | some (some (_, o)) => match O.get pl.2 o with
    | some t => if t.kids.isSome = true then some t else none
    | none => none
  | _ => none
def plPut (pl : Pl) (e : Env) (o' : O) : Env := match e[pl.1]? with
  | some (some (b, o)) => e.set pl.1 (some (b, O.put pl.2 o o'))
  | _ => e
theorem plO_eq {pl : Pl} {e : Env} {t : O} (h : plO pl e = some t) : ∃ b o, e[pl.1]? = some (some (b, o)) ∧ O.get pl.2 o = some t ∧ t.kids.isSome = true ∧ ∀ o', plPut pl e o' = e.set pl.1 (some (b, O.put pl.2 o o')) := by
  unfold plO at h
  split at h
  · rename_i b o he
    split at h
    · rename_i t' hg
      split at h
      · rename_i hk
        cases h
        exact ⟨b, o, he, hg, hk, fun o' => by unfold plPut; rw [he]⟩
      · cases h
    · cases h
  · cases h
def relP : Rel Pl V := fun K c F H σ e ts pl v => RE K c F H σ e ts ∧ ∃ v0, σ[pl.1]? = some (some v0) ∧ WalkTo K H v0 pl.2 v
structure DPl (X : Cx) (W : WX) (ex : Expr) (den : Den Pl) : Prop where
  run : PE X ex (rd relP X.B W den)
section
variable {K : KB} {c : Ctx} {F F' H H' : Hp} {σ : L2.St} {e : Env} {ts : List (V × O)}
/-- the place's object, taken out -/
theorem RE.outPl {pl : Pl} {t : O} {v v0 : V} (R : RE K c F H σ e ts) (h : plO pl e = some t) (hv : σ[pl.1]? = some (some v0)) (hw : WalkTo K H v0 pl.2 v) :
    ∃ a e1, v = .ref a ∧ RE K c F H σ e1 ((.ref a, t) :: ts) ∧ ∀ {F' H' : Hp} {ts' : List (V × O)} {t' : O}, RE K c F' H' σ e1 ((.ref a, t') :: ts') → RE K c F' H' σ (plPut pl e t') ts' := by
  obtain ⟨b, o, he, hg, hk, hp⟩ := plO_eq h
  obtain ⟨v1, a, h1, h2, R1⟩ := R.outP he hg hk
  rw [hv] at h1
  cases h1
  have ev := hw.fn h2
  subst ev
  refine ⟨a, _, rfl, R1, fun R2 => ?_⟩
  rw [hp]
  exact R2.inP (List.getElem?_eq_some_iff.mp he).1 hg
end
def dplVar (i : Nat) : Den Pl := fun e => (plO (i, []) e).map fun _ => .ok false e (i, [])
def fix (ns : List Str) (f : Str) : Option Nat := ns.findIdx? fun n => f == n
section
variable {X : Cx} {W : WX} {a b ex : Expr} {pos p : Pos}
theorem dpl_var {i : Nat} (h : PE X ex (tVar i)) : DPl X W ex (dplVar i) := ⟨pe_weak h fun σ H Q q => by
  obtain ⟨c, F, e, ts, R, r, hr, post⟩ := q
  unfold dplVar at hr
  obtain ⟨t, ht, rfl⟩ := Option.map_eq_some_iff.mp hr
  obtain ⟨b, o, he, _⟩ := plO_eq ht
  obtain ⟨v, fs, hv, ho⟩ := R.slot he
  exact ⟨v, hv, post F H v (Ex.refl _) (fun _ => Ex.refl _) ⟨R, v, hv, rfl⟩⟩⟩
end
end DL

/-! DLZ: places: stores, removals, methods. -/
namespace DL
open PySem PySem.Spec PyProof.Rows L2 Evl

section
variable {K : KB} {c : Ctx} {F F' H H' : Hp} {σ : L2.St} {e : Env} {ts : List (V × O)}
theorem upd_keep {a : Addr} {u : HO} {fs : List Addr} (h : ∀ p ∈ fs, p ≠ a) : ∀ p ∈ fs, ∀ w, H p = some w → upd H a u p = some w := fun p hp w z => by rw [upd_ne (h p hp)]; exact z
/-- a temporary, opened: it may be changed where it stands -/
theorem RE.openT {a : Addr} {t : O} {os : List O} {A : List (V × O)} (R : RE K c F H σ e ((.ref a, t) :: (A ++ ts))) (hk : t.kids = some os) :
    ∃ r fA, Own K F H t (.ref a) (a :: r) ∧ (∃ xs, Kids K H a xs ∧ Owns K F H os xs r) ∧ Held K F H A fA ∧ (r ++ fA).Nodup ∧ (∀ p ∈ r ++ fA, p ≠ a) ∧ ∀ u t' fs' B fB, Own K F (upd H a u) t' (.ref a) (a :: fs') → Held K F (upd H a u) B fB → (fs' ++ fB).Nodup → (∀ p ∈ fs' ++ fB, p ∈ r ++ fA) →
      RE K c F (upd H a u) σ e ((.ref a, t') :: (B ++ ts)) := by
  obtain ⟨hs, fs, h1, h2, h3, h4⟩ := R.hd
  obtain ⟨f1, f2, rfl, ho, h2⟩ := h2
  have h2 : Held K F H (A ++ (ts ++ hs)) f2 := by rw [← List.append_assoc]; exact h2
  obtain ⟨fA, f3, rfl, hA, h5⟩ := h2.split
  obtain ⟨a', xs, r, ea, e1, hkd, hos, _⟩ := own_kids ho hk
  cases ea
  subst e1
  have nd := List.nodup_append.mp h3
  have nd1 := List.nodup_cons.mp nd.1
  have nd2 := List.nodup_append.mp nd.2.1
  have ne : ∀ p ∈ r ++ fA, p ≠ a := fun p hp z => by
    subst z
    rcases List.mem_append.mp hp with hp | hp
    · exact nd1.1 hp
    · exact nd.2.2 p List.mem_cons_self p (List.mem_append_left _ hp) rfl
  have ne3 : ∀ p ∈ f3, p ≠ a := fun p hp z => by
    subst z
    exact nd.2.2 p List.mem_cons_self p (List.mem_append_right _ hp) rfl
  have fa : F a = none ∧ c.G a = none := h4 a (List.mem_append_left _ List.mem_cons_self)
  refine ⟨r, fA, ho, ⟨xs, hkd, hos⟩, hA, List.nodup_append.mpr ⟨nd1.2, nd2.1, fun x hx y hy => nd.2.2 x (List.mem_cons_of_mem _ hx) y (List.mem_append_left _ hy)⟩, ne, ?_⟩
  intro u t' fs' B fB ho' hB ndn sub
  have out3 : ∀ p ∈ fs' ++ fB, p ∉ f3 := fun p hp hp3 => by
    rcases List.mem_append.mp (sub p hp) with z | z
    · exact nd.2.2 p (List.mem_cons_of_mem _ z) p (List.mem_append_right _ hp3) rfl
    · exact nd2.2.2 p z p hp3 rfl
  refine ⟨fun p w z => ?_, R.f0, fun p w z => ?_, R.nw, hs, (a :: fs') ++ (fB ++ f3), h1, ⟨a :: fs', fB ++ f3, rfl, ho', ?_⟩, ?_, fun p hp => ?_⟩
  · rw [upd_ne (fun w => by subst w; rw [fa.2] at z; cases z)]
    exact R.g p w z
  · rw [upd_ne (fun w => by subst w; rw [fa.1] at z; cases z)]
    exact R.fh p w z
  · show Held K F (upd H a u) ((B ++ ts) ++ hs) (fB ++ f3)
    rw [List.append_assoc]
    exact Held.join hB (Held.mono (Ex.refl _) (upd_keep ne3) h5)
  · rw [List.cons_append, ← List.append_assoc, List.nodup_cons]
    refine ⟨fun hp => ?_, List.nodup_append.mpr ⟨ndn, nd2.2.1, fun x hx y hy z => out3 x hx (z ▸ hy)⟩⟩
    rcases List.mem_append.mp hp with z | z
    · exact ne a (sub a z) rfl
    · exact ne3 a z rfl
  · rcases List.mem_append.mp hp with z | z
    · rcases List.mem_cons.mp z with z | z
      · rw [z]; exact fa
      · rcases List.mem_append.mp (sub p (List.mem_append_left _ z)) with w | w
        · exact h4 p (List.mem_append_left _ (List.mem_cons_of_mem _ w))
        · exact h4 p (List.mem_append_right _ (List.mem_append_left _ w))
    · rcases List.mem_append.mp z with z | z
      · rcases List.mem_append.mp (sub p (List.mem_append_right _ z)) with w | w
        · exact h4 p (List.mem_append_left _ (List.mem_cons_of_mem _ w))
        · exact h4 p (List.mem_append_right _ (List.mem_append_left _ w))
      · exact h4 p (List.mem_append_right _ (List.mem_append_right _ z))
theorem held_one {v : V} {o : O} {fA : List Addr} (h : Held K F H [(v, o)] fA) : Own K F H o v fA := by
  obtain ⟨f1, f2, rfl, h1, h2⟩ := h
  rw [show f2 = [] from h2, List.append_nil]
  exact h1
theorem owns_set2 {os : List O} {xs : List V} {r fv : List Addr} {n : Nat} {o : O} {v : V} (h : Owns K F H os xs r) (hv : Own K F H o v fv) (nd : (r ++ fv).Nodup) (hn : n < os.length) : ∃ fs', Owns K F H (os.set n o) (xs.set n v) fs' ∧ fs'.Nodup ∧ ∀ p ∈ fs', p ∈ r ++ fv := by
  induction os generalizing xs r n with
  | nil => simp at hn
  | cons o0 os ih =>
    obtain ⟨y, t, f1, f2, rfl, rfl, h1, h2⟩ := h
    cases n with
    | zero =>
      have nd2 := List.nodup_append.mp nd
      have nd3 := List.nodup_append.mp nd2.1
      refine ⟨fv ++ f2, ⟨v, t, fv, f2, rfl, rfl, hv, h2⟩, List.nodup_append.mpr ⟨nd2.2.1, nd3.2.1, fun a ha b hb z => nd2.2.2 b (List.mem_append_right _ hb) a ha z.symm⟩, fun p hp => ?_⟩
      rcases List.mem_append.mp hp with z | z <;> simp [z]
    | succ n =>
      have nd' : (f2 ++ fv).Nodup := by
        rw [List.append_assoc] at nd
        exact (List.nodup_append.mp nd).2.1
      obtain ⟨fs', k1, k2, k3⟩ := ih h2 nd' (by simpa using hn)
      refine ⟨f1 ++ fs', ⟨y, t.set n v, f1, fs', rfl, rfl, h1, k1⟩, ?_, fun p hp => ?_⟩
      · rw [List.append_assoc] at nd
        have nd2 := List.nodup_append.mp nd
        exact List.nodup_append.mpr ⟨nd2.1, k2, fun a ha b hb => nd2.2.2 a ha b (k3 b hb)⟩
      · rcases List.mem_append.mp hp with z | z
        · simp [z]
        · have := k3 p z
          rw [List.append_assoc]
          exact List.mem_append_right _ this
theorem owns_snoc {os : List O} {xs : List V} {r fv : List Addr} {o : O} {v : V} (h : Owns K F H os xs r) (hv : Own K F H o v fv) : Owns K F H (os ++ [o]) (xs ++ [v]) (r ++ fv) :=
  h.append ⟨v, [], fv, [], rfl, by simp, hv, rfl, rfl⟩
/-! ### dicts -/
theorem RE.tPut {a : Addr} {ks : List D} {vs : List O} {v y : V} {o : O} {k : D} (R : RE K c F H σ e ((.ref a, .dct ks vs) :: ((v, o) :: ts))) (hk : Rep K F k y) (ok : okKey ks k = true) (hl : ks.length < sizeLine) :
    ∃ u, XPut K H a y v (upd H a u) ∧ RE K c F (upd H a u) σ e ((.ref a, .dct (putKs ks k) (putVs ks k vs o)) :: ts) := by
  obtain ⟨r, fA, ho, _, hA, nd, ne, back⟩ := RE.openT (A := [(v, o)]) R rfl
  obtain ⟨a', h0, xs, r', ea, er, h1, hd, hos⟩ := ho
  cases ea
  cases er
  have hv := held_one hA
  obtain ⟨u, g, hd'⟩ := dict_put (v := v) hd hk ok R.fh h1 hl
  refine ⟨u, g, ?_⟩
  have mv : Owns K F (upd H a u) vs xs r := Owns.mono (Ex.refl _) _ _ _ (upd_keep fun p hp => ne p (List.mem_append_left _ hp)) hos
  have mo : Own K F (upd H a u) o v fA := Own.mono (Ex.refl _) _ _ _ (upd_keep fun p hp => ne p (List.mem_append_right _ hp)) hv
  have key : ∃ fs', Owns K F (upd H a u) (putVs ks k vs o) (putVs ks k xs v) fs' ∧ fs'.Nodup ∧ ∀ p ∈ fs', p ∈ r ++ fA := by
    unfold putVs
    cases hn : kix ks k with
    | some n =>
      have := kix_lt hn
      rw [dict_len hd, ← hos.length] at this
      exact owns_set2 mv mo nd this
    | none => exact ⟨_, owns_snoc mv mo, nd, fun p hp => hp⟩
  obtain ⟨fs', k1, k2, k3⟩ := key
  exact back u _ fs' [] [] ⟨a, u, _, fs', rfl, rfl, upd_same, hd', k1⟩ rfl (by simpa using k2) (by simpa using k3)
/-! ### lists -/
theorem RE.tSet {a : Addr} {vs : List O} {v : V} {o : O} {n : Nat} (R : RE K c F H σ e ((.ref a, .lst vs) :: ((v, o) :: ts))) (hn : n < vs.length) :
    ∃ xs, H a = some (.lst xs) ∧ vs.length = xs.length ∧ RE K c F (upd H a (.lst (xs.set n v))) σ e ((.ref a, .lst (vs.set n o)) :: ts) := by
  obtain ⟨r, fA, ho, _, hA, nd, ne, back⟩ := RE.openT (A := [(v, o)]) R rfl
  obtain ⟨a', xs, r', ea, er, h1, hos⟩ := ho
  cases ea
  cases er
  have hv := held_one hA
  refine ⟨xs, h1, hos.length, ?_⟩
  have mv : Owns K F (upd H a (.lst (xs.set n v))) vs xs r := Owns.mono (Ex.refl _) _ _ _ (upd_keep fun p hp => ne p (List.mem_append_left _ hp)) hos
  have mo : Own K F (upd H a (.lst (xs.set n v))) o v fA := Own.mono (Ex.refl _) _ _ _ (upd_keep fun p hp => ne p (List.mem_append_right _ hp)) hv
  obtain ⟨fs', k1, k2, k3⟩ := owns_set2 mv mo nd hn
  exact back _ _ fs' [] [] ⟨a, _, fs', rfl, rfl, upd_same, k1⟩ rfl (by simpa using k2) (by simpa using k3)
/-! ### fields -/
def putN (ns : List Str) (f : Str) : List Str := match fix ns f with
  | some _ => ns
  | none => ns ++ [f]
def putW {α : Type} (ns : List Str) (f : Str) (xs : List α) (v : α) : List α := match fix ns f with
  | some n => xs.set n v
  | none => xs ++ [v]
theorem putF_zip {f : Str} {v : V} : ∀ {ns : List Str} {xs : List V}, ns.length = xs.length → putF f v (ns.zip xs) = (putN ns f).zip (putW ns f xs v) ∧ (putN ns f).length = (putW ns f xs v).length
  | [], [], _ => ⟨rfl, rfl⟩
  | [], _ :: _, h => by simp at h
  | _ :: _, [], h => by simp at h
  | m :: ns, x :: xs, h => by
    obtain ⟨k1, k2⟩ := putF_zip (f := f) (v := v) (ns := ns) (xs := xs) (by simpa using h)
    rw [List.zip_cons_cons, putF]
    unfold putN putW fix at *
    rw [List.findIdx?_cons]
    by_cases q : m = f
    · rw [if_pos q]
      have : (f == m) = true := by rw [q]; exact beq_self_eq_true f
      rw [this]
      refine ⟨?_, by simpa using h⟩
      simp
    · rw [if_neg q]
      have : (f == m) = false := by rw [beq_eq_false_iff_ne]; exact fun z => q z.symm
      rw [this]
      cases h3 : (ns.findIdx? fun n => f == n) with
      | none =>
        rw [h3] at k1 k2
        refine ⟨?_, by simpa using k2⟩
        rw [k1]
        rfl
      | some n =>
        rw [h3] at k1 k2
        refine ⟨?_, by simpa using k2⟩
        rw [k1]
        rfl
theorem RE.tFld {a C : Addr} {ns : List Str} {vs : List O} {v : V} {o : O} {f : Str} (R : RE K c F H σ e ((.ref a, .ins C ns vs) :: ((v, o) :: ts))) :
    ∃ dx fs, H a = some (.ins C dx fs) ∧ fs.length = vs.length ∧ RE K c F (upd H a (.ins C dx (putF f v fs))) σ e ((.ref a, .ins C (putN ns f) (putW ns f vs o)) :: ts) := by
  obtain ⟨r, fA, ho, _, hA, nd, ne, back⟩ := RE.openT (A := [(v, o)]) R rfl
  obtain ⟨a', dx, xs, r', ea, er, h1, h0, hos⟩ := ho
  cases ea
  cases er
  have hv := held_one hA
  obtain ⟨k1, k2⟩ := putF_zip (f := f) (v := v) h0
  refine ⟨dx, _, h1, by rw [List.length_zip, h0, hos.length, Nat.min_self], ?_⟩
  have mv : Owns K F (upd H a (.ins C dx (putF f v (ns.zip xs)))) vs xs r := Owns.mono (Ex.refl _) _ _ _ (upd_keep fun p hp => ne p (List.mem_append_left _ hp)) hos
  have mo : Own K F (upd H a (.ins C dx (putF f v (ns.zip xs)))) o v fA := Own.mono (Ex.refl _) _ _ _ (upd_keep fun p hp => ne p (List.mem_append_right _ hp)) hv
  have key : ∃ fs', Owns K F (upd H a (.ins C dx (putF f v (ns.zip xs)))) (putW ns f vs o) (putW ns f xs v) fs' ∧ fs'.Nodup ∧ ∀ p ∈ fs', p ∈ r ++ fA := by
    unfold putW
    cases hn : fix ns f with
    | some n =>
      have : n < ns.length := (List.findIdx?_eq_some_iff_findIdx_eq.mp hn).1
      rw [h0, ← hos.length] at this
      exact owns_set2 mv mo nd this
    | none => exact ⟨_, owns_snoc mv mo, nd, fun p hp => hp⟩
  obtain ⟨fs', q1, q2, q3⟩ := key
  exact back _ _ fs' [] [] ⟨a, dx, _, fs', rfl, rfl, by rw [upd_same, k1], k2, q1⟩ rfl (by simpa using q2) (by simpa using q3)
end
end DL

/-! DMA: statements over places. -/
namespace DL
open PySem PySem.Spec PyProof.Rows L2 Evl

def rSetX (K : KB) : TSet := fun o i v H Q => rSetL o i v H Q ∨ rXSet K o i v H Q
theorem set_anyX {X : Cx} (hu : X.A.units + 65 < cLine) : PSet X (rSetX X.B) := by
  intro pins s σ H o i v ov iv u Q I ro ri rv h
  rcases h with h | h
  · exact set_list pins s σ H o i v ov iv u Q I ro ri rv h
  · exact set_dictX (by omega) pins s σ H o i v ov iv u Q I ro ri rv h
/-- the rest of a statement behind a quiet expression -/
theorem AtS.q {K : KB} {W : WX} {α β : Type} {rel : Rel α β} {den : Den α} {f : α → SDen} {D : Ends} {c : Ctx} {F H : Hp} {σ : L2.St} {e : Env} {ts : List (V × O)} {Q' : β → Hp → Prop} (h : AtS K W (DL.sbind (dq den) f) D c F σ e ts H)
    (k : ∀ F1 H1 e1 a v, Ex F F1 → Ex H H1 → rel K c F1 H1 σ e1 ts a v → AtS K W (f a) D c F1 σ e1 ts H1 → Q' v H1) : At rel K W den c F σ e ts H Q' :=
  (h.sbind (rel := rel) (Q' := fun v H1 => Ex H H1 → Q' v H1) fun F1 H1 e1 a v ef hr q ee => k F1 H1 e1 a v ef ee hr q).toQ
theorem At.q {K : KB} {W : WX} {α β γ δ : Type} {rel : Rel α β} {rel2 : Rel γ δ} {den : Den α} {f : α → Den γ} {c : Ctx} {F H : Hp} {σ : L2.St} {e : Env} {ts : List (V × O)} {Q : δ → Hp → Prop} {Q' : β → Hp → Prop} (h : At rel2 K W (dbind (dq den) f) c F σ e ts H Q)
    (k : ∀ F1 H1 e1 a v, Ex F F1 → Ex H H1 → rel K c F1 H1 σ e1 ts a v → At rel2 K W (f a) c F1 σ e1 ts H1 Q → Q' v H1) : At rel K W den c F σ e ts H Q' :=
  (h.bind (rel := rel) (Q' := fun v H1 => Ex H H1 → Q' v H1) fun F1 H1 e1 a v ef hr q ee => k F1 H1 e1 a v ef ee hr q).toQ
/-! ### P[k] = e -/
def stP (o : O) (pl : Pl) (k : D) : SDen := fun e => match plO pl e with
  | some (.dct ks vs) => if okKey ks k = true ∧ ks.length < sizeLine then some (.nx true (plPut pl e (.dct (putKs ks k) (putVs ks k vs o)))) else none
  | some (.lst vs) => match k with
    | .int j => match ixN vs.length j with
      | some n => if n < vs.length then some (.nx true (plPut pl e (.lst (vs.set n o)))) else none
      | none => none
    | _ => none
  | _ => none
def sstP (dv : Den Rv) (dpl : Den Pl) (dk : Den D) : SDen := sbind dv fun rv => sbind (rvO rv) fun o => sbind dpl fun pl => sbind (dq dk) fun k => stP o pl k
section
variable {X : Cx} {W : WX} {a b ex : Expr} {pos p : Pos}
theorem ds_stP {dv : Den Rv} {dpl : Den Pl} {dk : Den D} (hu : X.A.units + 65 < cLine) (hv : DE X W ex dv) (ha : DPl X W a dpl) (hb : DI X W b dk)
    (hst : ∀ {te ta tb}, PE X ex te → PE X a ta → PE X b tb → PS X (.Assign [.Subscript a b p] ex pos) (tAsg te (gSub ta tb (rSetX X.B)))) : DS X W (.Assign [.Subscript a b p] ex pos) (sstP dv dpl dk) := ⟨ps_weak (hst hv.run ha.run hb.run) fun D0 σ H q => by
  obtain ⟨c, F, e, ts, R, q⟩ := q
  refine ⟨c, F, e, ts, R, q.tmp fun F1 H1 e1 o v ef R1 q1 => ⟨c, F1, e1, (v, o) :: ts, R1, ?_⟩⟩
  -- the temporary is kept while the place is found
  obtain ⟨r, hr, post⟩ := q1
  unfold sbind at hr
  cases hd : dpl e1 with
  | none => rw [hd] at hr; cases hr
  | some r1 =>
    rw [hd] at hr
    cases r1 with
    | err m e2 x =>
      cases hr
      exact ⟨_, hd, fun F' H' cls d ef' eh R' hx => post F' H' σ cls d ef' eh R'.drop hx⟩
    | ok m e2 pl =>
      refine ⟨_, hd, fun F2 H2 x ef2 eh2 hrel => ?_⟩
      obtain ⟨R2, v0, hv0, hw⟩ := hrel
      have q2 : AtS X.B W (sbind (dq dk) fun k => stP o pl k) D0 c F2 σ e2 ts H2 := AtS.more hr ef2 eh2 post
      refine ⟨c, F2, e2, (v, o) :: ts, R2, ?_⟩
      obtain ⟨r3, hr3, post3⟩ := q2
      unfold sbind dq at hr3
      cases hk : dk e2 with
      | none => rw [hk] at hr3; cases hr3
      | some r4 =>
        rw [hk] at hr3
        cases r4 with
        | err m4 e4 x4 =>
          cases hr3
          exact ⟨_, hk, fun F' H' cls d ef' eh R' hx => post3 F' H' σ cls d ef' eh R'.drop hx⟩
        | ok m4 e4 k =>
          cases m4 with
          | true => cases hr3
          | false =>
            refine ⟨_, hk, fun F4 H4 y ef4 eh4 hrk => ?_⟩
            have q4 : AtS X.B W (stP o pl k) D0 c F4 σ e4 ts H4 := AtS.more hr3 ef4 eh4 post3
            obtain ⟨R4, hrep⟩ := hrk
            obtain ⟨r5, hr5, post5⟩ := q4
            have hw4 := hw.mono (eh4 rfl)
            unfold stP at hr5
            split at hr5
            · rename_i ks vs hpl
              split at hr5
              · rename_i hok
                cases hr5
                obtain ⟨a, e5, rfl, R5, back⟩ := R4.outPl hpl hv0 hw4
                obtain ⟨u, g, R6⟩ := R5.tPut hrep hok.1 hok.2
                exact .inr ⟨a, _, rfl, g, post5 F4 _ σ (Ex.refl _) (fun z => by cases z) (back R6)⟩
              · cases hr5
            · rename_i vs hpl
              split at hr5
              · rename_i j
                split at hr5
                · rename_i n hn
                  split at hr5
                  · rename_i hlt
                    cases hr5
                    obtain ⟨a, e5, rfl, R5, back⟩ := R4.outPl hpl hv0 hw4
                    obtain ⟨xs, h1, hl, R6⟩ := R5.tSet hlt
                    exact .inl ⟨a, xs, j, n, rfl, hrep, h1, by rw [← hl]; exact hn, post5 F4 _ σ (Ex.refl _) (fun z => by cases z) (back R6)⟩
                  · cases hr5
                · cases hr5
              · cases hr5
            · cases hr5⟩
/-! ### del P[k] -/
/-! ### P.pop(k) -/
/-! ### P.pop() -/
/-! ### P.append(e) -/
/-! ### P.extend(e), e a new list -/
/-! ### P.f = e -/
end
end DL

/-! DMB: methods of what stands at a place; properties; operators of own classes; sorted. -/
namespace DL
open PySem PySem.Spec PyProof.Rows L2 Evl

/-! ### P.m(..) -/
section
variable {K : KB} {c : Ctx} {F F' H H' : Hp} {σ : L2.St} {e : Env} {ts : List (V × O)}
end
section
variable {X : Cx} {W : WX} {a : Expr} {es : List Expr} {pos p apos : Pos} {m : Str} {k : Nat} {f C : Addr} {fd : FuncData} {ps : List Str} {fn : FDen} {dd : List D} {dvs : List V} {dl : List Value}
end
end DL

/-! DMC: own classes: walked over, operators, properties. -/
namespace DL
open PySem PySem.Spec PyProof.Rows L2 Evl

/-! ### an own __iter__ that hands a tuple's iterator back -/
def ItT (t it : Addr) (i : Nat) : HO := .ext fun h => h.IsTupleIter it t i
def rIterT (X : Cx) : List V → Hp → VK → Prop := fun xs H Q => ∃ t zs, xs = [.ref t] ∧ SqT X.K H t zs ∧ ∀ it, H it = none → X.s_0.heap.objs.size ≤ it → Q (.ref it) (upd H it (ItT t it 0))
/-- the def of __iter__: return iter(self.fld) -/
structure ItFn (P : Program) (w : World) (K : PySem.W.Frag) (mg : Str → Option Value) (base : Heap) (C f : Addr) (fld : Str) : Prop where
  at_ : PySem.W.findIn K (.ref C) "__iter__" = some (some (.ref f))
  fn : PySem.W.isFn K (.ref f) = true
  cls : Cls K C
  nat : NoAttr K C fld
  ex : ∃ (x qual : Str) (st : Stmt) (fd : FuncData), Df K x qual st f fd ∧ FnScope ["self"] ["self"] (defScope st) ∧ Binds K fd ["self"] [] ∧ ∀ cdv A outer s H E,
    PSs (cxOf (L2.CX P w) P w K mg base ["self"] qual (defScope st) f cdv A outer s H E) (defBody st) (tRet (tCB (rIterT (cxOf (L2.CX P w) P w K mg base ["self"] qual (defScope st) f cdv A outer s H E)) (tCons (tFld K (tVar 0) fld) tNil)))
section
variable {X : Cx} {C f : Addr} {fld : Str}
end
end DL

/-! DMD: loops over own instances; operators. -/
namespace DL
open PySem PySem.Spec PyProof.Rows L2 Evl

/-- the items of an instance of C: its field's -/
def insSeq (C : Addr) (fld : Str) : D → Option (List D)
  | .ins C' ns ds => if C' = C then (match (ns.zip ds).lookup fld with
    | some (.tup xs) => some xs
    | _ => none) else none
  | _ => none
def sforC (C : Addr) (fld : Str) (it : Den Rv) (bind : D → Env → Option Env) (body : SDen) : SDen := sbind it fun rv e => match rv with
  | .im d => match insSeq C fld d with
    | some ds => sloop bind body ds e
    | none => match seqD d with
      | some ds => sloop bind body ds e
      | none => none
  | .new o => match seqD o.flat with
    | some ds => sloop bind body ds e
    | none => none
  | .bor i _ => match e[i]? with
    | some (some (_, o)) => match seqO o with
      | some ds => slend i (sloop bind body ds) e
      | none => none
    | _ => none
section
variable {X : Cx} {W : WX} {tg iter : Expr} {body : List Stmt} {pos : Pos} {it : Den Rv} {bind : D → Env → Option Env} {sl : List Nat} {db : SDen}

/-- a frozen source, an own instance among them -/
def sqC (C : Addr) (fld : Str) (d : Den D) : Den (List D) := dbind d fun x => dlift (match insSeq C fld x with
  | some ds => some ds
  | none => seqD x)
end
end DL

/-! DME: operators, properties, static methods of own classes; their instances told apart. -/
namespace DL
open PySem PySem.Spec PyProof.Rows L2 Evl

/-! ### a def called by the machine, its arguments frozen, letting nothing out -/
section
variable {X : Cx} {C f : Addr} {k n : Nat} {fd : FuncData} {ps : List Str} {fn : FDen}
/-- an own method, found for an operator -/
structure OwnM (X : Cx) (C : Addr) (m : Str) (f : Addr) (k n : Nat) (fn : FDen) : Prop where
  at_ : PySem.W.findIn X.K (.ref C) m = some (some (.ref f))
  isf : PySem.W.isFn X.K (.ref f) = true
  ok : ∃ fd ps, FnOk X.prog X.w X.K X.mg X.base (L2.CX X.prog X.w) k f fd ps (spD X.B n fn) ∧ Binds X.K fd ps []
/-! ### -x, truth, in -/
end
section
variable {X : Cx} {W : WX} {a b ex : Expr} {pos p : Pos} {C f : Addr} {k : Nat} {fn : FDen} {da db : Den D}
def dun (g : D → Option D) (d : Den D) : Den D := dbind d fun x => dlift (g x)
end
end DL

/-! DMF: sorted of ints, of texts, of tuples of ints and texts: any length. -/
namespace DL
open PySem PySem.Spec PyProof.Rows L2 Evl

/-! ### the machine: items by their keys -/
abbrev SK := Int ⊕ List Nat
abbrev ltK (a b : List SK) : Bool := lexLt itemOrd a b
def itK : V → Option SK
  | .int i => some (.inl i)
  | .str s => some (.inr s.cps.toList)
  | _ => none
def isSt : SK → Bool
  | .inl _ => false
  | .inr _ => true
/-- all of one kind -/
def AllK (K : PySem.W.Frag) (H : Hp) (xs : List V) : Prop := (∀ x ∈ xs, ∃ i, x = .int i) ∨ (∀ x ∈ xs, ∃ s, x = .str s) ∨
  ∃ sh : List Bool, sh ≠ [] ∧ ∀ x ∈ xs, ∃ t zs l, x = .ref t ∧ SqT K H t zs ∧ zs.mapM itK = some l ∧ l.map isSt = sh
def kv (h : Heap) (sh : Nat → Bool) : Value → List SK
  | .int i _ => [.inl i]
  | .str s _ => [.inr s.cps.toList]
  | u => (tupKey h sh u).getD []
section
variable {prog : Program} {w : World} {A : Around} {s : Shared}
end
section
variable {X : Cx}
end
end DL

/-! DMG: sorted at D. -/
namespace DL
open PySem PySem.Spec PyProof.Rows L2 Evl
def keyIt : D → Option SK
  | .int i => some (.inl i)
  | .str s => some (.inr s.cps.toList)
  | _ => none
def keyT : D → Option (List SK)
  | .int i => some [.inl i]
  | .str s => some [.inr s.cps.toList]
  | .tup ds => ds.mapM keyIt
  | _ => none
def kk (d : D) : List SK := (keyT d).getD []
def isI : D → Bool
  | .int _ => true
  | _ => false
def isS : D → Bool
  | .str _ => true
  | _ => false
def shOf : D → Option (List Bool)
  | .tup ds => (ds.mapM keyIt).map fun l => l.map isSt
  | _ => none
def okSort (ds : List D) : Bool := ds.all isI || ds.all isS || (match ds with
  | d :: _ => (match shOf d with
    | some (b :: sh) => ds.all fun e => shOf e == some (b :: sh)
    | _ => false)
  | [] => true)
def sleD (a b : D) : Bool := !ltK (kk b) (kk a)
def sortD (ds : List D) : Option (List D) := if okSort ds = true then some (ds.mergeSort sleD) else none
/-! ### the rule -/
def dsorted (d : Den O) : Den Rv := dbind d fun o => dlift (((lsqV o).bind sortD).map fun ds => Rv.new (.lst (ds.map O.im)))
section
variable {X : Cx} {W : WX} {a : Expr} {x : Str} {p pos : Pos}
end
end DL

/-! DMH: written constants, defaults, isinstance of own classes. -/
namespace DL
open PySem PySem.Spec PyProof.Rows L2 Evl
/-! ### what the written part holds -/
def WR (K : PySem.W.Frag) (d : D) (u : Value) : Prop := ∃ v, RelV v u ∧ ∀ (k : KB) (F : Hp), k.K = K → Rep k F d v
def WRs (K : PySem.W.Frag) (ds : List D) (us : List Value) : Prop := ∃ vs, Vals vs us ∧ ∀ (k : KB) (F : Hp), k.K = K → Reps k F ds vs
section
variable {K : PySem.W.Frag}
theorem WR.int {i : Int} {t : Tok} : WR K (.int i) (.int i t) := ⟨.int i, ⟨t, rfl⟩, fun _ _ _ => rfl⟩
theorem WR.str {i : Str} {t : Tok} : WR K (.str i) (.str i t) := ⟨.str i, ⟨t, rfl⟩, fun _ _ _ => rfl⟩
theorem WR.non : WR K .non .none := ⟨.non, rfl, fun _ _ _ => rfl⟩
theorem WR.bl {b : Bool} : WR K (.bl b) (.bool b) := ⟨.bl b, rfl, fun _ _ _ => rfl⟩
theorem WR.adr {C : Addr} : WR K (.adr C) (.ref C) := ⟨.ref C, rfl, fun _ _ _ => rfl⟩
theorem WRs.nil : WRs K [] [] := ⟨[], .nil, fun _ _ _ => rfl⟩
theorem WRs.cons {d : D} {ds : List D} {u : Value} {us : List Value} (h : WR K d u) (r : WRs K ds us) : WRs K (d :: ds) (u :: us) := by
  obtain ⟨v, h1, h2⟩ := h
  obtain ⟨vs, r1, r2⟩ := r
  exact ⟨v :: vs, .cons h1 r1, fun k F e => ⟨v, vs, rfl, h2 k F e, r2 k F e⟩⟩
theorem WR.tup {T : Addr} {od : Option Addr} {us : List Value} {n : Nat} {sl : Array (Option Value)} {ds : List D} (l : K.lookup T = some ⟨.type "tuple", od, .seq us.toArray n, sl⟩) (r : WRs K ds us) (hz : us.length ≤ sizeLine := by decide +kernel) : WR K (.tup ds) (.ref T) := by
  obtain ⟨vs, r1, r2⟩ := r
  refine ⟨.ref T, rfl, fun k F e => ⟨T, vs, rfl, .inr ⟨_, us.toArray, n, by rw [e]; exact l, rfl, rfl, by simpa using hz, by simpa using r1⟩, r2 k F e⟩⟩
/-- a def's defaults: the ones behind the first j -/
def DB (K : PySem.W.Frag) (fd : FuncData) (ps : List Str) (dd : List D) : Prop := ∃ (ds : List Value) (dvs : List V), Binds K fd ps ds ∧ Vals dvs ds ∧ (∀ k : KB, k.K = K → Dfl k dd dvs) ∧ ds.length = dd.length
theorem db0 {fd : FuncData} {ps : List Str} (b : Binds K fd ps []) : DB K fd ps [] := ⟨[], [], b, .nil, fun _ _ _ => rfl, rfl⟩
end
section
variable {X : Cx} {W : WX} {pos p apos : Pos} {x m : Str} {a : Expr} {es : List Expr}
/-- a written constant of the module -/
theorem di_g {d : D} (hg : Gl X x) (hm : ∃ u, X.mg x = some u ∧ WR X.K d u) (hd : (x == ("__debug__" : Str)) = false := by decide) : DI X W (.Name x pos) (dpure d) := by
  obtain ⟨u, hm, v, h1, h2⟩ := hm
  exact di_c (pe_glob (v := v) hg hm h1 hd) fun F => h2 _ F rfl
structure IsF (K : PySem.W.Frag) (C : Addr) : Prop where
  cls : Cls K C
  cc : PySem.W.findIn K (.ref C) "__class__" = some (some (.builtin "object.__class__"))
  cg : PySem.W.specialIn K (.builtin "object.__class__") "__get__" = some (some (.builtin "getset_descriptor.__get__"))
  ct : PySem.W.takesIn K (.builtin "object.__class__") = some true
  mr : PySem.W.mroIn K C (.type "object") = some true
  own : PySem.W.kitOne K (.ref C) (.ref C) = some true
  tup : PySem.W.kitOne K (.type "tuple") (.ref C) = some false
end
end DL

/-! DMI: data that compares as it is written. -/
namespace DL
open PySem PySem.Spec PyProof.Rows L2 Evl
mutual
def plP : PyData → Bool
  | .none => true
  | .bool _ => false
  | .int _ => true
  | .str _ => true
  | .list xs => plPs xs
  | .tuple xs => plPs xs
  | .dict _ => false
def plPs : List PyData → Bool
  | [] => true
  | x :: xs => plP x && plPs xs
end
mutual
theorem eqv_pl : ∀ p q : PyData, plP p = true → plP q = true → (PyData.eqv p q = true ↔ p = q)
  | .none, .none, _, _ => by simp [PyData.eqv]
  | .none, .int _, _, _ => by simp [PyData.eqv]
  | .none, .str _, _, _ => by simp [PyData.eqv]
  | .none, .list _, _, _ => by simp [PyData.eqv]
  | .none, .tuple _, _, _ => by simp [PyData.eqv]
  | .int _, .none, _, _ => by simp [PyData.eqv]
  | .int i, .int j, _, _ => by simp [PyData.eqv]
  | .int _, .str _, _, _ => by simp [PyData.eqv]
  | .int _, .list _, _, _ => by simp [PyData.eqv]
  | .int _, .tuple _, _, _ => by simp [PyData.eqv]
  | .str _, .none, _, _ => by simp [PyData.eqv]
  | .str _, .int _, _, _ => by simp [PyData.eqv]
  | .str x, .str y, _, _ => by simp [PyData.eqv]
  | .str _, .list _, _, _ => by simp [PyData.eqv]
  | .str _, .tuple _, _, _ => by simp [PyData.eqv]
  | .list _, .none, _, _ => by simp [PyData.eqv]
  | .list _, .int _, _, _ => by simp [PyData.eqv]
  | .list _, .str _, _, _ => by simp [PyData.eqv]
  | .list xs, .list ys, h, k => by
    rw [PyData.eqv, eqvs_pl xs ys h k]
    exact ⟨fun e => by rw [e], fun e => by injection e⟩
  | .list _, .tuple _, _, _ => by simp [PyData.eqv]
  | .tuple _, .none, _, _ => by simp [PyData.eqv]
  | .tuple _, .int _, _, _ => by simp [PyData.eqv]
  | .tuple _, .str _, _, _ => by simp [PyData.eqv]
  | .tuple _, .list _, _, _ => by simp [PyData.eqv]
  | .tuple xs, .tuple ys, h, k => by
    rw [PyData.eqv, eqvs_pl xs ys h k]
    exact ⟨fun e => by rw [e], fun e => by injection e⟩
  | .bool _, _, h, _ => by cases h
  | .dict _, _, h, _ => by cases h
  | _, .bool _, _, h => by cases h
  | _, .dict _, _, h => by cases h
theorem eqvs_pl : ∀ ps qs : List PyData, plPs ps = true → plPs qs = true → (PyData.eqvAll ps qs = true ↔ ps = qs)
  | [], [], _, _ => by simp [PyData.eqvAll]
  | [], _ :: _, _, _ => by simp [PyData.eqvAll]
  | _ :: _, [], _, _ => by simp [PyData.eqvAll]
  | x :: xs, y :: ys, h, k => by
    have h' := Bool.and_eq_true_iff.mp (show (plP x && plPs xs) = true from h)
    have k' := Bool.and_eq_true_iff.mp (show (plP y && plPs ys) = true from k)
    rw [PyData.eqvAll, Bool.and_eq_true, eqv_pl x y h'.1 k'.1, eqvs_pl xs ys h'.2 k'.2]
    exact ⟨fun e => by rw [e.1, e.2], fun e => by injection e with e1 e2; exact ⟨e1, e2⟩⟩
end
-- plain data, as deep as n
mutual
def nice : Nat → D → Bool
  | _, .non => true
  | _, .int _ => true
  | _, .str x => PyData.strOk x
  | n + 1, .tup ds => nices n ds
  | n + 1, .lst ds => nices n ds
  | _, _ => false
def nices : Nat → List D → Bool
  | _, [] => true
  | n, d :: ds => nice n d && nices n ds
end
theorem nices_iff {n : Nat} : ∀ {ds : List D}, nices n ds = true ↔ ∀ d ∈ ds, nice n d = true
  | [] => by simp [nices]
  | d :: ds => by rw [nices, Bool.and_eq_true, nices_iff (ds := ds)]; simp
mutual
theorem nice_py : ∀ (n : Nat) (d : D), nice n d = true → ∃ p, d.py = some p ∧ plP p = true ∧ p.canLay0 = true ∧ p.depth ≤ n
  | n, .non, _ => ⟨_, rfl, rfl, rfl, Nat.zero_le _⟩
  | n, .int i, _ => ⟨_, rfl, rfl, rfl, Nat.zero_le _⟩
  | n, .str x, h => ⟨_, rfl, rfl, by simpa [PyData.canLay0, nice] using h, Nat.zero_le _⟩
  | n + 1, .tup ds, h => by
    obtain ⟨ps, h1, h2, h3, h4⟩ := nices_py n ds (by simpa [nice] using h)
    refine ⟨.tuple ps, by simp [D.py, h1], by simpa [plP] using h2, by simpa [PyData.canLay0] using h3, ?_⟩
    simp only [PyData.depth]
    omega
  | n + 1, .lst ds, h => by
    obtain ⟨ps, h1, h2, h3, h4⟩ := nices_py n ds (by simpa [nice] using h)
    refine ⟨.list ps, by simp [D.py, h1], by simpa [plP] using h2, by simpa [PyData.canLay0] using h3, ?_⟩
    simp only [PyData.depth]
    omega
  | 0, .tup _, h => by simp [nice] at h
  | 0, .lst _, h => by simp [nice] at h
  | _, .any, h => by simp [nice] at h
  | _, .bl _, h => by simp [nice] at h
  | _, .ty _, h => by simp [nice] at h
  | _, .adr _, h => by simp [nice] at h
  | _, .exc _ _ _ _ _, h => by simp [nice] at h
  | _, .wtp _, h => by simp [nice] at h
  | _, .scr _, h => by simp [nice] at h
  | _, .dct _ _, h => by simp [nice] at h
  | _, .ins _ _ _, h => by simp [nice] at h
theorem nices_py : ∀ (n : Nat) (ds : List D), nices n ds = true → ∃ ps, D.pys ds = some ps ∧ plPs ps = true ∧ PyData.canLayAll0 ps = true ∧ PyData.depthAll ps ≤ n
  | n, [], _ => ⟨[], by simp [D.pys], rfl, by simp [PyData.canLayAll0], by simp [PyData.depthAll]⟩
  | n, d :: ds, h => by
    have h' := Bool.and_eq_true_iff.mp (show (nice n d && nices n ds) = true by simpa [nices] using h)
    obtain ⟨p, h1, h2, h3, h4⟩ := nice_py n d h'.1
    obtain ⟨ps, k1, k2, k3, k4⟩ := nices_py n ds h'.2
    refine ⟨p :: ps, by simp [D.pys, h1, k1], by simp [plPs, h2, k2], by simp [PyData.canLayAll0, h3, k3], ?_⟩
    simp only [PyData.depthAll]
    omega
end
mutual
theorem py_inj : ∀ (n m : Nat) (d e : D) (p : PyData), nice n d = true → nice m e = true → d.py = some p → e.py = some p → d = e
  | n, m, .non, e, p, h, k, h1, k1 => by
    have e0 : PyData.none = p := Option.some.inj (by simpa [D.py] using h1)
    subst e0
    cases e with
    | non => rfl
    | tup ds => simp [D.py] at k1
    | lst ds => simp [D.py] at k1
    | int i => simp [D.py] at k1
    | str i => simp [D.py] at k1
    | _ => simp [nice] at k
  | n, m, .int i, e, p, h, k, h1, k1 => by
    have e0 : PyData.int i = p := Option.some.inj (by simpa [D.py] using h1)
    subst e0
    cases e with
    | non => simp [D.py] at k1
    | tup ds => simp [D.py] at k1
    | lst ds => simp [D.py] at k1
    | int i => simp [D.py] at k1; rw [k1]
    | str i => simp [D.py] at k1
    | _ => simp [nice] at k
  | n, m, .str i, e, p, h, k, h1, k1 => by
    have e0 : PyData.str i = p := Option.some.inj (by simpa [D.py] using h1)
    subst e0
    cases e with
    | non => simp [D.py] at k1
    | tup ds => simp [D.py] at k1
    | lst ds => simp [D.py] at k1
    | int i => simp [D.py] at k1
    | str i => simp [D.py] at k1; rw [k1]
    | _ => simp [nice] at k
  | n + 1, m, .tup ds, e, p, h, k, h1, k1 => by
    obtain ⟨ps, hp, rfl⟩ := Option.map_eq_some_iff.mp (show (D.pys ds).map PyData.tuple = some p by simpa [D.py] using h1)
    cases e with
    | tup es =>
      obtain ⟨qs, hq, e2⟩ := Option.map_eq_some_iff.mp (show (D.pys es).map PyData.tuple = some (.tuple ps) by simpa [D.py] using k1)
      injection e2 with e2
      subst e2
      cases m with
      | zero => simp [nice] at k
      | succ m => rw [pys_inj n m ds es qs (by simpa [nice] using h) (by simpa [nice] using k) hp hq]
    | non => simp [D.py] at k1
    | lst es => simp [D.py] at k1
    | int i => simp [D.py] at k1
    | str i => simp [D.py] at k1
    | _ => simp [nice] at k
  | n + 1, m, .lst ds, e, p, h, k, h1, k1 => by
    obtain ⟨ps, hp, rfl⟩ := Option.map_eq_some_iff.mp (show (D.pys ds).map PyData.list = some p by simpa [D.py] using h1)
    cases e with
    | lst es =>
      obtain ⟨qs, hq, e2⟩ := Option.map_eq_some_iff.mp (show (D.pys es).map PyData.list = some (.list ps) by simpa [D.py] using k1)
      injection e2 with e2
      subst e2
      cases m with
      | zero => simp [nice] at k
      | succ m => rw [pys_inj n m ds es qs (by simpa [nice] using h) (by simpa [nice] using k) hp hq]
    | non => simp [D.py] at k1
    | tup es => simp [D.py] at k1
    | int i => simp [D.py] at k1
    | str i => simp [D.py] at k1
    | _ => simp [nice] at k
  | 0, _, .tup _, _, _, h, _, _, _ => by simp [nice] at h
  | 0, _, .lst _, _, _, h, _, _, _ => by simp [nice] at h
  | _, _, .any, _, _, h, _, _, _ => by simp [nice] at h
  | _, _, .bl _, _, _, h, _, _, _ => by simp [nice] at h
  | _, _, .ty _, _, _, h, _, _, _ => by simp [nice] at h
  | _, _, .adr _, _, _, h, _, _, _ => by simp [nice] at h
  | _, _, .exc _ _ _ _ _, _, _, h, _, _, _ => by simp [nice] at h
  | _, _, .wtp _, _, _, h, _, _, _ => by simp [nice] at h
  | _, _, .scr _, _, _, h, _, _, _ => by simp [nice] at h
  | _, _, .dct _ _, _, _, h, _, _, _ => by simp [nice] at h
  | _, _, .ins _ _ _, _, _, h, _, _, _ => by simp [nice] at h
theorem pys_inj : ∀ (n m : Nat) (ds es : List D) (ps : List PyData), nices n ds = true → nices m es = true → D.pys ds = some ps → D.pys es = some ps → ds = es
  | n, m, [], [], ps, _, _, _, _ => rfl
  | n, m, [], e :: es, ps, h, k, h1, k1 => by
    have e0 : [] = ps := Option.some.inj (by simpa [D.pys] using h1)
    subst e0
    unfold D.pys at k1
    cases h2 : e.py with
    | none => rw [h2] at k1; cases k1
    | some p =>
      cases h3 : D.pys es with
      | none => rw [h2, h3] at k1; cases k1
      | some q => rw [h2, h3] at k1; cases k1
  | n, m, d :: ds, [], ps, h, k, h1, k1 => by
    have e0 : [] = ps := Option.some.inj (by simpa [D.pys] using k1)
    subst e0
    unfold D.pys at h1
    cases h2 : d.py with
    | none => rw [h2] at h1; cases h1
    | some p =>
      cases h3 : D.pys ds with
      | none => rw [h2, h3] at h1; cases h1
      | some q => rw [h2, h3] at h1; cases h1
  | n, m, d :: ds, e :: es, ps, h, k, h1, k1 => by
    have h' := Bool.and_eq_true_iff.mp (show (nice n d && nices n ds) = true by simpa [nices] using h)
    have k' := Bool.and_eq_true_iff.mp (show (nice m e && nices m es) = true by simpa [nices] using k)
    unfold D.pys at h1 k1
    cases a1 : d.py with
    | none => rw [a1] at h1; cases h1
    | some p =>
      cases a2 : D.pys ds with
      | none => rw [a1, a2] at h1; cases h1
      | some q =>
        cases b1 : e.py with
        | none => rw [b1] at k1; cases k1
        | some p' =>
          cases b2 : D.pys es with
          | none => rw [b1, b2] at k1; cases k1
          | some q' =>
            rw [a1, a2] at h1
            rw [b1, b2] at k1
            have e1 : p :: q = ps := Option.some.inj h1
            have e2 : p' :: q' = ps := Option.some.inj k1
            subst e1
            injection e2 with e2 e3
            subst e2
            subst e3
            rw [py_inj n m d e p' h'.1 k'.1 a1 b1, pys_inj n m ds es q' h'.2 k'.2 a2 b2]
end
theorem shaped_nice {n : Nat} {p : PyData} (h : p.canLay0 = true) (hd : p.depth ≤ n) (hn : n ≤ 64) : SeqAt.shaped p = true := by
  unfold SeqAt.shaped
  rw [h, decide_eq_true (Nat.le_trans hd hn)]
  rfl
/-- two plain things compared -/
theorem eqD_nice {n m : Nat} {x y : D} (hx : nice n x = true) (hy : nice m y = true) (hn : n ≤ 64 := by decide) (hm : m ≤ 64 := by decide) : ∃ b, eqD x y = some b ∧ (b = true ↔ x = y) := by
  obtain ⟨p, h1, h2, h3, h4⟩ := nice_py n x hx
  obtain ⟨q, k1, k2, k3, k4⟩ := nice_py m y hy
  refine ⟨PyData.eqv p q, ?_, ?_⟩
  · unfold eqD
    rw [h1, k1]
    dsimp only
    rw [shaped_nice h3 h4 hn, shaped_nice k3 k4 hm]
    rfl
  · rw [eqv_pl p q h2 k2]
    exact ⟨fun e => by subst e; exact py_inj n m x y p hx hy h1 k1, fun e => by subst e; rw [h1] at k1; exact Option.some.inj k1⟩
theorem pys_mem : ∀ {ds : List D} {ps : List PyData}, D.pys ds = some ps → (∀ d ∈ ds, ∃ p ∈ ps, d.py = some p) ∧ ∀ p ∈ ps, ∃ d ∈ ds, d.py = some p
  | [], ps, h => by
    have e0 : [] = ps := Option.some.inj (by simpa [D.pys] using h)
    subst e0
    exact ⟨fun d m => (nomatch m), fun p m => (nomatch m)⟩
  | d :: ds, ps, h => by
    unfold D.pys at h
    cases a1 : d.py with
    | none => rw [a1] at h; cases h
    | some p =>
      cases a2 : D.pys ds with
      | none => rw [a1, a2] at h; cases h
      | some q =>
        rw [a1, a2] at h
        cases h
        obtain ⟨h1, h2⟩ := pys_mem a2
        refine ⟨fun e m => ?_, fun r m => ?_⟩
        · rcases List.mem_cons.mp m with rfl | m
          · exact ⟨p, List.mem_cons_self, a1⟩
          · obtain ⟨r, m1, m2⟩ := h1 e m
            exact ⟨r, List.mem_cons_of_mem _ m1, m2⟩
        · rcases List.mem_cons.mp m with rfl | m
          · exact ⟨d, List.mem_cons_self, a1⟩
          · obtain ⟨e, m1, m2⟩ := h2 r m
            exact ⟨e, List.mem_cons_of_mem _ m1, m2⟩
theorem inD_nice {n : Nat} {x : D} {ds : List D} (hx : nice n x = true) (hy : nices n ds = true) (hn : n < 64 := by decide) : ∃ b, inD x (.lst ds) = some b ∧ (b = true ↔ x ∈ ds) := by
  obtain ⟨p, h1, h2, h3, h4⟩ := nice_py n x hx
  obtain ⟨ps, k1, k2, k3, k4⟩ := nices_py n ds hy
  refine ⟨ps.any fun z => PyData.eqv z p, ?_, ?_⟩
  · show (match x.py, D.pys ds with
      | some p, some ps => if SeqAt.shaped p && SeqAt.shaped (.list ps) then some (ps.any fun z => PyData.eqv z p) else none
      | _, _ => none) = _
    rw [h1, k1]
    dsimp only
    rw [shaped_nice h3 h4 (by omega), shaped_nice (n := n + 1) (p := .list ps) (by simpa [PyData.canLay0] using k3) (by simp only [PyData.depth]; omega) (by omega)]
    rfl
  · rw [List.any_eq_true]
    obtain ⟨m1, m2⟩ := pys_mem k1
    have pls : ∀ q ∈ ps, plP q = true := by
      have : ∀ {ps : List PyData}, plPs ps = true → ∀ q ∈ ps, plP q = true := by
        intro ps
        induction ps with
        | nil => intro _ q m; cases m
        | cons a as ih =>
          intro h q m
          have h' := Bool.and_eq_true_iff.mp (show (plP a && plPs as) = true from h)
          rcases List.mem_cons.mp m with rfl | m
          · exact h'.1
          · exact ih h'.2 q m
      exact this k2
    constructor
    · rintro ⟨q, mq, e⟩
      rw [eqv_pl q p (pls q mq) h2] at e
      subst e
      obtain ⟨d, md, hd⟩ := m2 q mq
      rw [py_inj n n x d q hx (nices_iff.mp hy d md) h1 hd]
      exact md
    · intro mx
      obtain ⟨q, mq, e⟩ := m1 x mx
      rw [h1] at e
      cases e
      exact ⟨p, mq, (eqv_pl p p h2 h2).mpr rfl⟩
theorem notinD_nice {n : Nat} {x : D} {ds : List D} (hx : nice n x = true) (hy : nices n ds = true) (hn : n < 64 := by decide) : ∃ b, notinD x (.lst ds) = some b ∧ (b = true ↔ x ∉ ds) := by
  obtain ⟨b, h1, h2⟩ := inD_nice hx hy hn
  refine ⟨!b, by show (inD x (.lst ds)).map (!·) = _; rw [h1]; rfl, ?_⟩
  rw [Bool.not_eq_true', ← Bool.not_eq_true, h2]
end DL

/-! DMJ: rules that step through dicts, objects, places. -/
namespace DL
open PySem PySem.Spec PyProof.Rows L2 Evl
section
variable {α β : Type} {q : Bool} {e : Env} {P : α → Env → Prop} {PR : Rv → Env → Prop} {PD : D → Env → Prop} {PO : O → Env → Prop} {PB : Bool → Env → Prop}
theorem w_dixX {d : Den O} {di : Den D} (p : EW q d e fun o e1 => EW true di e1 fun i e2 => OP (elemOX o i) fun x => PO x e2) : EW q (dixX d di) e PO := by
  unfold dixX
  simp only [ew_bind, ew_lift, ew_dq]
  exact p
theorem w_getX {d : Den O} {das : Den (List D)} (p : EW q d e fun o e1 => isDO o = true ∧ EW true das e1 fun as e2 => OP (match as with
  | [k] => getOX o k (.im .non)
  | [k, x] => getOX o k (.im x)
  | _ => none) fun x => PO x e2) : EW q (dgetX d das) e PO := by
  unfold dgetX
  rw [ew_bind]
  refine ew_imp p fun o e1 h => ?_
  rw [if_pos h.1]
  simp only [ew_bind, ew_lift, ew_dq]
  exact h.2
theorem w_listX {d : Den O} (p : EW q d e fun o e1 => OP (keysOX o) fun ds => PR (.new (.lst (ds.map O.im))) e1) : EW q (dlistX d) e PR := by
  unfold dlistX
  rw [ew_bind]
  refine ew_imp p fun o e1 h => ew_lift.mpr ?_
  obtain ⟨z, hz, p⟩ := h
  exact ⟨_, by rw [hz]; rfl, p⟩
theorem w_sorted {d : Den O} (p : EW q d e fun o e1 => OP (lsqV o) fun ds => OP (sortD ds) fun es => PR (.new (.lst (es.map O.im))) e1) : EW q (dsorted d) e PR := by
  unfold dsorted
  rw [ew_bind]
  refine ew_imp p fun o e1 h => ew_lift.mpr ?_
  obtain ⟨z, hz, y, hy, p⟩ := h
  exact ⟨_, by rw [hz]; show ((sortD z).map _) = _; rw [hy]; rfl, p⟩
theorem w_un {g : D → Option D} {d : Den D} (p : EW q d e fun x e1 => OP (g x) fun z => PD z e1) : EW q (dun g d) e PD := by
  unfold dun
  simp only [ew_bind, ew_lift]
  exact p
theorem w_sqC {C : Addr} {fld : Str} {d : Den D} {PL : List D → Env → Prop} (p : EW q d e fun x e1 => OP (match insSeq C fld x with
  | some ds => some ds
  | none => seqD x) fun ds => PL ds e1) : EW q (sqC C fld d) e PL := by
  unfold sqC
  simp only [ew_bind, ew_lift]
  exact p
theorem op_fldI {C : Addr} {f : Str} {ns : List Str} {ds : List D} {d : D} {P : O → Prop} (h : (ns.zip ds).lookup f = some d) (p : P (.im d)) : OP (fldO [C] f (.im (.ins C ns ds))) P := ⟨_, by
  show (if C ∈ [C] then ((ns.zip ds).lookup f).map O.im else none) = _
  rw [if_pos (List.mem_singleton.mpr rfl), h]
  rfl, p⟩
end
section
variable {q : Bool} {e : Env} {N : Env → Prop} {R : Rv → Env → Prop} {B C : Env → Prop}
theorem plO_slot {i : Nat} {e : Env} {b : Bool} {t : O} (h : lk e i = some (b, t)) (hk : t.kids.isSome = true) : plO (i, []) e = some t := by
  unfold plO
  rw [lk_some h]
  show (if t.kids.isSome = true then some t else none) = _
  rw [if_pos hk]
theorem plPut_slot {i : Nat} {e : Env} {b : Bool} {t o : O} (h : lk e i = some (b, t)) : plPut (i, []) e o = e.set i (some (b, o)) := by
  unfold plPut
  rw [lk_some h]
  rfl
theorem w_dplVar {P : Pl → Env → Prop} {i : Nat} {b : Bool} {t : O} (h : lk e i = some (b, t)) (hk : t.kids.isSome = true) (p : P (i, []) e) : EW q (dplVar i) e P := by
  unfold EW dplVar
  rw [plO_slot h hk]
  exact ⟨_, _, _, rfl, fun _ => rfl, p⟩
/-- for over a list, a tuple, an instance -/
def forCP (C : Addr) (fld : Str) (r : Rv) (bind : D → Env → Option Env) (body : SDen) (e : Env) (A : Aft) : Prop := match r with
  | .im d => OP (match insSeq C fld d with
    | some ds => some ds
    | none => seqD d) fun ds => SW (sloop bind body ds) e A
  | .new o => OP (seqD o.flat) fun ds => SW (sloop bind body ds) e A
  | .bor i _ => match lk e i with
    | some (_, o) => OP (seqO o) fun ds => SW (slend i (sloop bind body ds)) e A
    | none => False
theorem w_forC {D : Addr} {fld : Str} {it : Den Rv} {bind : DL.D → Env → Option Env} {body : SDen} (p : EW false it e fun r e' => forCP D fld r bind body e' ⟨N, R, B, C⟩) : SW (sforC D fld it bind body) e ⟨N, R, B, C⟩ := by
  unfold sforC
  rw [sw_bind]
  refine ew_imp p fun r e' h => ?_
  unfold forCP at h
  unfold SW
  cases r with
  | im d =>
    obtain ⟨z, hz, p⟩ := h
    dsimp only
    cases h2 : insSeq D fld d with
    | none => rw [h2] at hz; dsimp only at hz ⊢; rw [hz]; exact p
    | some ds => rw [h2] at hz; cases hz; exact p
  | new d => obtain ⟨z, hz, p⟩ := h; dsimp only; rw [hz]; exact p
  | bor i x =>
    dsimp only at h ⊢
    cases h2 : lk e' i with
    | none => rw [h2] at h; exact False.elim h
    | some y =>
      obtain ⟨b, y⟩ := y
      rw [h2] at h
      obtain ⟨z, hz, p⟩ := h
      rw [lk_some h2]
      dsimp only
      rw [hz]
      exact p
end
section
variable {q : Bool} {e : Env}
/-- a comprehension whose items are pictures E b of b's that R tells -/
theorem w_compE {γ δ : Type} {src : Den (List D)} {bind : D → Env → Option Env} {elt : Den Rv} {vs : List Nat} {P : Rv → Env → Prop} (l : List γ) (g : γ → D) (E : δ → O) (Rl : γ → δ → Prop)
    (p : EW q src e fun ds e' => ds = l.map g ∧ (wiped e' vs = true ∧ restE e' (wipeE e' vs) vs = e') ∧ l.length ≤ sizeLine ∧ (∀ a ∈ l, OP (bind (g a) (wipeE e' vs)) fun e1 => EW q elt e1 fun rv e3 => rvP rv e3 fun o e4 => (∃ b, o = E b ∧ Rl a b) ∧ wipeE e4 vs = wipeE e' vs) ∧
      ∀ bs : List δ, bs.length = l.length → (∀ (i : Nat) a b, l[i]? = some a → bs[i]? = some b → Rl a b) → P (.new (.lst (bs.map E))) e') : EW q (dcomp src bind (dpure true) elt vs) e P := by
  obtain ⟨m, e', ds, k1, k2, rfl, k3, k4, k5, k6⟩ := p
  unfold dcomp
  rw [ew_bind]
  refine ⟨m, e', l.map g, k1, k2, ?_⟩
  have key : ∀ {l : List γ} {acc : List O}, acc.length + l.length ≤ sizeLine → (∀ a ∈ l, OP (bind (g a) (wipeE e' vs)) fun e1 => EW q elt e1 fun rv e3 => rvP rv e3 fun o e4 => (∃ b, o = E b ∧ Rl a b) ∧ wipeE e4 vs = wipeE e' vs) →
      ∃ (bs : List δ) (m : Bool), bs.length = l.length ∧ (∀ (i : Nat) a b, l[i]? = some a → bs[i]? = some b → Rl a b) ∧ cloop bind (dpure true) elt vs (l.map g) acc (wipeE e' vs) = some (.ok m (wipeE e' vs) (acc ++ bs.map E)) ∧ (q = true → m = false) := by
    intro l
    induction l with
    | nil => intro acc _ _; exact ⟨[], false, rfl, fun i a b h => (by simp at h), by rw [List.map_nil, List.map_nil, List.append_nil]; rfl, fun _ => rfl⟩
    | cons a l ih =>
      intro acc hl hh
      rw [List.length_cons] at hl
      obtain ⟨e1, h1, m2, e3, rv, h4, hm2, h5⟩ := hh a List.mem_cons_self
      obtain ⟨m3, e4, o, h6, _, ⟨b, hf, hR⟩, he⟩ := w_rvO (q := false) h5
      obtain ⟨bs, m, hbl, hbR, hc, hm⟩ := ih (acc := acc ++ [o]) (by rw [List.length_append]; show acc.length + 1 + l.length ≤ sizeLine; omega) fun x hx => hh x (List.mem_cons_of_mem _ hx)
      refine ⟨b :: bs, false || m2 || m, by rw [List.length_cons, List.length_cons, hbl], fun i x y hx hy => ?_, ?_, fun z => by rw [hm2 z, hm z]; rfl⟩
      · cases i with
        | zero =>
          have e1 : a = x := by simpa using hx
          have e2 : b = y := by simpa using hy
          rw [← e1, ← e2]
          exact hR
        | succ i => exact hbR i x y (by simpa using hx) (by simpa using hy)
      · rw [List.map_cons]
        unfold cloop
        rw [h1]
        dsimp only [dpure]
        rw [h4]
        dsimp only
        rw [h6]
        dsimp only
        rw [if_pos (by omega), he, hc, hf, List.append_assoc]
        rfl
  obtain ⟨bs, m, hbl, hbR, hc, hm⟩ := key (acc := []) (by simpa using k4) k5
  refine ⟨m, e', _, ?_, hm, k6 bs hbl hbR⟩
  dsimp only
  rw [if_pos k3.1, hc]
  dsimp only
  rw [k3.2]
  rfl
/-- a comprehension with a condition -/
theorem w_compF {γ : Type} {src : Den (List D)} {bind : D → Env → Option Env} {tt : Den Bool} {elt : Den Rv} {vs : List Nat} {P : Rv → Env → Prop} (l : List γ) (g : γ → D) (c : γ → Bool) (h : γ → O)
    (p : EW q src e fun ds e' => ds = l.map g ∧ (wiped e' vs = true ∧ restE e' (wipeE e' vs) vs = e') ∧ l.length ≤ sizeLine ∧ (∀ a ∈ l, OP (bind (g a) (wipeE e' vs)) fun e1 => EW q tt e1 fun b e2 => BR b (c a = true ∧ EW q elt e2 fun rv e3 => rvP rv e3 fun o e4 => o = h a ∧ wipeE e4 vs = wipeE e' vs) (c a = false ∧ wipeE e2 vs = wipeE e' vs)) ∧
      P (.new (.lst ((l.filter c).map h))) e') : EW q (dcomp src bind tt elt vs) e P := by
  obtain ⟨m, e', ds, k1, k2, rfl, k3, k4, k5, k6⟩ := p
  unfold dcomp
  rw [ew_bind]
  refine ⟨m, e', l.map g, k1, k2, ?_⟩
  have key : ∀ {l : List γ} {acc : List O}, acc.length + l.length ≤ sizeLine → (∀ a ∈ l, OP (bind (g a) (wipeE e' vs)) fun e1 => EW q tt e1 fun b e2 => BR b (c a = true ∧ EW q elt e2 fun rv e3 => rvP rv e3 fun o e4 => o = h a ∧ wipeE e4 vs = wipeE e' vs) (c a = false ∧ wipeE e2 vs = wipeE e' vs)) →
      ∃ m : Bool, cloop bind tt elt vs (l.map g) acc (wipeE e' vs) = some (.ok m (wipeE e' vs) (acc ++ (l.filter c).map h)) ∧ (q = true → m = false) := by
    intro l
    induction l with
    | nil => intro acc _ _; exact ⟨false, by rw [List.filter_nil, List.map_nil, List.map_nil, List.append_nil]; rfl, fun _ => rfl⟩
    | cons a l ih =>
      intro acc hl hh
      rw [List.length_cons] at hl
      obtain ⟨e1, h1, m1, e2, b, h2, hm1, h3⟩ := hh a List.mem_cons_self
      rw [List.map_cons]
      unfold cloop
      rw [h1]
      dsimp only
      rw [h2]
      cases b with
      | false =>
        obtain ⟨hf, he⟩ := h3.2 rfl
        obtain ⟨m, hc, hm⟩ := ih (acc := acc) (by omega) fun x hx => hh x (List.mem_cons_of_mem _ hx)
        dsimp only
        rw [he, hc, List.filter_cons_of_neg (by rw [hf]; exact Bool.false_ne_true)]
        exact ⟨m1 || m, rfl, fun z => by rw [hm1 z, hm z]; rfl⟩
      | true =>
        obtain ⟨hf, m2, e3, rv, h4, hm2, h5⟩ := h3.1 rfl
        obtain ⟨m3, e4, o, h6, _, ho, he⟩ := w_rvO (q := false) h5
        obtain ⟨m, hc, hm⟩ := ih (acc := acc ++ [o]) (by rw [List.length_append]; show acc.length + 1 + l.length ≤ sizeLine; omega) fun x hx => hh x (List.mem_cons_of_mem _ hx)
        dsimp only
        rw [h4]
        dsimp only
        rw [h6]
        dsimp only
        rw [if_pos (by omega), he, hc, List.filter_cons_of_pos hf, ho, List.append_assoc]
        exact ⟨m1 || m2 || m, rfl, fun z => by rw [hm1 z, hm2 z, hm z]; rfl⟩
  obtain ⟨m, hc, hm⟩ := key (acc := []) (by simpa using k4) k5
  refine ⟨m, e', _, ?_, hm, k6⟩
  dsimp only
  rw [if_pos k3.1, hc]
  dsimp only
  rw [k3.2]
  rfl
theorem lstV_map {γ : Type} (g : γ → D) (l : List γ) : lstV (.lst (l.map fun a => O.im (g a))) = some (l.map g) := by
  show ims (l.map fun a => O.im (g a)) = _
  induction l with
  | nil => rfl
  | cons a l ih => show (ims (l.map fun a => O.im (g a))).map _ = _; rw [ih]; rfl
theorem lsqV_map {γ : Type} (g : γ → D) (l : List γ) : lsqV (.lst (l.map fun a => O.im (g a))) = some (l.map g) := lstV_map g l
theorem seqO_map {γ : Type} (g : γ → D) (l : List γ) : seqO (.lst (l.map fun a => O.im (g a))) = some (l.map g) := lstV_map g l
theorem map_im {γ : Type} (g : γ → D) (l : List γ) : (l.map g).map O.im = l.map fun a => O.im (g a) := by rw [List.map_map]; rfl
/-- .. over a range -/
theorem rangeD_map (n : Nat) : rangeD 0 n = (List.range n).map fun (i : Nat) => D.int (i : Int) := by
  unfold rangeD
  congr 1
  funext i
  rw [Int.zero_add]
end
end DL

/-! DMK: x != y of own classes that have __eq__ alone. -/
namespace DL
open PySem PySem.Spec PyProof.Rows L2 Evl
section
variable {prog : Program} {w : World} {A : Around} {E : Value → Shared → Prop} {s : Shared} {K : PySem.W.Frag} {x C : Addr} {ox : Obj} {od : Option Obj} {name : Str}
end
section
variable {X : Cx} {C f : Addr} {k : Nat} {fn : FDen}
end
section
variable {X : Cx} {W : WX} {a b : Expr} {pos : Pos} {C f : Addr} {k : Nat} {fn : FDen} {da db : Den D}
end
end DL

/-! DML: bool(x); C.m(..) of a static method. -/
namespace DL
open PySem PySem.Spec PyProof.Rows L2 Evl
section
variable {prog : Program} {w : World} {A : Around} {E : Value → Shared → Prop} {s : Shared}
end
section
variable {X : Cx} {C f : Addr} {k : Nat} {fn : FDen}
end
section
variable {X : Cx} {W : WX} {a b : Expr} {pos p : Pos} {C f : Addr} {k : Nat} {fn : FDen} {da db : Den D} {x : Str}
end
/-! ### C.m(..), m a static method -/
structure SMet (K : PySem.W.Frag) (C : Addr) (m : Str) (p f : Addr) : Prop where
  rd : PySem.W.readsIn K C (.type "type") = true
  ga : PySem.W.specialIn K (.ref C) "__getattribute__" = some (some (.builtin "type.__getattribute__"))
  at_ : PySem.W.findCls K (.ref C) (.type "type") m = some (.get (.builtin "staticmethod.__get__") (.ref p) .none (.ref C))
  rc : ∃ rest, PySem.W.recIn K p "staticmethod" = some (.ref f :: rest)
  kp : PySem.W.keepIn K (.ref f) = true
section
variable {X : Cx} {CX : CXT} {k : Nat} {f C pp : Addr} {fd : FuncData} {ps : List Str} {sp : Sp} {E : L2.St → XK} {x m : Str} {p pos apos : Pos} {e : Expr} {es : List Expr} {t : TA}
end
section
variable {X : Cx} {W : WX} {a : Expr} {es : List Expr} {pos p apos : Pos} {x m : Str} {k : Nat} {f C pp : Addr} {fd : FuncData} {ps : List Str} {fn : FDen}
end
end DL

/-! DMM: list(o) of an own class whose __iter__ hands on a field's iterator; x.extend(y). -/
namespace DL
open PySem PySem.Spec PyProof.Rows L2 Evl
section
variable {X : Cx} {C f : Addr} {fld : Str}
/-- nothing tells its length -/
structure NoLen (K : PySem.W.Frag) (C : Addr) : Prop where
  len : PySem.W.findIn K (.ref C) "__len__" = some none
  hint : PySem.W.findIn K (.ref C) "__length_hint__" = some none
end
/-! ### what is read -/
section
variable {X : Cx} {W : WX} {a ex : Expr} {pos p : Pos} {C f : Addr} {fld : Str} {da : Den D} {x : Str}
end
/-! ### x.extend(y), y seen -/
theorem RE.pushes {K : KB} {c : Ctx} {F : Hp} {σ : L2.St} {e : Env} {ts : List (V × O)} {l : Addr} : ∀ (ds : List D) (zs xs : List V) {H : Hp} {os : List O}, Reps K F ds zs → H l = some (.lst xs) → RE K c F H σ e ((.ref l, .lst os) :: ts) →
    RE K c F (upd H l (.lst (xs ++ zs))) σ e ((.ref l, .lst (os ++ ds.map O.im)) :: ts)
  | [], zs, xs, H, os, hr, hl, R => by
    rw [show zs = [] from hr, List.append_nil, List.map_nil, List.append_nil]
    have : upd H l (.lst xs) = H := by
      funext b
      by_cases hb : b = l
      · rw [hb, upd_same, hl]
      · rw [upd_ne hb]
    rw [this]
    exact R
  | d :: ds, zs, xs, H, os, hr, hl, R => by
    obtain ⟨z, zr, rfl, h1, h2⟩ := hr
    obtain ⟨l', xs', el, hl', hlen, R2⟩ := ((R.imT h1).perm (List.Perm.swap _ _ _)).push
    cases el
    rw [hl] at hl'
    cases hl'
    have R3 := RE.pushes ds zr (xs ++ [z]) h2 upd_same R2
    rw [upd_upd, List.append_assoc, List.append_assoc] at R3
    exact R3
def sext (i : Nat) (dd : Den D) : SDen := fun e0 => match e0[i]? with
  | some (some (_, .lst _)) => sbind dd (fun d e => match d with
    | .lst ds => (match e[i]? with
      | some (some (b, .lst os)) => if os.length + ds.length ≤ sizeLine then some (.nx true (e.set i (some (b, .lst (os ++ ds.map O.im))))) else none
      | _ => none)
    | _ => none) e0
  | _ => none
section
variable {X : Cx} {W : WX} {a : Expr} {pos p : Pos}
theorem ds_ext {i : Nat} {x : Str} {dd : Den D} {apos px : Pos} (hx : PE X (.Name x px) (tVar i)) (h : DI X W a dd)
    (hpe : ∀ {t : TA}, PA X [a] t → PE X (.Call (.Attribute (.Name x px) "extend" apos) [a] [] p) (tBM X.B "list" rExtend (tVar i) t))
    (hs0 : starEach (a :: []) X.env = (false, eval a X.env) :: starEach [] X.env := by rfl) (hs : swapsWith (.Call (.Attribute (.Name x px) "extend" apos) [a] [] p) none pos.line X.env = pure false := by rfl) :
    DS X W (.Expr (.Call (.Attribute (.Name x px) "extend" apos) [a] [] p) pos) (sext i dd) :=
  ⟨ps_weak (ps_expr (hpe (pa_cons h.run pa_nil hs0)) hs) fun D0 σ H q => by
    obtain ⟨c, F, e, ts, R, r, hr, post⟩ := q
    unfold sext at hr
    cases he : e[i]? with
    | none => rw [he] at hr; cases hr
    | some s =>
      rw [he] at hr
      cases s with
      | none => cases hr
      | some s =>
        obtain ⟨b, o⟩ := s
        cases o with
        | lst os =>
          obtain ⟨v, fs, hv, l, xs, rr, ev, _, hl, _⟩ := R.slot he
          subst ev
          refine ⟨.ref l, hv, .inl ⟨rfl, xs, SqL.of hl⟩, c, F, e, ts, R, ?_⟩
          have q0 : AtS X.B W (sbind dd fun d e => match d with
            | .lst ds => (match e[i]? with
              | some (some (b, .lst os)) => if os.length + ds.length ≤ sizeLine then some (.nx true (e.set i (some (b, .lst (os ++ ds.map O.im))))) else none
              | _ => none)
            | _ => none) D0 c F σ e ts H := ⟨r, hr, post⟩
          refine q0.sbind (rel := relI) fun F1 H1 e1 d v ef hr1 q1 => ?_
          obtain ⟨r1, hr2, post1⟩ := q1
          obtain ⟨R1, hrep⟩ := hr1
          cases d with
          | lst ds =>
            dsimp only at hr2
            cases he1 : e1[i]? with
            | none => rw [he1] at hr2; cases hr2
            | some s =>
              rw [he1] at hr2
              cases s with
              | none => cases hr2
              | some s =>
                obtain ⟨b1, o1⟩ := s
                cases o1 with
                | lst os1 =>
                  dsimp only at hr2
                  split at hr2
                  · rename_i hz
                    cases hr2
                    obtain ⟨v1, fs1, hv1, l1, xs1, rr1, ev1, _, hl1, ho1⟩ := R1.slot he1
                    rw [hv] at hv1
                    cases hv1
                    cases ev1
                    obtain ⟨vl, hvl, hb1, R2⟩ := R1.out he1
                    rw [hv] at hvl
                    cases hvl
                    obtain ⟨bb, zs, rfl, hbz, hreps⟩ := id hrep
                    have R3 := RE.pushes ds zs xs1 hreps hl1 R2
                    refine ⟨l, bb, xs1, zs, rfl, rfl, hl1, R1.fh _ _ hbz, ?_, ?_⟩
                    · have e1 := hreps.length
                      have e2 := ho1.length
                      omega
                    · have hn : (e1.set i none)[i]? = some none := List.getElem?_set_self (List.getElem?_eq_some_iff.mp he1).1
                      have R4 := R3.inn (b := b1) hn hv hb1
                      rw [List.set_set] at R4
                      exact post1 F1 _ σ (Ex.refl _) (fun z => by cases z) R4
                  · cases hr2
                | _ => cases hr2
          | _ => cases hr2
        | _ => cases hr⟩
end
section
variable {e : Env} {N : Env → Prop} {R : Rv → Env → Prop} {B C : Env → Prop}
theorem w_ext {i : Nat} {dd : Den D} (h0 : ∃ b os, lk e i = some (b, .lst os)) (p : EW false dd e fun d e1 => ∃ b os ds, d = .lst ds ∧ lk e1 i = some (b, .lst os) ∧ os.length + ds.length ≤ sizeLine ∧ N (e1.set i (some (b, .lst (os ++ ds.map O.im))))) : SW (sext i dd) e ⟨N, R, B, C⟩ := by
  obtain ⟨b0, os0, h0⟩ := h0
  obtain ⟨m, e1, d, k1, k2, b, os, ds, rfl, h1, hz, hN⟩ := p
  unfold SW sext
  rw [lk_some h0]
  dsimp only
  unfold sbind
  rw [k1]
  dsimp only
  rw [lk_some h1]
  dsimp only
  rw [if_pos hz]
  exact ⟨_, rfl, hN⟩
end
/-! ### comparisons of own instances as tests -/
section
variable {X : Cx} {W : WX} {a b : Expr} {pos : Pos} {C f : Addr} {k : Nat} {fn : FDen} {da db : Den D}
end
end DL

/-! DMN: int(a text). -/
namespace DL
open PySem PySem.Spec PyProof.Rows L2 Evl
/-! ### one sign times a number -/
end DL

/-! DMO: while, and comprehensions whose items change the slots. -/
namespace DL
open PySem PySem.Spec PyProof.Rows L2 Evl
/-- while: at most k turns are left -/
theorem sw_while {t : Den Bool} {b : SDen} {A : Aft} (Iv : Nat → Env → Prop) (hs : ∀ k e', Iv k e' → EW false t e' fun c e2 => BR c (∃ j, j < k ∧ SW b e2 ⟨Iv j, A.R, A.N, Iv j⟩) (A.N e2)) :
    ∀ (f k : Nat) (e : Env), k < f → Iv k e → SW (swhile t b f) e A
  | 0, k, e, hk, h => absurd hk (Nat.not_lt_zero _)
  | f + 1, k, e, hk, h => by
    unfold swhile
    rw [sw_bind]
    refine ew_imp (hs k e h) fun c e2 h2 => ?_
    cases c with
    | false => exact sw_next.mpr (h2.2 rfl)
    | true =>
      obtain ⟨j, hj, r, hr, p⟩ := h2.1 rfl
      have ih : ∀ e3, Iv j e3 → SW (swhile t b f) e3 A := fun e3 h3 => sw_while Iv hs f j e3 (by omega) h3
      show ∃ r, sturn (b e2) (swhile t b f) = some r ∧ _
      rw [hr]
      cases r with
      | nx m e3 =>
        obtain ⟨r2, h2, p2⟩ := ih e3 p
        show ∃ r, SRes.more m (swhile t b f e3) = some r ∧ _
        rw [h2]
        exact SP'.more p2
      | ct m e3 =>
        obtain ⟨r2, h2, p2⟩ := ih e3 p
        show ∃ r, SRes.more m (swhile t b f e3) = some r ∧ _
        rw [h2]
        exact SP'.more p2
      | bk m e3 => exact ⟨_, rfl, p⟩
      | rt m e3 x => exact ⟨_, rfl, p⟩
      | er m e3 x => exact False.elim p
section
variable {e : Env}
end
end DL

/-! DMP: own errors: made, raised, caught, asked. -/
namespace DL
open PySem PySem.Spec PyProof.Rows L2 Evl

/-! ### making and raising -/
/-- an own error's class, by the name that the module has for it -/
structure ExcK (K : PySem.W.Frag) (mg : Str → Option Value) (c : Str) (C fI : Addr) : Prop where
  gC : mg c = some (.ref C)
  T : OexC K C
  no : PySem.W.findIn K (.ref C) "what" = some none
  iC : PySem.W.findIn K (.ref C) "__init__" = some (some (.ref fI))

/-! ### catching -/
abbrev Cl := Value × Option Nat × (Addr → Value → Option Addr → TS)
abbrev SuOk (X : Cx) (su : List Stmt) (ts : Addr → Value → Option Addr → TS) : Prop :=
  ∀ (a : Addr) (oe : Obj) (cls : Value) (d : Option Addr) (pn : List (Addr × Obj)), Zc cls d oe → (∃ vs, oe.data = .fields vs) → PSs (X.suite a ((a, oe) :: pn)) su (ts a cls d)
inductive ClOk (X : Cx) : List ExceptHandler → List Cl → Prop
  | nil : ClOk X [] []
  | only {x : Str} {c : Value} {ts : Addr → Value → Option Addr → TS} {b : Stmt} {su : List Stmt} {p q : Pos} {hs : List ExceptHandler} {l : List Cl} (hc : Names X x c) (hsu : SuOk X (b :: su) ts) (r : ClOk X hs l) :
      ClOk X (.ExceptHandler (some (.Name x p)) none (b :: su) q :: hs) ((c, none, ts) :: l)
  | as {x n : Str} {i : Nat} {c : Value} {ts : Addr → Value → Option Addr → TS} {b : Stmt} {su : List Stmt} {p q : Pos} {hs : List ExceptHandler} {l : List Cl} (hi : X.N[i]? = some n) (hl : X.env.kindOf n = some .local) (hc : Names X x c) (hsu : SuOk X (b :: su) ts)
      (r : ClOk X hs l) : ClOk X (.ExceptHandler (some (.Name x p)) (some n) (b :: su) q :: hs) ((c, some i, ts) :: l)
section
variable {X : Cx} {pins : List (Addr × Obj)} {Wout : WX} {B : Heap} {sI s1 : Shared} {σ : L2.St} {H : Hp} {a : Addr} {cls : Value} {d : Option Addr} {D : Ends}
end
end DL

/-! DMQ: try and its clauses as data; what a clause asks of its error. -/
namespace DL
open PySem PySem.Spec PyProof.Rows L2 Evl

section
variable {K : KB} {c : Ctx} {F H : Hp} {σ : L2.St} {e : Env} {ts : List (V × O)}
end
/-! ### the clauses -/
def excSlot (x : Xn) (a dd : Addr) : Slot := some (false, .im (.exc x.cls a dd (x.fs.map (·.1)) (x.fs.map (·.2))))
structure Hand where
  subs : List (Str × Bool)
  io : Option Nat
  s : Addr → Addr → Str → SDen
def clrE : Option Nat → Env → Option Env
  | none, e => some e
  | some i, e => if e.free i = true then some (e.set i none) else none
def clr (io : Option Nat) : SRes → Option SRes
  | .nx m e => (clrE io e).map fun e => .nx m e
  | .rt m e r => match r with
    | .bor j o => if io = some j then none else (clrE io e).map fun e => .rt m e r
    | r => (clrE io e).map fun e => .rt m e r
  | .bk m e => (clrE io e).map fun e => .bk m e
  | .ct m e => (clrE io e).map fun e => .ct m e
  | .er _ _ _ => none
abbrev SuD (X : Cx) (nm : Bool) (su : List Stmt) (subs : List (Str × Bool)) (s : Addr → Addr → Str → SDen) : Prop :=
  ∀ (a dd : Addr) (oe : Obj) (x : Str) (C : Addr) (d : Option Addr) (pn : List (Addr × Obj)), subs.lookup x = some true → X.mg x = some (.ref C) → Zc (.ref C) d oe → (nm = true → d = some dd) → (∃ vs, oe.data = .fields vs) → DSs (X.suite a ((a, oe) :: pn)) (fun _ _ _ _ => False) su (s a dd x)
abbrev SubsOk (X : Cx) (c : Value) (subs : List (Str × Bool)) : Prop := ∀ y b, subs.lookup y = some b → ∀ C, X.mg y = some (.ref C) → PySem.W.exmOne X.K (.ref C) c = some b
inductive HandOk (X : Cx) : List ExceptHandler → List Hand → Prop
  | nil : HandOk X [] []
  | only {x : Str} {c : Value} {s : Addr → Addr → Str → SDen} {subs : List (Str × Bool)} {b : Stmt} {su : List Stmt} {p q : Pos} {hs : List ExceptHandler} {l : List Hand} (hc : Names X x c) (hsub : SubsOk X c subs) (hsu : SuD X false (b :: su) subs s) (r : HandOk X hs l) :
      HandOk X (.ExceptHandler (some (.Name x p)) none (b :: su) q :: hs) (⟨subs, none, s⟩ :: l)
  | as {x n : Str} {i : Nat} {c : Value} {s : Addr → Addr → Str → SDen} {subs : List (Str × Bool)} {b : Stmt} {su : List Stmt} {p q : Pos} {hs : List ExceptHandler} {l : List Hand} (hi : X.N[i]? = some n) (hl : X.env.kindOf n = some .local) (hc : Names X x c) (hsub : SubsOk X c subs) (hsu : SuD X true (b :: su) subs s)
      (r : HandOk X hs l) : HandOk X (.ExceptHandler (some (.Name x p)) (some n) (b :: su) q :: hs) (⟨subs, some i, s⟩ :: l)
section
variable {X : Cx} {W : WX} {c : Ctx} {F H : Hp} {σ : L2.St} {e : Env} {ts : List (V × O)} {D : Ends}
end

/-! ### what a suite asks of its error -/
def dxf (a dd : Addr) (i : Nat) (f : Str) : Den D := fun e => match e[i]? with
  | some (some (_, .im (.exc _ a' dd' ns ds))) => if a' = a ∧ dd' = dd then ((ns.zip ds).lookup f).map fun d => .ok false e d else none
  | _ => none
def dxi (a dd : Addr) (i : Nat) (b : Option Bool) : Den D := fun e => match e[i]? with
  | some (some (_, .im (.exc _ a' dd' _ _))) => if a' = a ∧ dd' = dd then b.map fun b => .ok false e (.bl b) else none
  | _ => none
section
variable {X : Cx} {W : WX} {a dd C : Addr} {oe : Obj} {pn : List (Addr × Obj)} {ex ec : Expr} {pos p : Pos} {i : Nat} {f : Str} {d : Option Addr}
structure XiC (K : PySem.W.Frag) (C : Addr) : Prop where
  cl : (PySem.W.clsIn K C).isSome = true
  xf : XfC K C
  ha : PySem.W.findIn K (.ref C) "__class__" = some (some (.builtin "object.__class__"))
  hn : PySem.W.specialIn K (.builtin "object.__class__") "__get__" = some (some (.builtin "getset_descriptor.__get__"))
  ht : PySem.W.takesIn K (.builtin "object.__class__") = some true
  hm : PySem.W.mroIn K C (.type "object") = some true
end
/-! ### tables of classes -/
section
variable {K : PySem.W.Frag} {mg : Str → Option Value}
end
end DL

/-! DMR: denotations that end in an error, reckoned; try. -/
namespace DL
open PySem PySem.Spec PyProof.Rows L2 Evl

section
variable {α β : Type} {q : Bool} {e : Env} {P : Xn → Env → Prop} {a b : SDen} {B C : Env → Prop}

/-! ### try -/
variable {A : Aft}
end
end DL

/-! DMS: x.insert(k, y). -/
namespace DL
open PySem PySem.Spec PyProof.Rows L2 Evl
section
variable {X : Cx} {W : WX} {a b : Expr} {pos p : Pos}
end
section
variable {e : Env} {N : Env → Prop} {R : Rv → Env → Prop} {B C : Env → Prop}
end
end DL

/-! DMT: a suite ends alike wherever its error lies. -/
namespace DL
open PySem PySem.Spec PyProof.Rows L2 Evl
def Res.mapE {α : Type} (h : Env → Env) : Res α → Res α
  | .ok m e a => .ok m (h e) a
  | .err m e x => .err m (h e) x
def Res.envOf {α : Type} : Res α → Env
  | .ok _ e _ => e
  | .err _ e _ => e
def SRes.mapE (h : Env → Env) : SRes → SRes
  | .nx m e => .nx m (h e)
  | .rt m e r => .rt m (h e) r
  | .bk m e => .bk m (h e)
  | .ct m e => .ct m (h e)
  | .er m e x => .er m (h e) x
def SRes.envOf : SRes → Env
  | .nx _ e => e
  | .rt _ e _ => e
  | .bk _ e => e
  | .ct _ e => e
  | .er _ e _ => e
section
variable {α β : Type} {i : Nat} {x : Xn}
/-- the error's slot is read by what asks for it alone -/
def UD (i : Nat) (x : Xn) (f : Addr → Addr → Den α) : Prop := ∀ e : Env, Env.free e i = true → ∃ g : Option (Res α), (∀ r, g = some r → Env.free r.envOf i = true) ∧ ∀ a dd, f a dd (e.set i (excSlot x a dd)) = g.map (Res.mapE fun e' => e'.set i (excSlot x a dd))
def US (i : Nat) (x : Xn) (f : Addr → Addr → SDen) : Prop := ∀ e : Env, Env.free e i = true → ∃ g : Option SRes, (∀ r, g = some r → Env.free r.envOf i = true) ∧ ∀ a dd, f a dd (e.set i (excSlot x a dd)) = g.map (SRes.mapE fun e' => e'.set i (excSlot x a dd))
theorem free_lt {e : Env} (h : Env.free e i = true) : i < e.length := by
  unfold Env.free at h
  by_cases z : i < e.length
  · exact z
  · rw [List.getElem?_eq_none (by omega)] at h; cases h
theorem free_set {e : Env} {j : Nat} {s : Slot} (h : Env.free e i = true) (hj : j ≠ i) : Env.free (e.set j s) i = true := by
  unfold Env.free at h ⊢
  rw [List.getElem?_set_ne hj]
  exact h
theorem ud_pure {v : α} : UD i x (fun _ _ => dpure v) := fun e he => ⟨some (.ok false e v), fun r z => by cases z; exact he, fun a dd => rfl⟩
theorem ud_lift {o : Option α} : UD i x (fun _ _ => dlift o) := fun e he => by
  cases o with
  | none => exact ⟨none, fun r z => (by cases z), fun a dd => rfl⟩
  | some v => exact ⟨some (.ok false e v), fun r z => by cases z; exact he, fun a dd => rfl⟩
theorem more_map {m : Bool} {h : Env → Env} {g : Option (Res β)} : Res.more (α := α) m (g.map (Res.mapE h)) = (Res.more (α := α) m g).map (Res.mapE h) := by
  cases g with
  | none => rfl
  | some r => cases r <;> rfl
theorem ud_bind {f : Addr → Addr → Den α} {k : Addr → Addr → α → Den β} (h : UD i x f) (h2 : ∀ v, UD i x fun a dd => k a dd v) : UD i x (fun a dd => dbind (f a dd) (k a dd)) := fun e he => by
  obtain ⟨g, g1, g2⟩ := h e he
  cases g with
  | none => exact ⟨none, fun r z => (by cases z), fun a dd => by dsimp only [dbind]; rw [g2]; rfl⟩
  | some r =>
    cases r with
    | err m e1 z => exact ⟨some (.err m e1 z), fun r q => by cases q; exact g1 _ rfl, fun a dd => by dsimp only [dbind]; rw [g2]; rfl⟩
    | ok m e1 v =>
      obtain ⟨g', k1, k2⟩ := h2 v e1 (g1 _ rfl)
      dsimp only at k2
      refine ⟨Res.more (α := α) m g', fun r q => ?_, fun a dd => ?_⟩
      · cases g' with
        | none => cases q
        | some r' => cases r' <;> (cases q; have z := k1 _ rfl; exact z)
      · dsimp only [dbind]
        rw [g2]
        show Res.more m (k a dd v (e1.set i (excSlot x a dd))) = _
        rw [k2, more_map]
theorem ud_dq {f : Addr → Addr → Den α} (h : UD i x f) : UD i x (fun a dd => dq (f a dd)) := fun e he => by
  obtain ⟨g, g1, g2⟩ := h e he
  cases g with
  | none => exact ⟨none, fun r z => (by cases z), fun a dd => by dsimp only [dq]; rw [g2]; rfl⟩
  | some r =>
    cases r with
    | err m e1 z => exact ⟨some (.err m e1 z), fun r q => by cases q; exact g1 _ rfl, fun a dd => by dsimp only [dq]; rw [g2]; rfl⟩
    | ok m e1 v =>
      cases m with
      | false => exact ⟨some (.ok false e1 v), fun r q => by cases q; exact g1 _ rfl, fun a dd => by dsimp only [dq]; rw [g2]; rfl⟩
      | true => exact ⟨none, fun r z => (by cases z), fun a dd => by dsimp only [dq]; rw [g2]; rfl⟩
theorem ud_var {j : Nat} (hj : j ≠ i) : UD i x (fun _ _ => dvar j) := fun e he => by
  have key : ∀ a dd, (e.set i (excSlot x a dd))[j]? = e[j]? := fun a dd => List.getElem?_set_ne (Ne.symm hj)
  have pick : ∀ a dd, dvar j (e.set i (excSlot x a dd)) = (dvar j e).map (Res.mapE fun e' => e'.set i (excSlot x a dd)) := fun a dd => by
    unfold dvar
    rw [key]
    cases e[j]? with
    | none => rfl
    | some s =>
      cases s with
      | none => rfl
      | some q =>
        obtain ⟨b, o⟩ := q
        cases o <;> rfl
  refine ⟨dvar j e, fun r z => ?_, pick⟩
  unfold dvar at z
  cases h : e[j]? with
  | none => rw [h] at z; cases z
  | some s =>
    rw [h] at z
    cases s with
    | none => cases z
    | some q =>
      obtain ⟨b, o⟩ := q
      cases o <;> (cases z; exact he)
theorem ud_xf {f : Str} : UD i x (fun a dd => dxf a dd i f) := fun e he => by
  refine ⟨(((x.fs.map (·.1)).zip (x.fs.map (·.2))).lookup f).map fun d => .ok false e d, fun r z => ?_, fun a dd => ?_⟩
  · obtain ⟨d, _, rfl⟩ := Option.map_eq_some_iff.mp z
    exact he
  · dsimp only [dxf]
    rw [List.getElem?_set_self (free_lt he)]
    dsimp only [excSlot]
    rw [if_pos ⟨rfl, rfl⟩, Option.map_map]
    rfl
theorem ud_xi {b : Option Bool} : UD i x (fun a dd => dxi a dd i b) := fun e he => by
  refine ⟨b.map fun b => .ok false e (.bl b), fun r z => ?_, fun a dd => ?_⟩
  · obtain ⟨d, _, rfl⟩ := Option.map_eq_some_iff.mp z
    exact he
  · dsimp only [dxi]
    rw [List.getElem?_set_self (free_lt he)]
    dsimp only [excSlot]
    rw [if_pos ⟨rfl, rfl⟩, Option.map_map]
    rfl
theorem ud_ite {c : Prop} [Decidable c] {f g : Addr → Addr → Den α} (h : UD i x f) (k : UD i x g) : UD i x (fun a dd => if c then f a dd else g a dd) := by
  by_cases hc : c
  · simp only [if_pos hc]; exact h
  · simp only [if_neg hc]; exact k
theorem ud_imR {f : Addr → Addr → Den D} (h : UD i x f) : UD i x (fun a dd => imR (f a dd)) := ud_bind h fun v => ud_pure
theorem ud_vw {f : Addr → Addr → Den Rv} (h : UD i x f) : UD i x (fun a dd => vw (f a dd)) := ud_bind h fun v => by cases v <;> exact ud_pure
/-- frozen, of a slot that holds what is frozen or is another one -/
theorem ud_frz {j : Nat} (hj : j ≠ i) : UD i x (fun _ _ => frz (dvar j)) := fun e he => by
  have key : ∀ a dd, (e.set i (excSlot x a dd))[j]? = e[j]? := fun a dd => List.getElem?_set_ne (Ne.symm hj)
  have pick : ∀ a dd, frz (dvar j) (e.set i (excSlot x a dd)) = (frz (dvar j) e).map (Res.mapE fun e' => e'.set i (excSlot x a dd)) := fun a dd => by
    unfold frz dbind dvar
    rw [key]
    cases h : e[j]? with
    | none => rfl
    | some s =>
      cases s with
      | none => rfl
      | some q =>
        obtain ⟨b, o⟩ := q
        cases o with
        | im d => rfl
        | _ =>
          dsimp only [Res.more]
          rw [key, h]
          dsimp only [Res.more, Option.map_some, Res.mapE]
          rw [List.set_comm _ _ (Ne.symm hj)]
  refine ⟨frz (dvar j) e, fun r z => ?_, pick⟩
  unfold frz dbind dvar at z
  cases h : e[j]? with
  | none => rw [h] at z; cases z
  | some s =>
    rw [h] at z
    cases s with
    | none => cases z
    | some q =>
      obtain ⟨b, o⟩ := q
      cases o with
      | im d => cases z; exact he
      | _ =>
        dsimp only [Res.more] at z
        rw [h] at z
        cases z
        exact free_set he hj
theorem ud_dcons {f : Addr → Addr → Den D} {g : Addr → Addr → Den (List D)} (h : UD i x f) (k : UD i x g) : UD i x (fun a dd => dcons (f a dd) (g a dd)) := ud_bind h fun v => ud_bind k fun vs => ud_pure
theorem ud_dconsV {f : Addr → Addr → Den D} {g : Addr → Addr → Den (List D)} (h : UD i x f) (k : UD i x g) : UD i x (fun a dd => dconsV (f a dd) (g a dd)) := ud_bind h fun v => ud_bind (ud_dq k) fun vs => ud_pure
theorem ud_dtup {f : Addr → Addr → Den (List D)} (h : UD i x f) : UD i x (fun a dd => dtup (f a dd)) := ud_bind h fun v => ud_lift
theorem ud_dlst {f : Addr → Addr → Den (List D)} (h : UD i x f) : UD i x (fun a dd => dlst (f a dd)) := ud_bind h fun v => ud_lift
theorem ud_dbin {f g : Addr → Addr → Den D} {o : D → D → Option D} (h : UD i x f) (k : UD i x g) : UD i x (fun a dd => dbin (f a dd) (g a dd) o) := ud_bind h fun v => ud_bind k fun vs => ud_lift
theorem ud_dcmp {f g : Addr → Addr → Den D} {o : D → D → Option Bool} (h : UD i x f) (k : UD i x g) : UD i x (fun a dd => dcmp (f a dd) (g a dd) o) := ud_bind h fun v => ud_bind (ud_dq k) fun vs => ud_lift
theorem ud_dtB {f : Addr → Addr → Den D} (h : UD i x f) : UD i x (fun a dd => dtB (f a dd)) := ud_bind h fun v => ud_lift
theorem ud_dtru {f : Addr → Addr → Den D} (h : UD i x f) : UD i x (fun a dd => dtru (f a dd)) := ud_bind h fun v => ud_lift
theorem ud_dnot {f : Addr → Addr → Den Bool} (h : UD i x f) : UD i x (fun a dd => dnot (f a dd)) := ud_bind h fun v => ud_pure
theorem ud_dand {f g : Addr → Addr → Den Bool} (h : UD i x f) (k : UD i x g) : UD i x (fun a dd => dand (f a dd) (g a dd)) := ud_bind h fun v => ud_ite k ud_pure
theorem ud_dor {f g : Addr → Addr → Den Bool} (h : UD i x f) (k : UD i x g) : UD i x (fun a dd => dor (f a dd) (g a dd)) := ud_bind h fun v => ud_ite ud_pure k
theorem ud_dnotV {f : Addr → Addr → Den D} (h : UD i x f) : UD i x (fun a dd => dnotV (f a dd)) := ud_bind (ud_dtB h) fun v => ud_pure
theorem ud_dandV {f g : Addr → Addr → Den D} (h : UD i x f) (k : UD i x g) : UD i x (fun a dd => dandV (f a dd) (g a dd)) := ud_bind (ud_dtB h) fun v => ud_ite k ud_pure
theorem ud_dorV {f g : Addr → Addr → Den D} (h : UD i x f) (k : UD i x g) : UD i x (fun a dd => dorV (f a dd) (g a dd)) := ud_bind (ud_dtB h) fun v => ud_ite ud_pure k
theorem ud_dif {t : Addr → Addr → Den Bool} {f g : Addr → Addr → Den α} (ht : UD i x t) (h : UD i x f) (k : UD i x g) : UD i x (fun a dd => dif (t a dd) (f a dd) (g a dd)) := ud_bind ht fun v => ud_ite h k
/-! statements -/
theorem smore_map {m : Bool} {h : Env → Env} {g : Option SRes} : SRes.more m (g.map (SRes.mapE h)) = (SRes.more m g).map (SRes.mapE h) := by
  cases g with
  | none => rfl
  | some r => cases r <;> rfl
theorem smore_env {m : Bool} {g : Option SRes} {r : SRes} (h : SRes.more m g = some r) (k : ∀ r, g = some r → Env.free r.envOf i = true) : Env.free r.envOf i = true := by
  cases g with
  | none => cases h
  | some q => cases q <;> (cases h; have z := k _ rfl; exact z)
theorem us_next : US i x (fun _ _ => snext) := fun e he => ⟨some (.nx false e), fun r z => by cases z; exact he, fun a dd => rfl⟩
theorem us_bind {f : Addr → Addr → Den α} {k : Addr → Addr → α → SDen} (h : UD i x f) (h2 : ∀ v, US i x fun a dd => k a dd v) : US i x (fun a dd => sbind (f a dd) (k a dd)) := fun e he => by
  obtain ⟨g, g1, g2⟩ := h e he
  cases g with
  | none => exact ⟨none, fun r z => (by cases z), fun a dd => by dsimp only [sbind]; rw [g2]; rfl⟩
  | some r =>
    cases r with
    | err m e1 z => exact ⟨some (.er m e1 z), fun r q => by cases q; exact g1 _ rfl, fun a dd => by dsimp only [sbind]; rw [g2]; rfl⟩
    | ok m e1 v =>
      obtain ⟨g', k1, k2⟩ := h2 v e1 (g1 _ rfl)
      dsimp only at k2
      refine ⟨SRes.more m g', fun r q => smore_env q k1, fun a dd => ?_⟩
      dsimp only [sbind]
      rw [g2]
      show SRes.more m (k a dd v (e1.set i (excSlot x a dd))) = _
      rw [k2, smore_map]
theorem us_seq {f g : Addr → Addr → SDen} (h : US i x f) (k : US i x g) : US i x (fun a dd => sseq (f a dd) (g a dd)) := fun e he => by
  obtain ⟨q, q1, q2⟩ := h e he
  cases q with
  | none => exact ⟨none, fun r z => (by cases z), fun a dd => by dsimp only [sseq]; rw [q2]; rfl⟩
  | some r =>
    cases r with
    | nx m e1 =>
      obtain ⟨g', k1, k2⟩ := k e1 (q1 _ rfl)
      refine ⟨SRes.more m g', fun r q => smore_env q k1, fun a dd => ?_⟩
      dsimp only [sseq]
      rw [q2]
      show SRes.more m (g a dd (e1.set i (excSlot x a dd))) = _
      rw [k2, smore_map]
    | rt m e1 v => exact ⟨some (.rt m e1 v), fun r z => by cases z; exact q1 _ rfl, fun a dd => by dsimp only [sseq]; rw [q2]; rfl⟩
    | bk m e1 => exact ⟨some (.bk m e1), fun r z => by cases z; exact q1 _ rfl, fun a dd => by dsimp only [sseq]; rw [q2]; rfl⟩
    | ct m e1 => exact ⟨some (.ct m e1), fun r z => by cases z; exact q1 _ rfl, fun a dd => by dsimp only [sseq]; rw [q2]; rfl⟩
    | er m e1 v => exact ⟨some (.er m e1 v), fun r z => by cases z; exact q1 _ rfl, fun a dd => by dsimp only [sseq]; rw [q2]; rfl⟩
theorem us_ite {c : Prop} [Decidable c] {f g : Addr → Addr → SDen} (h : US i x f) (k : US i x g) : US i x (fun a dd => if c then f a dd else g a dd) := by
  by_cases hc : c
  · simp only [if_pos hc]; exact h
  · simp only [if_neg hc]; exact k
theorem us_if {t : Addr → Addr → Den Bool} {f g : Addr → Addr → SDen} (ht : UD i x t) (h : US i x f) (k : US i x g) : US i x (fun a dd => sif (t a dd) (f a dd) (g a dd)) := us_bind ht fun v => us_ite h k
theorem us_rt {f : Addr → Addr → Den Rv} (h : UD i x f) : US i x (fun a dd => srt (f a dd)) := us_bind h fun v e he => ⟨some (.rt false e v), fun r z => by cases z; exact he, fun a dd => rfl⟩
theorem us_drop {f : Addr → Addr → Den Rv} (h : UD i x f) : US i x (fun a dd => sdrop (f a dd)) := us_bind h fun v => us_next
theorem us_bk : US i x (fun _ _ => fun e => some (.bk false e)) := fun e he => ⟨some (.bk false e), fun r z => by cases z; exact he, fun a dd => rfl⟩
theorem us_ct : US i x (fun _ _ => fun e => some (.ct false e)) := fun e he => ⟨some (.ct false e), fun r z => by cases z; exact he, fun a dd => rfl⟩
theorem us_rtN : US i x (fun _ _ => fun e => some (.rt false e (.im .non))) := fun e he => ⟨some (.rt false e (.im .non)), fun r z => by cases z; exact he, fun a dd => rfl⟩
/-- x = e, frozen -/
theorem us_setI {j : Nat} (hj : j ≠ i) {f : Addr → Addr → Den D} (h : UD i x f) : US i x (fun a dd => sset j (imR (f a dd))) := fun e he => by
  obtain ⟨g, g1, g2⟩ := ud_imR h e he
  dsimp only at g2
  have fr : ∀ (e : Env) a dd, Env.free (e.set i (excSlot x a dd)) j = Env.free e j := fun e a dd => by
    unfold Env.free
    rw [List.getElem?_set_ne (Ne.symm hj)]
  have im : ∀ r, g = some r → ∀ m e' v, r = .ok m e' v → ∃ d, v = .im d := fun r hr m e' v hv => by
    subst hv
    have z := g2 0 0
    rw [hr] at z
    dsimp only [imR, dbind] at z
    cases q : f 0 0 (e.set i (excSlot x 0 0)) with
    | none => rw [q] at z; cases z
    | some w =>
      rw [q] at z
      cases w with
      | err m1 e1 y => cases z
      | ok m1 e1 d =>
        have z2 : some (Res.ok (m1 || false) e1 (Rv.im d)) = some (Res.ok m (e'.set i (excSlot x 0 0)) v) := z
        injection z2 with z2
        injection z2 with z3 z4 z5
        exact ⟨d, z5.symm⟩
  cases g with
  | none => exact ⟨none, fun r z => (by cases z), fun a dd => by dsimp only [sset, sbind]; rw [g2]; rfl⟩
  | some r =>
    cases r with
    | err m e1 z => exact ⟨some (.er m e1 z), fun r q => by cases q; exact g1 _ rfl, fun a dd => by dsimp only [sset, sbind]; rw [g2]; rfl⟩
    | ok m e1 v =>
      obtain ⟨d, rfl⟩ := im _ rfl _ _ _ rfl
      by_cases hf : Env.free e1 j = true
      · refine ⟨some (.nx (m || false) (e1.set j (some (false, .im d)))), fun r q => by cases q; exact free_set (g1 _ rfl) hj, fun a dd => ?_⟩
        dsimp only [sset, sbind]
        rw [g2]
        dsimp only [Option.map_some, Res.mapE]
        rw [fr, if_pos hf]
        dsimp only [SRes.more, SRes.mapE]
        rw [List.set_comm _ _ (Ne.symm hj)]
      · refine ⟨none, fun r z => (by cases z), fun a dd => ?_⟩
        dsimp only [sset, sbind]
        rw [g2]
        dsimp only [Option.map_some, Res.mapE]
        rw [fr, if_neg hf]
        rfl
end
theorem w_stI {e : Env} {N : Env → Prop} {R : Rv → Env → Prop} {B C : Env → Prop} {i : Nat} {de di : Den D} (p : EW false de e fun x e1 => (∃ b os, lk e1 i = some (b, .lst os)) ∧ EW false di e1 fun k e2 => ∃ b os n y j, lk e2 i = some (b, .lst os) ∧ k = .int j ∧ L2.ixN os.length j = some n ∧ os[n]? = some (.im y) ∧ N (e2.set i (some (b, .lst (os.set n (.im x)))))) :
    SW (sstI i de di) e ⟨N, R, B, C⟩ := by
  refine sw_bind.mpr (ew_imp p ?_)
  rintro x e1 ⟨⟨b0, os0, h0⟩, p2⟩
  have hs : slotO e1 i = some (.lst os0) := by
    unfold slotO
    rw [lk_some h0]
  show SW (fun e1 => match slotO e1 i with
    | some _ => sbind di (fun k e => match e[i]?, k with
      | some (some (b, .lst os)), .int j => match ixN os.length j with
        | some n => match os[n]? with
          | some (.im _) => some (.nx true (e.set i (some (b, .lst (os.set n (.im x))))))
          | _ => none
        | none => none
      | _, _ => none) e1
    | none => none) e1 ⟨N, R, B, C⟩
  unfold SW
  dsimp only
  rw [hs]
  refine sw_bind.mpr (ew_imp p2 ?_)
  rintro k e2 ⟨b, os, n, y, j, h1, rfl, h2, h3, hN⟩
  refine ⟨.nx true (e2.set i (some (b, .lst (os.set n (.im x))))), ?_, hN⟩
  dsimp only
  rw [lk_some h1]
  dsimp only
  rw [h2]
  dsimp only
  rw [h3]
end DL

/-! DMU: dicts: their truth, their length, their displays. -/
namespace DL
open PySem PySem.Spec PyProof.Rows L2 Evl
section
variable {prog : Program} {w : World} {A : Around} {E : Value → Shared → Prop} {s : Shared} {d : Addr} {es : Array DictEntry} {ep : Nat}
end
section
variable {X : Cx} {pins : List (Addr × Obj)} {σ : L2.St} {H : Hp} {s : Shared} {a : Addr}
end
section
variable {X : Cx} {W : WX} {a : Expr} {pos : Pos}
end
end DL

/-! DMV: dict displays with names as keys. -/
namespace DL
open PySem PySem.Spec PyProof.Rows L2 Evl
def pairK (ks : List Str) (vs : List V) : List (V × V) := (ks.zip vs).map fun p => (V.str p.1, p.2)
structure DPP (X : Cx) (W : WX) (pos : Pos) (keys : List (Option Expr)) (values : List Expr) (ks : List Str) (den : Den (List O)) : Prop where
  all : keys.all (·.isSome) = true
  l1 : keys.length = values.length
  l2 : keys.length = ks.length
  run : ∃ trs, PPs X pos keys values trs ∧ ∀ c F σ e ts H (Q : List V → Hp → Prop) (Q' : List (V × V) → Hp → Prop), RE X.B c F H σ e ts → At relT X.B W den c F σ e ts H Q → (∀ vs H', vs.length = ks.length → Q vs H' → Q' (pairK ks vs) H') → tPairs trs σ H Q'
section
variable {X : Cx} {W : WX} {pos : Pos}
end
end DL

/-! DMW: dicts as lists of pairs; steps through places. -/
namespace DL
open PySem PySem.Spec PyProof.Rows L2 Evl
/-! ### lists of pairs -/
section
variable {κ β γ : Type} [DecidableEq κ]
def getA : List (κ × β) → κ → Option β
  | [], _ => none
  | p :: l, k => if p.1 = k then some p.2 else getA l k
def putA : List (κ × β) → κ → β → List (κ × β)
  | [], k, v => [(k, v)]
  | p :: l, k, v => if p.1 = k then (p.1, v) :: l else p :: putA l k v
def ixA (l : List (κ × β)) (k : κ) : Option Nat := l.findIdx? fun p => decide (p.1 = k)
theorem ixA_cons (p : κ × β) (l : List (κ × β)) (k : κ) : ixA (p :: l) k = if p.1 = k then some 0 else (ixA l k).map (· + 1) := by
  unfold ixA
  rw [List.findIdx?_cons]
  by_cases h : p.1 = k
  · rw [if_pos h, if_pos (decide_eq_true h)]
  · rw [if_neg h, decide_eq_false h]
    rfl
theorem getA_ix (f : β → γ) : ∀ (l : List (κ × β)) (k : κ), ((ixA l k).bind fun n => (l.map fun p => f p.2)[n]?) = (getA l k).map f
  | [], k => rfl
  | p :: l, k => by
    rw [ixA_cons, getA]
    by_cases h : p.1 = k
    · rw [if_pos h, if_pos h]
      rfl
    · rw [if_neg h, if_neg h, ← getA_ix f l k]
      cases ixA l k with
      | none => rfl
      | some n => rfl
theorem ixA_get : ∀ (l : List (κ × β)) (k : κ), (ixA l k).isSome = (getA l k).isSome
  | [], k => rfl
  | p :: l, k => by
    rw [ixA_cons, getA]
    by_cases h : p.1 = k
    · rw [if_pos h, if_pos h]; rfl
    · rw [if_neg h, if_neg h, ← ixA_get l k]
      cases ixA l k <;> rfl
theorem putA_ks (f : κ → γ) : ∀ (l : List (κ × β)) (k : κ) (v : β), (putA l k v).map (fun p => f p.1) = match ixA l k with
    | some _ => l.map fun p => f p.1
    | none => (l.map fun p => f p.1) ++ [f k]
  | [], k, v => rfl
  | p :: l, k, v => by
    rw [ixA_cons, putA]
    by_cases h : p.1 = k
    · rw [if_pos h, if_pos h]; rfl
    · rw [if_neg h, if_neg h, List.map_cons, putA_ks f l k v]
      cases ixA l k <;> rfl
theorem putA_vs (f : β → γ) : ∀ (l : List (κ × β)) (k : κ) (v : β), (putA l k v).map (fun p => f p.2) = match ixA l k with
    | some n => (l.map fun p => f p.2).set n (f v)
    | none => (l.map fun p => f p.2) ++ [f v]
  | [], k, v => rfl
  | p :: l, k, v => by
    rw [ixA_cons, putA]
    by_cases h : p.1 = k
    · rw [if_pos h, if_pos h]; rfl
    · rw [if_neg h, if_neg h, List.map_cons, putA_vs f l k v]
      cases ixA l k <;> rfl
theorem getA_put : ∀ (l : List (κ × β)) (k j : κ) (v : β), getA (putA l k v) j = if k = j then some v else getA l j
  | [], k, j, v => rfl
  | p :: l, k, j, v => by
    rw [putA]
    by_cases h : p.1 = k
    · rw [if_pos h, getA, getA]
      by_cases e : p.1 = j
      · rw [if_pos e, if_pos (h ▸ e)]
      · rw [if_neg e, if_neg (h ▸ e), if_neg e]
    · rw [if_neg h, getA, getA, getA_put l k j v]
      by_cases e : p.1 = j
      · rw [if_pos e, if_neg (fun z => h (e.trans z.symm)), if_pos e]
      · rw [if_neg e, if_neg e]
theorem putA_len : ∀ (l : List (κ × β)) (k : κ) (v : β), (putA l k v).length ≤ l.length + 1
  | [], k, v => Nat.le_refl _
  | p :: l, k, v => by
    rw [putA]
    split
    · exact Nat.le_succ _
    · exact Nat.succ_le_succ (putA_len l k v)
theorem getA_none : ∀ {l : List (κ × β)} {k : κ}, getA l k = none ↔ k ∉ l.map (·.1)
  | [], k => ⟨fun _ h => (nomatch h), fun _ => rfl⟩
  | p :: l, k => by
    rw [getA, List.map_cons, List.mem_cons]
    by_cases e : p.1 = k
    · rw [if_pos e]
      exact ⟨fun h => (nomatch h), fun h => absurd (.inl e.symm) h⟩
    · rw [if_neg e, getA_none (l := l)]
      exact ⟨fun h z => z.elim (fun w => e w.symm) h, fun h z => h (.inr z)⟩
theorem getA_of : ∀ {l : List (κ × β)}, (l.map (·.1)).Nodup → ∀ {p : κ × β}, p ∈ l → getA l p.1 = some p.2
  | [], _, p, h => nomatch h
  | q :: l, nd, p, h => by
    obtain ⟨n1, n2⟩ := List.nodup_cons.mp (show (q.1 :: l.map (·.1)).Nodup from nd)
    rw [getA]
    rcases List.mem_cons.mp h with rfl | h
    · rw [if_pos rfl]
    · rw [if_neg fun e => n1 (by rw [e]; exact List.mem_map.mpr ⟨p, h, rfl⟩), getA_of n2 h]
theorem putA_new {l : List (κ × β)} {k : κ} {v : β} : getA l k = none → putA l k v = l ++ [(k, v)] := by
  induction l with
  | nil => intro _; rfl
  | cons p l ih =>
    intro h
    rw [getA] at h
    by_cases e : p.1 = k
    · rw [if_pos e] at h; cases h
    · rw [if_neg e] at h
      rw [putA, if_neg e, ih h]
      rfl
end
/-! ### dicts of pairs -/
/-- keys that a dict tells apart -/
structure Kg {κ : Type} (g : κ → D) : Prop where
  ok : ∀ (l : List D) k, (∀ d ∈ l, ∃ j, d = g j) → okKey l (g k) = true
  inj : ∀ a b, kyOf (g a) = kyOf (g b) → a = b
section
variable {κ β : Type} [DecidableEq κ] {g : κ → D} {h : β → O}
def dcA (g : κ → D) (h : β → O) (l : List (κ × β)) : O := .dct (l.map fun p => g p.1) (l.map fun p => h p.2)
def dcD (g : κ → D) (h : β → D) (l : List (κ × β)) : D := .dct (l.map fun p => g p.1) (l.map fun p => h p.2)
theorem Kg.okA (K : Kg g) (l : List (κ × β)) (k : κ) : okKey (l.map fun p => g p.1) (g k) = true := K.ok _ k fun d m => by
  obtain ⟨p, _, rfl⟩ := List.mem_map.mp m
  exact ⟨p.1, rfl⟩
theorem Kg.kix (K : Kg g) (l : List (κ × β)) (k : κ) : DL.kix (l.map fun p => g p.1) (g k) = ixA l k := by
  unfold DL.kix ixA
  rw [List.findIdx?_map]
  congr 1
  funext p
  show decide (kyOf (g p.1) = kyOf (g k)) = _
  by_cases e : p.1 = k
  · rw [decide_eq_true e, e, decide_eq_true rfl]
  · rw [decide_eq_false e, decide_eq_false fun z => e (K.inj _ _ z)]
theorem Kg.get (K : Kg g) (l : List (κ × β)) (k : κ) (x : O) : getOX (dcA g h l) (g k) x = some (((getA l k).map h).getD x) := by
  unfold dcA
  show (if okKey _ _ = true then some (((DL.kix _ _).bind fun n => _).getD _) else none) = _
  rw [if_pos (K.okA l k), K.kix, getA_ix h]
theorem Kg.notin (K : Kg g) (l : List (κ × β)) (k : κ) (vs : List D) : notinXD (g k) (.dct (l.map fun p => g p.1) vs) = some (getA l k).isNone := by
  show (match g k, D.dct (l.map fun p => g p.1) vs with
    | x, .dct ks _ => if okKey ks x = true then some (!(DL.kix ks x).isSome) else none
    | x, y => notinD x y) = _
  dsimp only
  rw [if_pos (K.okA l k), K.kix, ixA_get]
  cases getA l k <;> rfl
theorem Kg.put (K : Kg g) (l : List (κ × β)) (k : κ) (v : β) : O.dct (putKs (l.map fun p => g p.1) (g k)) (putVs (l.map fun p => g p.1) (g k) (l.map fun p => h p.2) (h v)) = dcA g h (putA l k v) := by
  unfold dcA putKs putVs
  rw [K.kix, putA_ks g l k v, putA_vs h l k v]
  all_goals (cases ixA l k <;> rfl)
end
/-! ### places -/
section
variable {κ β : Type} [DecidableEq κ] {g : κ → D} {h : β → O} {q : Bool} {e : Env} {PP : Pl → Env → Prop} {PR : Rv → Env → Prop} {N : Env → Prop} {R : Rv → Env → Prop} {B C : Env → Prop}
/-- the place of a slot -/
theorem w_pVar {i : Nat} {b : Bool} {t : O} (hl : lk e i = some (b, t)) (hk : t.kids.isSome = true) (p : ∀ pl, plO pl e = some t → (∀ o', plPut pl e o' = e.set i (some (b, o'))) → PP pl e) : EW q (dplVar i) e PP :=
  w_dplVar hl hk (p _ (plO_slot hl hk) fun o' => plPut_slot hl)
theorem w_stD {dv : Den Rv} {dp : Den Pl} {dk : Den D} (K : Kg g) (p : EW false dv e fun r e1 => rvP r e1 fun o e2 => EW false dp e2 fun pl e3 => EW true dk e3 fun kd e4 => ∃ l k v, kd = g k ∧ o = h v ∧ plO pl e4 = some (dcA g h l) ∧ l.length < sizeLine ∧ N (plPut pl e4 (dcA g h (putA l k v)))) : SW (sstP dv dp dk) e ⟨N, R, B, C⟩ := by
  unfold sstP
  rw [sw_bind]
  refine ew_imp p fun r e1 h1 => ?_
  rw [sw_bind]
  refine ew_imp (w_rvO h1) fun o e2 h2 => ?_
  rw [sw_bind]
  refine ew_imp h2 fun pl e3 h3 => ?_
  rw [sw_bind, ew_dq]
  refine ew_imp h3 fun kd e4 h4 => ?_
  obtain ⟨l, k, v, rfl, rfl, h5, h6, h7⟩ := h4
  unfold SW stP
  rw [h5]
  refine ⟨.nx true (plPut pl e4 (dcA g h (putA l k v))), ?_, h7⟩
  rw [← K.put l k v]
  unfold dcA
  dsimp only
  rw [if_pos ⟨K.okA l k, by rw [List.length_map]; exact h6⟩]
end
end DL

/-! DMX: what is frozen compared with what may change things while it is found. -/
namespace DL
open PySem PySem.Spec PyProof.Rows L2 Evl
section
variable {X : Cx} {W : WX} {ex a b : Expr} {pos : Pos} {da db : Den D}
end
end DL

/-! DMY: for over enumerate(a list). -/
namespace DL
open PySem PySem.Spec PyProof.Rows L2 Evl
section
variable {c : Ctx} {F H : Hp} {σ : L2.St} {e : Env} {ts : List (V × O)} {W : WX}
theorem PostS.from {K : KB} {D : Ends} {F1 H1 : Hp} {r : SRes} (ef : Ex F F1) (eh : Ex H H1) (post : PostS K W D c F ts H r) : PostS K W D c F1 ts H1 r := by
  cases r with
  | nx m e5 => exact fun F' H' σ' ef' eh' R' => post F' H' σ' (ef.trans ef') (fun z => eh.trans (eh' z)) R'
  | rt m e5 rv => exact fun F' H' σ' v' ef' eh' R' => post F' H' σ' v' (ef.trans ef') (fun z => eh.trans (eh' z)) R'
  | bk m e5 => exact fun F' H' σ' ef' eh' R' => post F' H' σ' (ef.trans ef') (fun z => eh.trans (eh' z)) R'
  | ct m e5 => exact fun F' H' σ' ef' eh' R' => post F' H' σ' (ef.trans ef') (fun z => eh.trans (eh' z)) R'
  | er m e5 x => exact fun F' H' σ' cls d ef' eh' R' hx => post F' H' σ' cls d (ef.trans ef') (fun z => eh.trans (eh' z)) R' hx
end
section
variable {X : Cx} {W : WX} {iter : Expr} {elts : List Expr} {kk : Nat} {tpos p p2 : Pos} {body : List Stmt} {pos : Pos} {it : Den Rv} {bind : D → Env → Option Env} {sl : List Nat} {db : SDen}
end
section
variable {e : Env} {N : Env → Prop} {R : Rv → Env → Prop} {B C : Env → Prop}
end
end DL

/-! DMZ: `is` between bools; for over the values of a dict that is empty. -/
namespace DL
open PySem PySem.Spec PyProof.Rows L2 Evl
section
variable {X : Cx} {W : WX} {tg a : Expr} {body : List Stmt} {pos p apos cpos : Pos} {bind : D → Env → Option Env} {sl : List Nat} {db : SDen} {i : Nat} {C : Addr} {f : Str}
end
section
variable {e : Env} {N : Env → Prop} {R : Rv → Env → Prop} {B C : Env → Prop}
end
end DL

/-! DNA: P.pop(k, x) of a key that may be absent, for dicts with plain keys. -/
namespace DL
open PySem PySem.Spec PyProof.Rows L2 Evl
section
variable {X : Cx} {W : WX} {o ex f : Expr} {apos cpos : Pos}
end
section
variable {κ β : Type} [DecidableEq κ] {g : κ → D} {h : β → O} {e : Env} {PR : Rv → Env → Prop}
end
end DL

/-! DNB: text.join(list of texts). -/
namespace DL
open PySem PySem.Spec PyProof.Rows L2 Evl
def strsD : List D → Option (List Str)
  | [] => some []
  | .str x :: ds => (strsD ds).map (x :: ·)
  | _ :: _ => none
def joinS (a : Str) : D → Option D
  | .lst ds => (strsD ds).bind fun ys => if (ys.map (·.length)).sum + ys.length * a.length ≤ 16777216 then some (.str (Txt.join a ys)) else none
  | _ => none
theorem strs_reps {K : KB} {H : Hp} : ∀ {ds : List D} {ys : List Str} {xs : List V}, strsD ds = some ys → Reps K H ds xs → xs = ys.map V.str
  | [], ys, xs, h, r => by cases h; exact r
  | .str x :: ds, ys, xs, h, r => by
    obtain ⟨zs, hz, rfl⟩ := Option.map_eq_some_iff.mp h
    obtain ⟨v, l, rfl, h1, h2⟩ := r
    rw [strs_reps hz h2, show v = V.str x from h1]
    rfl
  | .non :: _, _, _, h, _ => by cases h
  | .bl _ :: _, _, _, h, _ => by cases h
  | .int _ :: _, _, _, h, _ => by cases h
  | .ty _ :: _, _, _, h, _ => by cases h
  | .any :: _, _, _, h, _ => by cases h
  | .adr _ :: _, _, _, h, _ => by cases h
  | .exc _ _ _ _ _ :: _, _, _, h, _ => by cases h
  | .tup _ :: _, _, _, h, _ => by cases h
  | .wtp _ :: _, _, _, h, _ => by cases h
  | .lst _ :: _, _, _, h, _ => by cases h
  | .scr _ :: _, _, _, h, _ => by cases h
  | .dct _ _ :: _, _, _, h, _ => by cases h
  | .ins _ _ _ :: _, _, _, h, _ => by cases h
def djoin (da db : Den D) : Den D := dbind da fun x => match x with
  | .str a => dbind db fun y => dlift (joinS a y)
  | _ => fun _ => none
section
variable {X : Cx} {W : WX} {o ex : Expr} {apos cpos : Pos}
theorem di_join {da db : Den D} (ha : DI X W o da) (hb : DV X W ex db)
    (hpe : ∀ {to : TE} {t : TA}, PE X o to → PA X [ex] t → PE X (.Call (.Attribute o "join" apos) [ex] [] cpos) (tBM X.K "str" (fun x xs H Q => ∃ a p, ∃ ys : List Str, x = V.str a ∧ xs = [V.ref p] ∧ (SqL X.K H p (ys.map V.str) ∨ SqT X.K H p (ys.map V.str)) ∧ (ys.map (·.length)).sum + ys.length * a.length ≤ 16777216 ∧ Q (.str (Txt.join a ys)) H) to t))
    (hs : starEach [ex] X.env = [(false, eval ex X.env)] := by rfl) : DI X W (.Call (.Attribute o "join" apos) [ex] [] cpos) (djoin da db) := ⟨pe_weak (hpe ha.run (pa_cons hb.run pa_nil hs)) fun σ H Q q => by
  obtain ⟨c, F, e, ts, R, q⟩ := q
  refine ⟨c, F, e, ts, R, q.bind (rel := relI) fun F1 H1 e1 x v ef hr q1 => ?_⟩
  cases x with
  | str a =>
    have ev : v = V.str a := hr.2
    subst ev
    refine ⟨rfl, c, F1, e1, ts, hr.1, q1.bind (rel := relV) fun F2 H2 e2 y u ef2 hr3 q2 => ?_⟩
    obtain ⟨d, hd, k⟩ := q2.lift
    unfold joinS at hd
    split at hd
    · rename_i ds
      obtain ⟨ys, hys, hd⟩ := Option.bind_eq_some_iff.mp hd
      split at hd
      · rename_i hz
        cases hd
        obtain ⟨p, xs, rfl, h1, h2⟩ := hr3.2
        rw [strs_reps hys h2] at h1
        exact ⟨a, p, ys, rfl, rfl, .inl (SqL.of h1), hz, k F2 H2 _ (Ex.refl _) (Ex.refl _) ⟨hr3.1, rfl⟩⟩
      · cases hd
    · cases hd
  | _ =>
    obtain ⟨r, hr2, _⟩ := q1
    cases hr2⟩
end
section
variable {e : Env} {q : Bool} {PD : D → Env → Prop}
theorem w_join {da db : Den D} {a : Str} (p : EW q da e fun x e1 => x = .str a ∧ EW q db e1 fun y e2 => OP (joinS a y) fun z => PD z e2) : EW q (djoin da db) e PD := by
  unfold djoin
  rw [ew_bind]
  refine ew_imp p fun x e1 h => ?_
  obtain ⟨rfl, h⟩ := h
  dsimp only
  rw [ew_bind]
  exact ew_imp h fun y e2 h => ew_lift.mpr h
theorem strs_map {γ : Type} (g : γ → Str) : ∀ l : List γ, strsD (l.map fun x => D.str (g x)) = some (l.map g)
  | [] => rfl
  | a :: l => by
    show (strsD (l.map fun x => D.str (g x))).map _ = _
    rw [strs_map g l]
    rfl
theorem op_join {γ : Type} {a : Str} {g : γ → Str} {l : List γ} {P : D → Prop} (hz : ((l.map g).map (·.length)).sum + (l.map g).length * a.length ≤ 16777216) (p : P (.str (Txt.join a (l.map g)))) : OP (joinS a (.lst (l.map fun x => D.str (g x)))) P :=
  ⟨_, by unfold joinS; dsimp only; rw [strs_map, Option.bind_some, if_pos hz], p⟩
end
end DL

/-! DNC: dicts with tuple keys whose one object is told exactly; their keys, walked. -/
namespace DL
open PySem PySem.Spec PyProof.Rows L2 Evl
section
variable {X : Cx} {pins : List (Addr × Obj)} {σ : L2.St} {H : Hp} {s : Shared}
end
section
variable {X : Cx} {tg e : Expr} {td : TE}
end
end DL

/-! DND: attributes as targets; range with a step of -1; dict(d). -/
namespace DL
open PySem PySem.Spec PyProof.Rows L2 Evl
/-! ### o.f as a target -/
section
variable {X : Cx} {W : WX} {ex : Expr} {pos : Pos}
end
/-! ### range(a, b, -1) -/
section
variable {X : Cx} {W : WX} {tg a b c : Expr} {p p2 : Pos} {as : Den (List D)}
end
/-! ### dict(d), the keys tuples -/
section
variable {prog : Program} {w : World} {K : Type} [DecidableEq K] {knd : HeapKind prog w K} {A : Around} {E : Value → Shared → Prop} {s : Shared}
end
section
variable {X : Cx} {W : WX} {a : Expr} {pos p : Pos} {x : Str}
end
section
variable {e : Env} {q : Bool} {PR : Rv → Env → Prop}
end
end DL

/-! DNE: steps: P.append(x), P.pop(), P[i] = x of lists at places; several fields at once. -/
namespace DL
open PySem PySem.Spec PyProof.Rows L2 Evl
section
variable {e : Env} {N : Env → Prop} {R : Rv → Env → Prop} {B C : Env → Prop} {PR : Rv → Env → Prop}
/-! ### suites of except that end alike wherever the error lies -/
section
variable {α β : Type} {i : Nat} {x : Xn}
theorem ud_ow {j : Nat} (hj : j ≠ i) : UD i x (fun _ _ => ow (dvar j)) := ud_bind (ud_var hj) fun v => by cases v <;> exact ud_pure
theorem ud_imD {f : Addr → Addr → Den O} (h : UD i x f) : UD i x (fun a dd => imD (f a dd)) := ud_bind h fun v => ud_lift
theorem ud_fl {f : Addr → Addr → Den O} (h : UD i x f) : UD i x (fun a dd => fl (f a dd)) := ud_bind h fun v => ud_pure
theorem ud_dixO {f : Addr → Addr → Den O} {g : Addr → Addr → Den D} (h : UD i x f) (k : UD i x g) : UD i x (fun a dd => dixO (f a dd) (g a dd)) := ud_bind h fun v => ud_bind (ud_dq k) fun vs => ud_lift
theorem ud_dixX {f : Addr → Addr → Den O} {g : Addr → Addr → Den D} (h : UD i x f) (k : UD i x g) : UD i x (fun a dd => dixX (f a dd) (g a dd)) := ud_bind h fun v => ud_bind (ud_dq k) fun vs => ud_lift
def borRes (e : Env) (j : Nat) (b : Bool) (o : O) : Option FRes → Option (Res Rv)
  | some (.ok m [o'] (.im d)) => some (.ok (m && !allIm [o]) (e.set j (some (b, o'))) (.im d))
  | some (.ok m [o'] (.new p)) => some (.ok (m && !allIm [o]) (e.set j (some (b, o'))) (.new p))
  | some (.err m [o'] x) => some (.err (m && !allIm [o]) (e.set j (some (b, o'))) x)
  | _ => none
theorem unlend_two {e : Env} {j : Nat} {b : Bool} {os : List O} (hj : j < e.length) : unlend [some (j, b)] os (e.set j none) = match os with
    | [o'] => some (e.set j (some (b, o')))
    | _ => none := by
  cases os with
  | nil => rfl
  | cons o' r =>
    show (match (e.set j none)[j]? with
      | some none => unlend [] r ((e.set j none).set j (some (b, o')))
      | _ => none) = _
    rw [List.getElem?_set_self hj]
    dsimp only
    rw [List.set_set]
    cases r <;> rfl
theorem dfnA_bor {n j : Nat} {f : FDen} {e : Env} {b : Bool} {o : O} (h : e[j]? = some (some (b, o))) : dfnA n f [.bor j] e = if 1 = n then borRes e j b o (f [o]) else none := by
  have hj : j < e.length := (List.getElem?_eq_some_iff.mp h).1
  unfold dfnA
  by_cases hn : 1 = n
  · rw [if_pos hn, if_pos (show [AR.bor j].length = n from hn)]
    have hl : lend [.bor j] e = some ([o], [some (j, b)], e.set j none) := by
      show (match lend [] e with
        | some r => match r.2.2[j]? with
          | some (some (b, o)) => some (o :: r.1, some (j, b) :: r.2.1, r.2.2.set j none)
          | _ => none
        | none => none) = _
      dsimp only [lend]
      rw [h]
    rw [hl]
    dsimp only
    cases hf : f [o] with
    | none => rfl
    | some r =>
      cases r with
      | err m os x =>
        dsimp only
        rw [unlend_two hj]
        unfold borRes
        cases os with
        | nil => rfl
        | cons o' r => cases r <;> rfl
      | ok m os v =>
        cases v <;>
        · dsimp only
          rw [unlend_two hj]
          unfold borRes
          cases os with
          | nil => rfl
          | cons o' r => cases r <;> rfl
  · rw [if_neg hn, if_neg (show ¬ [AR.bor j].length = n from hn)]
theorem borRes_map {e : Env} {i j : Nat} {b : Bool} {o : O} {s : Slot} {r : Option FRes} (hj : j ≠ i) : borRes (e.set i s) j b o r = (borRes e j b o r).map (Res.mapE fun e' => e'.set i s) := by
  have c : ∀ o', (e.set i s).set j (some (b, o')) = (e.set j (some (b, o'))).set i s := fun o' => List.set_comm _ _ (Ne.symm hj)
  cases r with
  | none => rfl
  | some r =>
    cases r with
    | err m os x =>
      cases os with
      | nil => rfl
      | cons o' r =>
        cases r with
        | nil => unfold borRes; dsimp only [Option.map_some, Res.mapE]; rw [c]
        | cons _ _ => rfl
    | ok m os v =>
      cases os with
      | nil => cases v <;> rfl
      | cons o' r =>
        cases r with
        | nil => cases v <;> (unfold borRes; dsimp only [Option.map_some, Res.mapE]; rw [c])
        | cons _ _ => cases v <;> rfl
theorem borRes_free {e : Env} {i j : Nat} {b : Bool} {o : O} {r : Option FRes} {z : Res Rv} (he : Env.free e i = true) (hj : j ≠ i) (h : borRes e j b o r = some z) : Env.free z.envOf i = true := by
  unfold borRes at h
  split at h <;> first | (cases h; exact free_set he hj) | cases h
theorem ud_bindV {f : Addr → Addr → Den α} {k : Addr → Addr → α → Den β} {P : α → Prop} (h : UD i x f) (hp : ∀ e m e' v, f 0 0 e = some (.ok m e' v) → P v) (h2 : ∀ v, P v → UD i x fun a dd => k a dd v) : UD i x (fun a dd => dbind (f a dd) (k a dd)) := fun e he => by
  obtain ⟨g, g1, g2⟩ := h e he
  cases g with
  | none => exact ⟨none, fun r z => (by cases z), fun a dd => by dsimp only [dbind]; rw [g2]; rfl⟩
  | some r =>
    cases r with
    | err m e1 z => exact ⟨some (.err m e1 z), fun r q => by cases q; exact g1 _ rfl, fun a dd => by dsimp only [dbind]; rw [g2]; rfl⟩
    | ok m e1 v =>
      obtain ⟨g', k1, k2⟩ := h2 v (hp _ _ _ _ (g2 0 0)) e1 (g1 _ rfl)
      dsimp only at k2
      refine ⟨Res.more (α := α) m g', fun r q => ?_, fun a dd => ?_⟩
      · cases g' with
        | none => cases q
        | some r' => cases r' <;> (cases q; have z := k1 _ rfl; exact z)
      · dsimp only [dbind]
        rw [g2]
        dsimp only [Option.map_some, Res.mapE]
        rw [k2, more_map]
theorem dfnA_im {n : Nat} {f : FDen} {e : Env} {d : D} : dfnA n f [.im d] e = if 1 = n then (match f [.im d] with
    | some (.ok m [_] (.im v)) => some (.ok (m && !allIm [O.im d]) e (.im v))
    | some (.ok m [_] (.new p)) => some (.ok (m && !allIm [O.im d]) e (.new p))
    | some (.err m [_] x) => some (.err (m && !allIm [O.im d]) e x)
    | _ => none) else none := by
  unfold dfnA
  by_cases hn : 1 = n
  · rw [if_pos hn, if_pos (show [AR.im d].length = n from hn)]
    rw [show lend [.im d] e = some ([.im d], [none], e) from rfl]
    dsimp only
    cases hf : f [.im d] with
    | none => rfl
    | some r =>
      cases r with
      | err m os x => cases os with
        | nil => rfl
        | cons o' r => cases r <;> rfl
      | ok m os v => cases v <;> (cases os with
          | nil => rfl
          | cons o' r => cases r <;> rfl)
  · rw [if_neg hn, if_neg (show ¬ [AR.im d].length = n from hn)]
theorem ud_meth0 {C : Addr} {m : Str} {n j : Nat} {f : FDen} (hj : j ≠ i) : UD i x (fun _ _ => dmeth C m n f (dvar j) (dpure []) []) := by
  have key : ∀ (e : Env) a dd, (e.set i (excSlot x a dd))[j]? = e[j]? := fun e a dd => List.getElem?_set_ne (Ne.symm hj)
  unfold dmeth
  refine ud_bindV (P := fun v => (∃ d, v = .im d) ∨ v = .bor j) (ud_bind (ud_var hj) fun v => ud_pure) (fun e m e' v h => ?_) fun v hv => ?_
  · unfold ar1 dbind dvar at h
    cases q : e[j]? with
    | none => rw [q] at h; cases h
    | some s =>
      rw [q] at h
      cases s with
      | none => cases h
      | some z =>
        obtain ⟨b, o⟩ := z
        cases o <;> cases h <;> first | exact .inl ⟨_, rfl⟩ | exact .inr rfl
  · intro e he
    have one : ∀ (a : AR) (e' : Env), (dbind (dpure []) fun as => dfnA n f (a :: (as ++ ([] : List D).map AR.im))) e' = Res.more (α := List AR) false (dfnA n f [a] e') := fun a e' => rfl
    rcases hv with ⟨d, rfl⟩ | rfl
    · refine ⟨if isC C m (.im d) e = true then Res.more (α := List AR) false (dfnA n f [.im d] e) else none, fun r z => ?_, fun a dd => ?_⟩
      · split at z
        · rw [dfnA_im] at z
          split at z
          · split at z <;> first | (cases z; exact he) | cases z
          · cases z
        · cases z
      · dsimp only
        rw [show isC C m (.im d) (e.set i (excSlot x a dd)) = isC C m (.im d) e by cases d <;> rfl, one, dfnA_im, dfnA_im]
        split
        · split
          · split <;> rfl
          · rfl
        · rfl
    · refine ⟨if isC C m (.bor j) e = true then Res.more (α := List AR) false (dfnA n f [.bor j] e) else none, fun r z => ?_, fun a dd => ?_⟩
      · split at z
        · cases q : e[j]? with
          | none => rename_i hc; unfold isC at hc; dsimp only at hc; rw [q] at hc; cases hc
          | some s =>
            cases s with
            | none => rename_i hc; unfold isC at hc; dsimp only at hc; rw [q] at hc; cases hc
            | some w =>
              obtain ⟨b, o⟩ := w
              rw [dfnA_bor q] at z
              split at z
              · cases hb : borRes e j b o (f [o]) with
                | none => rw [hb] at z; cases z
                | some y =>
                  rw [hb] at z
                  have := borRes_free he hj hb
                  cases y <;> (cases z; exact this)
              · cases z
        · cases z
      · dsimp only
        rw [show isC C m (.bor j) (e.set i (excSlot x a dd)) = isC C m (.bor j) e by unfold isC; dsimp only; rw [key], one]
        split
        · rename_i hc
          cases q : e[j]? with
          | none => unfold isC at hc; dsimp only at hc; rw [q] at hc; cases hc
          | some s =>
            cases s with
            | none => unfold isC at hc; dsimp only at hc; rw [q] at hc; cases hc
            | some w =>
              obtain ⟨b, o⟩ := w
              rw [dfnA_bor q, dfnA_bor ((key e a dd).trans q), borRes_map hj]
              split
              · rw [more_map]
              · rfl
        · rfl
end
/-! ### a def that raises, its arguments lent -/
def FX (f : FDen) (os : List O) (P : List O → Xn → Prop) : Prop := ∃ m os' x, f os = some (.err m os' x) ∧ P os' x
theorem FX.imp {f : FDen} {os : List O} {P Q : List O → Xn → Prop} (h : FX f os P) (k : ∀ o x, P o x → Q o x) : FX f os Q := by
  obtain ⟨m, o, x, h1, h2⟩ := h
  exact ⟨m, o, x, h1, k o x h2⟩
/-! ### a def that changes nothing: its call is quiet -/
def FOQ (f : FDen) (os : List O) (Post : List O → FRv → Prop) : Prop := ∃ os' r, f os = some (.ok false os' r) ∧ Post os' r
theorem FOQ.fo {f : FDen} {os : List O} {P : List O → FRv → Prop} (h : FOQ f os P) : FO f os P := by
  obtain ⟨os', r, h1, h2⟩ := h
  exact ⟨false, os', r, h1, h2⟩
end
end DL

/-! DNF: for over a dict that stands in an object that is held: frozen while the loop runs, then given back. -/
namespace DL
open PySem PySem.Spec PyProof.Rows L2 Evl
/-! ### what stays told when cells are taken out of what is frozen -/
structure Fl where
  l : Bool
  i : Bool
  t : Bool
def Fl.or (a b : Fl) : Fl := ⟨a.l || b.l, a.i || b.i, a.t || b.t⟩
def Fl.none : Fl := ⟨false, false, false⟩
mutual
def flO : O → Fl
  | .im _ => Fl.none
  | .lst os => (Fl.mk true false false).or (flOs os)
  | .tup os => (Fl.mk false false true).or (flOs os)
  | .dct _ os => flOs os
  | .ins _ _ os => (Fl.mk false true false).or (flOs os)
def flOs : List O → Fl
  | [] => Fl.none
  | o :: os => (flO o).or (flOs os)
end
def Fl.le (a b : Fl) : Prop := (a.l = true → b.l = true) ∧ (a.i = true → b.i = true) ∧ (a.t = true → b.t = true)
theorem Fl.le_refl (a : Fl) : a.le a := ⟨id, id, id⟩
theorem Fl.le_trans {a b c : Fl} (h : a.le b) (k : b.le c) : a.le c := ⟨fun z => k.1 (h.1 z), fun z => k.2.1 (h.2.1 z), fun z => k.2.2 (h.2.2 z)⟩
theorem Fl.le_l (a b : Fl) : a.le (a.or b) := ⟨fun z => by show (a.l || b.l) = true; rw [z]; rfl, fun z => by show (a.i || b.i) = true; rw [z]; rfl, fun z => by show (a.t || b.t) = true; rw [z]; rfl⟩
theorem Fl.le_r (a b : Fl) : b.le (a.or b) := ⟨fun z => by show (a.l || b.l) = true; rw [z, Bool.or_true], fun z => by show (a.i || b.i) = true; rw [z, Bool.or_true], fun z => by show (a.t || b.t) = true; rw [z, Bool.or_true]⟩
/-- the kind of a cell that is taken out -/
def knd (f : Fl) : HO → Prop
  | .lst _ => f.l = true
  | .tup _ => f.t = true
  | .ins _ _ _ => f.i = true
  | .dK _ => True
  | .ext _ => True
  | .frz _ (.dK _) => True
  | .frz _ (.ext _) => True
  | _ => False
theorem knd.le {a b : Fl} (h : a.le b) : ∀ {u : HO}, knd a u → knd b u := by
  intro u k
  cases u with
  | lst xs => exact h.1 k
  | tup xs => exact h.2.2 k
  | ins C dx fs => exact h.2.1 k
  | frz o u => cases u <;> exact k
  | _ => exact k
mutual
def okD (f : Fl) : D → Bool
  | .any => true
  | .non => true
  | .bl _ => true
  | .int _ => true
  | .str _ => true
  | .ty _ => true
  | .adr _ => true
  | .tup ds => !f.t && okDs f ds
  | .wtp ds => !f.t && okDs f ds
  | .lst ds => !f.l && okDs f ds
  | .scr ds => !f.l && okDs f ds
  | .dct _ _ => false
  | .ins _ _ ds => !f.i && okDs f ds
  | .exc _ _ _ _ ds => okDs f ds
def okDs (f : Fl) : List D → Bool
  | [] => true
  | d :: ds => okD f d && okDs f ds
end
mutual
def okO (f : Fl) : O → Bool
  | .im d => okD f d
  | .lst os => okOs f os
  | .tup os => okOs f os
  | .dct _ os => !f.t && okOs f os
  | .ins _ _ os => okOs f os
def okOs (f : Fl) : List O → Bool
  | [] => true
  | o :: os => okO f o && okOs f os
end
def rmF (P : List Addr) (F : Hp) : Hp := fun p => if p ∈ P then none else F p
section
variable {K : KB} {F : Hp} {P : List Addr} {f : Fl}
theorem rd_rm {a : Addr} {u : HO} (hk : ∀ p ∈ P, ∀ w, F p = some w → knd f w) (h : Rd F a u) (h1 : ¬ knd f u) (h2 : ∀ o, ¬ knd f (.frz o u)) : Rd (rmF P F) a u := by
  have na : a ∉ P := fun m => by
    rcases h with h | ⟨o, h⟩
    · exact h1 (hk a m _ h)
    · exact h2 o (hk a m _ h)
  rcases h with h | ⟨o, h⟩
  · exact .inl (by unfold rmF; rw [if_neg na]; exact h)
  · exact .inr ⟨o, by unfold rmF; rw [if_neg na]; exact h⟩
theorem sqT_rm {a : Addr} {xs : List V} (hk : ∀ p ∈ P, ∀ w, F p = some w → knd f w) (ht : f.t = false) (h : SqT K F a xs) : SqT K (rmF P F) a xs := by
  rcases h with h | h
  · exact .inl (rd_rm hk h (fun z => by rw [show f.t = true from z] at ht; cases ht) fun o z => z)
  · exact .inr h
theorem sqL_rm {a : Addr} {xs : List V} (hk : ∀ p ∈ P, ∀ w, F p = some w → knd f w) (ht : f.l = false) (h : SqL K F a xs) : SqL K (rmF P F) a xs := by
  rcases h with h | h
  · exact .inl (rd_rm hk h (fun z => by rw [show f.l = true from z] at ht; cases ht) fun o z => z)
  · exact .inr h
mutual
theorem rep_rm (hk : ∀ p ∈ P, ∀ w, F p = some w → knd f w) : ∀ (d : D) (v : V), okD f d = true → Rep K F d v → Rep K (rmF P F) d v
  | .any, v, o, h => h
  | .non, v, o, h => h
  | .bl b, v, o, h => h
  | .int i, v, o, h => h
  | .str x, v, o, h => h
  | .ty n, v, o, h => h
  | .adr a, v, o, h => h
  | .tup ds, v, o, h => by
    obtain ⟨a, xs, e1, h1, h2⟩ := h
    rw [okD, Bool.and_eq_true, Bool.not_eq_true'] at o
    exact ⟨a, xs, e1, sqT_rm hk o.1 h1, reps_rm hk ds xs o.2 h2⟩
  | .wtp ds, v, o, h => by
    obtain ⟨a, xs, e1, h1, h2⟩ := h
    rw [okD, Bool.and_eq_true, Bool.not_eq_true'] at o
    exact ⟨a, xs, e1, sqT_rm hk o.1 h1, reps_rm hk ds xs o.2 h2⟩
  | .lst ds, v, o, h => by
    obtain ⟨a, xs, e1, h1, h2⟩ := h
    rw [okD, Bool.and_eq_true, Bool.not_eq_true'] at o
    refine ⟨a, xs, e1, ?_, reps_rm hk ds xs o.2 h2⟩
    have na : a ∉ P := fun m => by have := hk a m _ h1; rw [show f.l = true from this] at o; cases o.1
    unfold rmF
    rw [if_neg na]
    exact h1
  | .scr ds, v, o, h => by
    obtain ⟨a, xs, e1, h1, h2⟩ := h
    rw [okD, Bool.and_eq_true, Bool.not_eq_true'] at o
    exact ⟨a, xs, e1, sqL_rm hk o.1 h1, reps_rm hk ds xs o.2 h2⟩
  | .dct ks ds, v, o, h => by cases o
  | .ins C ns ds, v, o, h => by
    obtain ⟨a, dx, xs, e1, h1, h2, h3⟩ := h
    rw [okD, Bool.and_eq_true, Bool.not_eq_true'] at o
    refine ⟨a, dx, xs, e1, ?_, h2, reps_rm hk ds xs o.2 h3⟩
    have na : a ∉ P := fun m => by have := hk a m _ h1; rw [show f.i = true from this] at o; cases o.1
    unfold rmF
    rw [if_neg na]
    exact h1
  | .exc c a dd ns ds, v, o, h => by
    obtain ⟨xs, e1, h1, h2, h3⟩ := h
    rw [okD] at o
    refine ⟨xs, e1, ?_, h2, reps_rm hk ds xs o h3⟩
    have na : dd ∉ P := fun m => hk dd m _ h1
    unfold rmF
    rw [if_neg na]
    exact h1
theorem reps_rm (hk : ∀ p ∈ P, ∀ w, F p = some w → knd f w) : ∀ (ds : List D) (xs : List V), okDs f ds = true → Reps K F ds xs → Reps K (rmF P F) ds xs
  | [], xs, o, h => h
  | d :: ds, xs, o, h => by
    obtain ⟨x, r, e1, h1, h2⟩ := h
    rw [okDs, Bool.and_eq_true] at o
    exact ⟨x, r, e1, rep_rm hk d x o.1 h1, reps_rm hk ds r o.2 h2⟩
end
theorem dictAt_rm {a : Addr} {ho : HO} {ks : List D} {xs : List V} (hk : ∀ p ∈ P, ∀ w, F p = some w → knd f w) (ht : f.t = false) (h : DictAt K F a ho ks xs) : DictAt K (rmF P F) a ho ks xs := by
  rcases h with h | ⟨kvs, h1, h2, h3, h4⟩
  · exact .inl h
  · exact .inr ⟨kvs, h1, ⟨h2.1, h2.2.len, h2.2.sys, h2.2.nd, fun x hx => sqT_rm hk ht (h2.2.at_ x hx)⟩, h3, h4⟩
mutual
theorem own_rm {H H3 : Hp} (hk : ∀ p ∈ P, ∀ w, F p = some w → knd f w) : ∀ (o : O) (v : V) (fs : List Addr), okO f o = true → (∀ p ∈ fs, ∀ u, H p = some u → H3 p = some u) → Own K F H o v fs → Own K (rmF P F) H3 o v fs
  | .im d, v, fs, z, k, h => ⟨h.1, rep_rm hk d v z h.2⟩
  | .lst os, v, fs, z, k, h => by
    obtain ⟨a, xs, r, e1, e2, h1, h2⟩ := h
    subst e2
    exact ⟨a, xs, r, e1, rfl, k a List.mem_cons_self _ h1, owns_rm hk os xs r z (fun p hp => k p (List.mem_cons_of_mem _ hp)) h2⟩
  | .tup os, v, fs, z, k, h => by
    obtain ⟨a, xs, r, e1, e2, h1, h2⟩ := h
    subst e2
    exact ⟨a, xs, r, e1, rfl, k a List.mem_cons_self _ h1, owns_rm hk os xs r z (fun p hp => k p (List.mem_cons_of_mem _ hp)) h2⟩
  | .dct ks os, v, fs, z, k, h => by
    obtain ⟨a, ho, xs, r, e1, e2, h1, h0, h2⟩ := h
    subst e2
    rw [okO, Bool.and_eq_true, Bool.not_eq_true'] at z
    exact ⟨a, ho, xs, r, e1, rfl, k a List.mem_cons_self _ h1, dictAt_rm hk z.1 h0, owns_rm hk os xs r z.2 (fun p hp => k p (List.mem_cons_of_mem _ hp)) h2⟩
  | .ins C ns os, v, fs, z, k, h => by
    obtain ⟨a, dx, xs, r, e1, e2, h1, h0, h2⟩ := h
    subst e2
    exact ⟨a, dx, xs, r, e1, rfl, k a List.mem_cons_self _ h1, h0, owns_rm hk os xs r z (fun p hp => k p (List.mem_cons_of_mem _ hp)) h2⟩
theorem owns_rm {H H3 : Hp} (hk : ∀ p ∈ P, ∀ w, F p = some w → knd f w) : ∀ (os : List O) (xs : List V) (fs : List Addr), okOs f os = true → (∀ p ∈ fs, ∀ u, H p = some u → H3 p = some u) → Owns K F H os xs fs → Owns K (rmF P F) H3 os xs fs
  | [], xs, fs, z, k, h => h
  | o :: os, xs, fs, z, k, h => by
    obtain ⟨x, r, f1, f2, e1, e2, h1, h2⟩ := h
    subst e2
    rw [okOs, Bool.and_eq_true] at z
    exact ⟨x, r, f1, f2, e1, rfl, own_rm hk o x f1 z.1 (fun p hp => k p (List.mem_append_left _ hp)) h1, owns_rm hk os r f2 z.2 (fun p hp => k p (List.mem_append_right _ hp)) h2⟩
end
end
/-! ### what is held, frozen, a dict of it locked -/
def dctHO : HO → Prop
  | .dK _ => True
  | .ext _ => True
  | _ => False
mutual
theorem own_repL {K : KB} {F H F' : Hp} (e : Ex F F') : ∀ (o : O) (v : V) (fs : List Addr), (∀ p ∈ fs, ∀ u, H p = some u → F' p = some u ∨ (dctHO u ∧ ∃ od, F' p = some (.frz od u))) → Own K F H o v fs → Rep K F' o.flat v
  | .im d, v, fs, k, h => Rep.mono e d v h.2
  | .lst os, v, fs, k, h => by
    obtain ⟨a, xs, r, e1, e2, h1, h2⟩ := h
    subst e2
    refine ⟨a, xs, e1, ?_, owns_repL e os xs r (fun p hp => k p (List.mem_cons_of_mem _ hp)) h2⟩
    rcases k a List.mem_cons_self _ h1 with z | ⟨z, _⟩
    · exact z
    · exact False.elim z
  | .tup os, v, fs, k, h => by
    obtain ⟨a, xs, r, e1, e2, h1, h2⟩ := h
    subst e2
    refine ⟨a, xs, e1, ?_, owns_repL e os xs r (fun p hp => k p (List.mem_cons_of_mem _ hp)) h2⟩
    rcases k a List.mem_cons_self _ h1 with z | ⟨z, _⟩
    · exact SqT.of z
    · exact False.elim z
  | .dct ks os, v, fs, k, h => by
    obtain ⟨a, ho, xs, r, e1, e2, h1, h0, h2⟩ := h
    subst e2
    refine ⟨a, ho, xs, e1, ?_, h0.mono e, owns_repL e os xs r (fun p hp => k p (List.mem_cons_of_mem _ hp)) h2⟩
    rcases k a List.mem_cons_self _ h1 with z | ⟨_, od, z⟩
    · exact .inl z
    · exact .inr ⟨od, z⟩
  | .ins C ns os, v, fs, k, h => by
    obtain ⟨a, dx, xs, r, e1, e2, h1, h0, h2⟩ := h
    subst e2
    refine ⟨a, dx, xs, e1, ?_, h0, owns_repL e os xs r (fun p hp => k p (List.mem_cons_of_mem _ hp)) h2⟩
    rcases k a List.mem_cons_self _ h1 with z | ⟨z, _⟩
    · exact z
    · exact False.elim z
theorem owns_repL {K : KB} {F H F' : Hp} (e : Ex F F') : ∀ (os : List O) (xs : List V) (fs : List Addr), (∀ p ∈ fs, ∀ u, H p = some u → F' p = some u ∨ (dctHO u ∧ ∃ od, F' p = some (.frz od u))) → Owns K F H os xs fs → Reps K F' (O.flats os) xs
  | [], xs, fs, k, h => h.1
  | o :: os, xs, fs, k, h => by
    obtain ⟨x, r, f1, f2, e1, e2, h1, h2⟩ := h
    subst e2
    exact ⟨x, r, e1, own_repL e o x f1 (fun p hp => k p (List.mem_append_left _ hp)) h1, owns_repL e os r f2 (fun p hp => k p (List.mem_append_right _ hp)) h2⟩
end
mutual
theorem own_knd {K : KB} {F H : Hp} : ∀ (o : O) (v : V) (fs : List Addr), Own K F H o v fs → ∀ p ∈ fs, ∀ u, H p = some u → knd (flO o) u
  | .im d, v, fs, h, p, hp, u, hu => by rw [h.1] at hp; cases hp
  | .lst os, v, fs, h, p, hp, u, hu => by
    obtain ⟨a, xs, r, e1, e2, h1, h2⟩ := h
    subst e2
    rcases List.mem_cons.mp hp with z | hp
    · subst z; rw [h1] at hu; cases hu; exact (Fl.le_l _ _).1 rfl
    · exact knd.le (Fl.le_r _ _) (owns_knd os xs r h2 p hp u hu)
  | .tup os, v, fs, h, p, hp, u, hu => by
    obtain ⟨a, xs, r, e1, e2, h1, h2⟩ := h
    subst e2
    rcases List.mem_cons.mp hp with z | hp
    · subst z; rw [h1] at hu; cases hu; exact (Fl.le_l _ _).2.2 rfl
    · exact knd.le (Fl.le_r _ _) (owns_knd os xs r h2 p hp u hu)
  | .dct ks os, v, fs, h, p, hp, u, hu => by
    obtain ⟨a, ho, xs, r, e1, e2, h1, h0, h2⟩ := h
    subst e2
    rcases List.mem_cons.mp hp with z | hp
    · subst z
      rw [h1] at hu
      cases hu
      rcases h0 with ⟨kvs, e, _⟩ | ⟨kvs, e, _⟩ <;> (subst e; exact True.intro)
    · exact owns_knd os xs r h2 p hp u hu
  | .ins C ns os, v, fs, h, p, hp, u, hu => by
    obtain ⟨a, dx, xs, r, e1, e2, h1, h0, h2⟩ := h
    subst e2
    rcases List.mem_cons.mp hp with z | hp
    · subst z; rw [h1] at hu; cases hu; exact (Fl.le_l _ _).2.1 rfl
    · exact knd.le (Fl.le_r _ _) (owns_knd os xs r h2 p hp u hu)
theorem owns_knd {K : KB} {F H : Hp} : ∀ (os : List O) (xs : List V) (fs : List Addr), Owns K F H os xs fs → ∀ p ∈ fs, ∀ u, H p = some u → knd (flOs os) u
  | [], xs, fs, h, p, hp, u, hu => by rw [h.2] at hp; cases hp
  | o :: os, xs, fs, h, p, hp, u, hu => by
    obtain ⟨x, r, f1, f2, e1, e2, h1, h2⟩ := h
    subst e2
    rcases List.mem_append.mp hp with z | z
    · exact knd.le (Fl.le_l _ _) (own_knd o x f1 h1 p z u hu)
    · exact knd.le (Fl.le_r _ _) (owns_knd os r f2 h2 p z u hu)
end
end DL

/-! DNG: slots frozen for a while, and given back. -/
namespace DL
open PySem PySem.Spec PyProof.Rows L2 Evl
def pinS (ks : List Nat) : Nat → Env → Env
  | _, [] => []
  | n, s :: e => (if n ∈ ks then s.map (fun q => (true, O.im q.2.flat)) else s) :: pinS ks (n + 1) e
def mend1 (f : Fl) (k : Bool) (s s' : Slot) : Option Slot := match k with
  | true => match s, s' with
    | some q, some (true, _) => some (some q)
    | _, _ => none
  | false => match s', s with
    | none, _ => some none
    | some (false, o'), _ => if okO f o' = true then some (some (false, o')) else none
    | some (true, o'), some (true, _) => if okO f o' = true then some (some (true, o')) else none
    | _, _ => none
def mendS (f : Fl) (ks : List Nat) : Nat → Env → Env → Option Env
  | _, [], [] => some []
  | n, s :: e, s' :: e' => (mend1 f (decide (n ∈ ks)) s s').bind fun z => (mendS f ks (n + 1) e e').map (z :: ·)
  | _, _, _ => none
def flE (ks : List Nat) : Nat → Env → Fl
  | _, [] => Fl.none
  | n, s :: e => if n ∈ ks then (match s with
    | some q => (flO q.2).or (flE ks (n + 1) e)
    | none => flE ks (n + 1) e) else flE ks (n + 1) e
section
variable {K : KB} {F H : Hp} {ks : List Nat} {f : Fl}
theorem pin_ok : ∀ (e : Env) (n : Nat) (σ σ0 : L2.St) (hs : List (V × O)) (fs : List Addr), Slots e σ σ0 hs → Held K F H hs fs → (flE ks n e).le f →
    ∃ fk fr hs', fs.Perm (fk ++ fr) ∧ Slots (pinS ks n e) σ σ hs' ∧ (∀ p ∈ fk, ∀ u, H p = some u → knd f u) ∧
      (∀ (j : Nat) (b : Bool) (o : O), n + j ∈ ks → e[j]? = some (some (b, o)) → ∃ v fi, σ[j]? = some (some v) ∧ Own K F H o v fi ∧ fi.Sublist fk) ∧
      (∀ F' H', Ex F F' → (∀ p ∈ fk, ∀ u, H p = some u → F' p = some u ∨ (dctHO u ∧ ∃ od, F' p = some (.frz od u))) → (∀ p ∈ fr, ∀ u, H p = some u → H' p = some u) → Held K F' H' hs' fr) ∧
      (∀ (F'' H'' H3 : Hp) (P : List Addr) (e'' e3 : Env) (σ'' : L2.St) (hs'' : List (V × O)) (fs'' : List Addr), Slots e'' σ'' σ hs'' → Held K F'' H'' hs'' fs'' → mendS f ks n e e'' = some e3 → Ex F (rmF P F'') → (∀ p ∈ P, ∀ w, F'' p = some w → knd f w) →
        (∀ p ∈ fk, ∀ u, H p = some u → H3 p = some u) → (∀ p ∈ fs'', ∀ u, H'' p = some u → H3 p = some u) → ∃ hs3 fs3 g, Slots e3 σ'' σ0 hs3 ∧ Held K (rmF P F'') H3 hs3 fs3 ∧ g.Sublist fs'' ∧ fs3.Perm (fk ++ g))
  | [], n, σ, σ0, hs, fs, h, hd, hf => by
    obtain ⟨rfl, rfl⟩ := h
    have hfs : fs = [] := hd
    subst hfs
    refine ⟨[], [], [], List.Perm.refl _, ⟨rfl, rfl⟩, fun p hp => (by cases hp), fun j b o _ z => (by simp at z), fun F' H' _ _ _ => rfl, ?_⟩
    intro F'' H'' H3 P e'' e3 σ'' hs'' fs'' h1 h2 h3 _ _ _ _
    cases e'' with
    | nil =>
      cases h3
      obtain ⟨rfl, rfl⟩ := h1
      exact ⟨[], [], [], ⟨rfl, rfl⟩, rfl, List.nil_sublist _, List.Perm.refl _⟩
    | cons _ _ => cases h3
  | none :: e, n, σ, σ0, hs, fs, h, hd, hf => by
    obtain ⟨x, r, rfl, h1⟩ := h
    have hf' : (flE ks (n + 1) e).le f := by
      unfold flE at hf
      by_cases hn : n ∈ ks
      · rw [if_pos hn] at hf; exact hf
      · rw [if_neg hn] at hf; exact hf
    obtain ⟨fk, fr, hs', p1, p2, p3, p4, p5, p6⟩ := pin_ok e (n + 1) r σ0.tail hs fs h1 hd hf'
    refine ⟨fk, fr, hs', p1, ?_, p3, ?_, p5, ?_⟩
    · have : pinS ks n (none :: e) = none :: pinS ks (n + 1) e := by
        show (if n ∈ ks then _ else _) :: _ = _
        split <;> rfl
      rw [this]
      exact ⟨x, r, rfl, p2⟩
    · intro j b o hj hz
      cases j with
      | zero => simp at hz
      | succ j =>
        obtain ⟨v, fi, q1, q2, q3⟩ := p4 j b o (by rw [show n + 1 + j = n + (j + 1) by omega]; exact hj) (by simpa using hz)
        exact ⟨v, fi, by simpa using q1, q2, q3⟩
    · intro F'' H'' H3 P e'' e3 σ'' hs'' fs'' h1 h2 h3 x1 x2 x3 x4
      cases e'' with
      | nil => cases h3
      | cons s' e1 =>
        obtain ⟨z, hz, h3⟩ := Option.bind_eq_some_iff.mp h3
        obtain ⟨e4, h4, rfl⟩ := Option.map_eq_some_iff.mp h3
        by_cases hn : n ∈ ks
        · rw [decide_eq_true hn] at hz
          cases hz
        · rw [decide_eq_false hn] at hz
          cases s' with
          | none =>
            cases hz
            obtain ⟨x', r', rfl, k1⟩ := h1
            obtain ⟨hs3, fs3, g, g1, g2, g3, g4⟩ := p6 F'' H'' H3 P e1 e4 r' hs'' fs'' k1 h2 h4 x1 x2 x3 x4
            exact ⟨hs3, fs3, g, ⟨x', r', rfl, g1⟩, g2, g3, g4⟩
          | some q =>
            obtain ⟨b', o'⟩ := q
            cases b' with
            | true => cases hz
            | false =>
              obtain ⟨ho', hz⟩ := (show okO f o' = true ∧ some (some (false, o')) = some z by
                have hz : (if okO f o' = true then some (some (false, o')) else none) = some z := hz
                split at hz
                · rename_i h; exact ⟨h, hz⟩
                · cases hz)
              cases hz
              obtain ⟨v', r', hr', rfl, _, rfl, k1⟩ := h1
              obtain ⟨g1, g2, rfl, w1, w2⟩ := h2
              obtain ⟨hs3, fs3, g, y1, y2, y3, y4⟩ := p6 F'' H'' H3 P e1 e4 r' hr' g2 k1 w2 h4 x1 x2 x3 (fun p hp => x4 p (List.mem_append_right _ hp))
              refine ⟨(v', o') :: hs3, g1 ++ fs3, g1 ++ g, ⟨v', r', hs3, rfl, (fun z => by cases z), rfl, y1⟩, ⟨g1, fs3, rfl, own_rm x2 o' v' g1 ho' (fun p hp => x4 p (List.mem_append_left _ hp)) w1, y2⟩, y3.append_left g1, ?_⟩
              exact (y4.append_left g1).trans (by rw [← List.append_assoc, ← List.append_assoc]; exact List.perm_append_comm.append_right g)
  | some q :: e, n, σ, σ0, hs, fs, h, hd, hf => by
    obtain ⟨v, r, hr, rfl, hb, rfl, h1⟩ := h
    obtain ⟨f1, f2, rfl, w1, w2⟩ := hd
    by_cases hn : n ∈ ks
    · have hf1 : (flO q.2).le f ∧ (flE ks (n + 1) e).le f := by
        unfold flE at hf
        rw [if_pos hn] at hf
        exact ⟨Fl.le_trans (Fl.le_l _ _) hf, Fl.le_trans (Fl.le_r _ _) hf⟩
      obtain ⟨fk, fr, hs', p1, p2, p3, p4, p5, p6⟩ := pin_ok e (n + 1) r σ0.tail hr f2 h1 w2 hf1.2
      refine ⟨f1 ++ fk, fr, (v, .im q.2.flat) :: hs', ?_, ?_, ?_, ?_, ?_, ?_⟩
      · rw [List.append_assoc]; exact p1.append_left f1
      · have : pinS ks n (some q :: e) = some (true, .im q.2.flat) :: pinS ks (n + 1) e := by
          show (if n ∈ ks then _ else _) :: _ = _
          rw [if_pos hn]; rfl
        rw [this]
        exact ⟨v, r, hs', rfl, fun _ => rfl, rfl, p2⟩
      · intro p hp u hu
        rcases List.mem_append.mp hp with hp | hp
        · exact knd.le hf1.1 (own_knd _ _ _ w1 p hp u hu)
        · exact p3 p hp u hu
      · intro j b o hj hz
        cases j with
        | zero =>
          have : q = (b, o) := by simpa using hz
          subst this
          exact ⟨v, f1, rfl, w1, List.sublist_append_left _ _⟩
        | succ j =>
          obtain ⟨v', fi, q1, q2, q3⟩ := p4 j b o (by rw [show n + 1 + j = n + (j + 1) by omega]; exact hj) (by simpa using hz)
          exact ⟨v', fi, by simpa using q1, q2, q3.trans (List.sublist_append_right _ _)⟩
      · intro F' H' x1 x2 x3
        refine ⟨[], fr, rfl, ⟨rfl, ?_⟩, p5 F' H' x1 (fun p hp => x2 p (List.mem_append_right _ hp)) x3⟩
        exact own_repL x1 _ _ f1 (fun p hp => x2 p (List.mem_append_left _ hp)) w1
      · intro F'' H'' H3 P e'' e3 σ'' hs'' fs'' k0 h2 h3 x1 x2 x3 x4
        cases e'' with
        | nil => cases h3
        | cons s' e1 =>
          obtain ⟨z, hz, h3⟩ := Option.bind_eq_some_iff.mp h3
          obtain ⟨e4, h4, rfl⟩ := Option.map_eq_some_iff.mp h3
          rw [decide_eq_true hn] at hz
          cases s' with
          | none => cases hz
          | some q' =>
            obtain ⟨b', o'⟩ := q'
            cases b' with
            | false => cases hz
            | true =>
              cases hz
              obtain ⟨v', r', hr', rfl, hb', rfl, k1⟩ := k0
              have ev : v' = v := by
                have := hb' rfl
                simpa using this.symm
              subst ev
              obtain ⟨g1, g2, rfl, z1, z2⟩ := h2
              obtain ⟨hs3, fs3, g, y1, y2, y3, y4⟩ := p6 F'' H'' H3 P e1 e4 r' hr' g2 k1 z2 h4 x1 x2 (fun p hp => x3 p (List.mem_append_right _ hp)) (fun p hp => x4 p (List.mem_append_right _ hp))
              refine ⟨(v', q.2) :: hs3, f1 ++ fs3, g, ⟨v', r', hs3, rfl, hb, rfl, y1⟩, ⟨f1, fs3, rfl, Own.mono x1 _ _ f1 (fun p hp => x3 p (List.mem_append_left _ hp)) w1, y2⟩, y3.trans (List.sublist_append_right _ _), ?_⟩
              rw [List.append_assoc]
              exact y4.append_left f1
    · have hf1 : (flE ks (n + 1) e).le f := by
        unfold flE at hf
        rw [if_neg hn] at hf
        exact hf
      obtain ⟨fk, fr, hs', p1, p2, p3, p4, p5, p6⟩ := pin_ok e (n + 1) r σ0.tail hr f2 h1 w2 hf1
      have comm : ∀ g : List Addr, (f1 ++ (fk ++ g)).Perm (fk ++ (f1 ++ g)) := fun g => by
        rw [← List.append_assoc, ← List.append_assoc]
        exact List.perm_append_comm.append_right g
      refine ⟨fk, f1 ++ fr, (v, q.2) :: hs', (p1.append_left f1).trans (comm fr), ?_, p3, ?_, ?_, ?_⟩
      · have : pinS ks n (some q :: e) = some q :: pinS ks (n + 1) e := by
          show (if n ∈ ks then _ else _) :: _ = _
          rw [if_neg hn]
        rw [this]
        exact ⟨v, r, hs', rfl, fun _ => rfl, rfl, p2⟩
      · intro j b o hj hz
        cases j with
        | zero => exact absurd hj hn
        | succ j =>
          obtain ⟨v', fi, q1, q2, q3⟩ := p4 j b o (by rw [show n + 1 + j = n + (j + 1) by omega]; exact hj) (by simpa using hz)
          exact ⟨v', fi, by simpa using q1, q2, q3⟩
      · intro F' H' x1 x2 x3
        exact ⟨f1, fr, rfl, Own.mono x1 _ _ f1 (fun p hp => x3 p (List.mem_append_left _ hp)) w1, p5 F' H' x1 x2 (fun p hp => x3 p (List.mem_append_right _ hp))⟩
      · intro F'' H'' H3 P e'' e3 σ'' hs'' fs'' k0 h2 h3 x1 x2 x3 x4
        cases e'' with
        | nil => cases h3
        | cons s' e1 =>
          obtain ⟨z, hz, h3⟩ := Option.bind_eq_some_iff.mp h3
          obtain ⟨e4, h4, rfl⟩ := Option.map_eq_some_iff.mp h3
          rw [decide_eq_false hn] at hz
          cases s' with
          | none =>
            cases hz
            obtain ⟨x', r', rfl, k1⟩ := k0
            obtain ⟨hs3, fs3, g, g1, g2, g3, g4⟩ := p6 F'' H'' H3 P e1 e4 r' hs'' fs'' k1 h2 h4 x1 x2 x3 x4
            exact ⟨hs3, fs3, g, ⟨x', r', rfl, g1⟩, g2, g3, g4⟩
          | some q' =>
            obtain ⟨b', o'⟩ := q'
            have hb2 : okO f o' = true ∧ z = some (b', o') ∧ (b' = true → q.1 = true) := by
              cases b' with
              | false =>
                have hz : (if okO f o' = true then some (some (false, o')) else none) = some z := hz
                split at hz
                · rename_i h; cases hz; exact ⟨h, rfl, fun z => by cases z⟩
                · cases hz
              | true =>
                obtain ⟨qb, qo⟩ := q
                cases qb with
                | false => cases hz
                | true =>
                  have hz : (if okO f o' = true then some (some (true, o')) else none) = some z := hz
                  split at hz
                  · rename_i h; cases hz; exact ⟨h, rfl, fun _ => rfl⟩
                  · cases hz
            obtain ⟨ho', rfl, hbb⟩ := hb2
            obtain ⟨v', r', hr', rfl, hb', rfl, k1⟩ := k0
            obtain ⟨g1, g2, rfl, z1, z2⟩ := h2
            obtain ⟨hs3, fs3, g, y1, y2, y3, y4⟩ := p6 F'' H'' H3 P e1 e4 r' hr' g2 k1 z2 h4 x1 x2 x3 (fun p hp => x4 p (List.mem_append_right _ hp))
            refine ⟨(v', o') :: hs3, g1 ++ fs3, g1 ++ g, ⟨v', r', hs3, rfl, ?_, rfl, y1⟩, ⟨g1, fs3, rfl, own_rm x2 o' v' g1 ho' (fun p hp => x4 p (List.mem_append_left _ hp)) z1, y2⟩, y3.append_left g1, ?_⟩
            · intro hbt
              have ev : v' = v := by
                have := hb' hbt
                simpa using this.symm
              rw [ev]
              exact hb (hbb hbt)
            · exact (y4.append_left g1).trans (by rw [← List.append_assoc, ← List.append_assoc]; exact List.perm_append_comm.append_right g)
end

section
variable {K : KB} {c : Ctx} {F H : Hp} {σ : L2.St} {e : Env} {ts : List (V × O)} {ks : List Nat}
/-- what the slots ks hold is frozen, one of its dicts locked; afterwards it is held again -/
theorem RE.scope (R : RE K c F H σ e ts) : ∃ fk : List Addr, fk.Nodup ∧
    (∀ (j : Nat) (b : Bool) (o : O), j ∈ ks → e[j]? = some (some (b, o)) → ∃ v fi, σ[j]? = some (some v) ∧ Own K F H o v fi ∧ fi.Sublist fk) ∧
    ∀ (a : Addr) (ho : HO) (od : Obj), a ∈ fk → H a = some ho → dctHO ho → ∃ (c' : Ctx) (F' : Hp), RE K c' F' (upd H a (.frz od ho)) σ (pinS ks 0 e) [] ∧ Ex F F' ∧ F' a = some (.frz od ho) ∧
      (∀ p ∈ fk, p ≠ a → F' p = H p) ∧
      ∀ (F'' H'' : Hp) (σ'' : L2.St) (e'' e3 : Env), Ex F' F'' → RE K c' F'' H'' σ'' e'' [] → mendS (flE ks 0 e) ks 0 e e'' = some e3 →
        H'' a = some (.frz od ho) ∧ RE K c (rmF fk F'') (upd H'' a ho) σ'' e3 ts ∧ Ex F (rmF fk F'') ∧ (Ex (upd H a (.frz od ho)) H'' → Ex H (upd H'' a ho)) ∧ (∀ d v, okD (flE ks 0 e) d = true → Rep K F'' d v → Rep K (rmF fk F'') d v) := by
  obtain ⟨hs, fs, h1, h2, h3, h4⟩ := R.hd
  obtain ⟨fts, fhs, rfl, ht, hh⟩ := h2.split
  obtain ⟨fk, fr, hs', p1, p2, p3, p4, p5, p6⟩ := pin_ok (ks := ks) (f := flE ks 0 e) e 0 σ c.σ0 hs fhs h1 hh (Fl.le_refl _)
  have ndh : fhs.Nodup := (List.nodup_append.mp h3).2.1
  have nd2 : (fk ++ fr).Nodup := p1.nodup_iff.mp ndh
  have ndk : fk.Nodup := (List.nodup_append.mp nd2).1
  have kin : ∀ p ∈ fk, p ∈ fhs := fun p hp => p1.mem_iff.mpr (List.mem_append_left _ hp)
  have rin : ∀ p ∈ fr, p ∈ fhs := fun p hp => p1.mem_iff.mpr (List.mem_append_right _ hp)
  have dkr : ∀ p ∈ fk, p ∉ fr := fun p hp hr => (List.nodup_append.mp nd2).2.2 p hp p hr rfl
  have dts : ∀ p ∈ fts, p ∉ fhs := fun p hp hr => (List.nodup_append.mp h3).2.2 p hp p hr rfl
  have hF : ∀ p ∈ fhs, F p = none ∧ c.G p = none := fun p hp => h4 p (List.mem_append_right _ hp)
  have hFt : ∀ p ∈ fts, F p = none ∧ c.G p = none := fun p hp => h4 p (List.mem_append_left _ hp)
  have hT : ∀ p ∈ fts, H p ≠ none := Held.there ht
  refine ⟨fk, ndk, fun j b o hj hz => p4 j b o (by rw [Nat.zero_add]; exact hj) hz, fun a ho od hak hHa hdct => ?_⟩
  have haf := hF a (kin a hak)
  let F' : Hp := fun p => if p ∈ fk then upd H a (.frz od ho) p else F p
  let c' : Ctx := ⟨fun p => if p ∈ fts then H p else c.G p, c.F0, σ⟩
  have Fk : ∀ p, p ∈ fk → F' p = upd H a (.frz od ho) p := fun p hp => if_pos hp
  have Fn : ∀ p, p ∉ fk → F' p = F p := fun p hp => if_neg hp
  have Gt : ∀ p, p ∈ fts → c'.G p = H p := fun p hp => if_pos hp
  have Gn : ∀ p, p ∉ fts → c'.G p = c.G p := fun p hp => if_neg hp
  have eF : Ex F F' := fun p u hu => by
    have : p ∉ fk := fun hp => by rw [(hF p (kin p hp)).1] at hu; cases hu
    rw [Fn p this]; exact hu
  have na_t : a ∉ fts := fun h => dts a h (kin a hak)
  have Rin : RE K c' F' (upd H a (.frz od ho)) σ (pinS ks 0 e) [] := by
    refine ⟨fun p u hu => ?_, R.f0.trans eF, fun p u hu => ?_, fun p hp => ?_, hs', fr, p2, ?_, (List.nodup_append.mp nd2).2.1, fun p hp => ?_⟩
    · by_cases hp : p ∈ fts
      · rw [Gt p hp] at hu
        rw [upd_ne (fun z => na_t (by rw [← z]; exact hp))]
        exact hu
      · rw [Gn p hp] at hu
        rw [upd_ne (fun z => by rw [z, haf.2] at hu; cases hu)]
        exact R.g p u hu
    · by_cases hp : p ∈ fk
      · rw [Fk p hp] at hu; exact hu
      · rw [Fn p hp] at hu
        rw [upd_ne (fun z => hp (by rw [z]; exact hak))]
        exact R.fh p u hu
    · by_cases hk : p ∈ fk
      · right
        rw [Gn p (fun h => dts p h (kin p hk))]
        exact (hF p (kin p hk)).2
      · rw [Fn p hk] at hp
        rcases R.nw p hp with z | z
        · exact .inl z
        · right
          have : p ∉ fts := fun h => hp (hFt p h).1
          rw [Gn p this]; exact z
    · refine p5 F' _ eF (fun p hp u hu => ?_) (fun p hp u hu => ?_)
      · rw [Fk p hp]
        by_cases z : p = a
        · subst z
          rw [hHa] at hu
          cases hu
          exact .inr ⟨hdct, od, upd_same⟩
        · rw [upd_ne z]; exact .inl hu
      · rw [upd_ne (fun z => dkr a hak (by rw [← z]; exact hp))]; exact hu
    · refine ⟨?_, ?_⟩
      · rw [Fn p (fun h => dkr p h hp)]; exact (hF p (rin p hp)).1
      · rw [Gn p (fun h => dts p h (rin p hp))]; exact (hF p (rin p hp)).2
  refine ⟨c', F', Rin, eF, by rw [Fk a hak, upd_same], fun p hp hne => by rw [Fk p hp, upd_ne hne], fun F'' H'' σ'' e'' e3 x1 R2 hm => ?_⟩
  have hH''a : H'' a = some (.frz od ho) := R2.fh a _ (x1 a _ (by rw [Fk a hak, upd_same]))
  have eF3 : Ex F (rmF fk F'') := fun p u hu => by
    have hn : p ∉ fk := fun hp => by rw [(hF p (kin p hp)).1] at hu; cases hu
    unfold rmF
    rw [if_neg hn]
    exact x1 p u (by rw [Fn p hn]; exact hu)
  have kk : ∀ p ∈ fk, ∀ w, F'' p = some w → knd (flE ks 0 e) w := fun p hp w hw => by
    cases hHp : H p with
    | none => exact absurd hHp (Held.there hh p (kin p hp))
    | some u =>
      by_cases z : p = a
      · subst z
        rw [x1 p _ (by rw [Fk p hp, upd_same])] at hw
        cases hw
        rw [hHa] at hHp
        cases hHp
        cases ho <;> first | exact True.intro | exact False.elim hdct
      · rw [x1 p u (by rw [Fk p hp, upd_ne z]; exact hHp)] at hw
        have hw : u = w := Option.some.inj hw
        subst hw
        exact p3 p hp u hHp
  have kH : ∀ p ∈ fk, ∀ u, H p = some u → upd H'' a ho p = some u := fun p hp u hu => by
    by_cases z : p = a
    · subst z; rw [upd_same]; rw [hHa] at hu; exact hu
    · rw [upd_ne z]
      exact R2.fh p u (x1 p u (by rw [Fk p hp, upd_ne z]; exact hu))
  obtain ⟨hs'', fs'', q1, q2, q3, q4⟩ := R2.hd
  have ns'' : ∀ p ∈ fs'', p ∉ fk := fun p hp hk => by
    have hF0 := (q4 p hp).1
    cases hHp : H p with
    | none => exact absurd hHp (Held.there hh p (kin p hk))
    | some u =>
      have : ∃ w, F' p = some w := by
        rw [Fk p hk]
        by_cases z : p = a
        · subst z; exact ⟨_, upd_same⟩
        · rw [upd_ne z]; exact ⟨u, hHp⟩
      obtain ⟨w, hw⟩ := this
      rw [x1 p w hw] at hF0
      cases hF0
  have nst : ∀ p ∈ fs'', p ∉ fts := fun p hp h => by
    have := (q4 p hp).2
    rw [Gt p h] at this
    exact hT p h this
  obtain ⟨hs3, fs3, g, y1, y2, y3, y4⟩ := p6 F'' H'' (upd H'' a ho) fk e'' e3 σ'' hs'' fs'' q1 q2 hm eF3 kk kH (fun p hp u hu => by rw [upd_ne (fun z => ns'' p hp (by rw [z]; exact hak))]; exact hu)
  have cG : ∀ p, p ∉ fts → c'.G p = none → c.G p = none := fun p hp h => by rw [Gn p hp] at h; exact h
  have keepT : ∀ p ∈ fts, ∀ u, H p = some u → upd H'' a ho p = some u := fun p hp u hu => by
    rw [upd_ne (fun z => na_t (by rw [← z]; exact hp))]
    exact R2.g p u (by rw [Gt p hp]; exact hu)
  refine ⟨hH''a, ⟨fun p u hu => ?_, R.f0.trans eF3, fun p u hu => ?_, fun p hp => ?_, hs3, fts ++ fs3, y1, ?_, ?_, fun p hp => ?_⟩, eF3, fun x2 p u hu => ?_, fun d v hd hr => rep_rm kk d v hd hr⟩
  · have hnt : p ∉ fts := fun h => by rw [(hFt p h).2] at hu; cases hu
    rw [upd_ne (fun z => by rw [z, haf.2] at hu; cases hu)]
    exact R2.g p u (by rw [Gn p hnt]; exact hu)
  · unfold rmF at hu
    by_cases hk : p ∈ fk
    · rw [if_pos hk] at hu; cases hu
    · rw [if_neg hk] at hu
      rw [upd_ne (fun z => hk (by rw [z]; exact hak))]
      exact R2.fh p u hu
  · have hk : p ∉ fk := fun hk => hp (if_pos hk)
    have hp' : F'' p ≠ none := by
      unfold rmF at hp
      rwa [if_neg hk] at hp
    rcases R2.nw p hp' with z | z
    · exact .inl z
    · by_cases htp : p ∈ fts
      · rw [Gt p htp] at z; exact absurd z (hT p htp)
      · exact .inr (cG p htp z)
  · exact Held.join (Held.mono eF3 keepT ht) y2
  · have ndt : fts.Nodup := (List.nodup_append.mp h3).1
    have nd3 : fs3.Nodup := by
      refine y4.nodup_iff.mpr (List.nodup_append.mpr ⟨ndk, q3.sublist y3, fun p hp p' hp' z => ?_⟩)
      subst z
      exact ns'' p (y3.subset hp') hp
    refine List.nodup_append.mpr ⟨ndt, nd3, fun p hp p' hp' z => ?_⟩
    subst z
    rcases List.mem_append.mp (y4.mem_iff.mp hp') with h | h
    · exact dts p hp (kin p h)
    · exact nst p (y3.subset h) hp
  · rcases List.mem_append.mp hp with htp | h3p
    · refine ⟨?_, (hFt p htp).2⟩
      have hk : p ∉ fk := fun h => dts p htp (kin p h)
      unfold rmF
      rw [if_neg hk]
      cases hz : F'' p with
      | none => rfl
      | some w =>
        rcases R2.nw p (by rw [hz]; simp) with z | z
        · have : F p ≠ none := by
            cases q : c.F0 p with
            | none => exact absurd q z
            | some w => rw [R.f0 p w q]; simp
          exact absurd (hFt p htp).1 this
        · rw [Gt p htp] at z; exact absurd z (hT p htp)
    · rcases List.mem_append.mp (y4.mem_iff.mp h3p) with h | h
      · exact ⟨if_pos h, (hF p (kin p h)).2⟩
      · have hs := y3.subset h
        refine ⟨?_, cG p (nst p hs) (q4 p hs).2⟩
        unfold rmF
        rw [if_neg (ns'' p hs)]
        exact (q4 p hs).1
  · by_cases z : p = a
    · subst z
      rw [upd_same]
      rw [hHa] at hu
      exact hu
    · rw [upd_ne z]
      exact x2 p u (by rw [upd_ne z]; exact hu)
end
end DL

/-! DNH: for k in d, for v in d.values(): d a dict in an object that is held. -/
namespace DL
open PySem PySem.Spec PyProof.Rows L2 Evl
section
variable {X : Cx} {pins : List (Addr × Obj)} {σ : L2.St} {H : Hp} {s : Shared}
end

section
variable {X : Cx} {tg e : Expr} {td : TE}
end
/-! ### where the dict stands -/
def tS (P : L2.St → Hp → Addr → Prop) : TE := fun σ H Q => ∃ a, P σ H a ∧ Q (.ref a) H
structure Shp (X : Cx) (it : Expr) (i : Nat) (g : O → Option O) (P : L2.St → Hp → Addr → Prop) : Prop where
  pe : PE X it (tS P)
  loc : ∀ {F H : Hp} {σ : L2.St} {o : O} {v : V} {fs : List Addr} {kk : List D} {os : List O}, Own X.B F H o v fs → fs.Nodup → σ[i]? = some (some v) → g o = some (.dct kk os) → Ex F H →
    ∃ a ho xs r, H a = some ho ∧ DictAt X.B F a ho kk xs ∧ Owns X.B F H os xs r ∧ a ∈ fs ∧ ∀ H', (∀ p, p ≠ a → H' p = H p) → Ex F H' → P σ H' a
section
variable {X : Cx} {ex : Expr} {i : Nat}
end
/-! ### the loop -/
section
variable {X : Cx} {W : WX} {tg iter : Expr} {body : List Stmt} {pos apos cpos : Pos} {bind : D → Env → Option Env} {sl : List Nat} {db : SDen} {i : Nat} {ks : List Nat} {g : O → Option O} {P : L2.St → Hp → Addr → Prop}
end
end DL

/-! DNI: a dict display with one pair, its key a tuple. -/
namespace DL
open PySem PySem.Spec PyProof.Rows L2 Evl
section
variable {X : Cx} {W : WX} {pos : Pos}
end
end DL
/-! ### sum of a tuple of ints -/
namespace PySem
section
variable {prog : Program} {w : World} {A : Around} {E : Value → Shared → Prop} {s : Shared} {l : Addr} {xs : Array (Int × Tok)}
end
end PySem
namespace DL
open PySem PySem.Spec PyProof.Rows L2 Evl
section
variable {X : Cx}
@[simp] def sumTD : List D → Option D
  | [.tup ds] => (intsD ds).map fun is => .int is.sum
  | _ => none
end
end DL

/-! DNJ: list * int. -/
namespace DL
open PySem PySem.Spec PyProof.Rows L2 Evl
section
variable {X : Cx} {W : WX} {a b : Expr} {pos : Pos} {da : Den O} {db : Den D}
end
section
variable {q : Bool} {e : Env}
end
end DL

/-! DNK: sorted of tuples that begin with a pair of whole numbers, the pairs all unlike: what stands behind the pair does not matter. -/
namespace DL
open PySem PySem.W PySem.Spec PyProof.Rows L2 Evl
abbrev Kp := Int × Int
section
variable {X : Cx}
end
/-! ### at D -/
def prK : D → Option Kp
  | .tup (.tup [.int i, .int j] :: _) => some (i, j)
  | _ => none
def pk (d : D) : Kp := (prK d).getD (0, 0)
section
variable {X : Cx} {W : WX} {a : Expr} {x : Str} {p pos : Pos}
end
end DL

/-! DNL: C(k = e, ..): a new instance, all parameters keyword-only. -/
namespace DL
open PySem PySem.Spec PyProof.Rows L2 Evl
section
variable {X : Cx} {W : WX} {a : Expr} {pos p kpos : Pos} {x : Str} {k : Nat} {f C : Addr} {fd : FuncData} {ps : List Str} {fn : FDen}
structure DKR (X : Cx) (W : WX) (kws : List Keyword) (den : Den (List AR)) : Prop where
  run : PK X kws (rd relAR X.B W den)
end
/-! ### min, max of a list of whole numbers -/
end DL

/-! DNN: name += whole number; a product of two long numbers; the end of a law whose script's bits are told. -/
namespace DL
open PySem PySem.Spec PyProof.Rows L2 Evl
section
variable {X : Cx} {W : WX} {ex a b : Expr} {pos : Pos}
end
/-! ### steps -/
end DL

/-! DNO: list(zip(a, b)) of two tuples. -/
namespace DL
open PySem PySem.Spec PyProof.Rows L2 Evl RZ
section
variable {prog : Program} {w : World} {A : Around} {E : Value → Shared → Prop} {s : Shared} {z TI TO T i j a b : Addr} {fl : Bool} {oT : Obj} {m n : Nat} {us vs : Array Value} {u v : Value}
theorem zh_item {Q : Value → Shared → Prop} (D : ZipApart z TI TO i j a b) (kz : IsZipHeld s.heap z TI TO T fl) (kT : s.heap.get? T = some oT) (kI : IsPair s.heap TI (.ref i) (.ref j))
    (ki : s.heap.IsTupleIter i a m) (kj : s.heap.IsTupleIter j b n) (ka : s.heap.IsTuple a us) (kb : s.heap.IsTuple b vs) (eu : us[m]? = some u) (ev : vs[n]? = some v)
    (q : ∀ g, IsZipHeld g z TI TO T true → g.IsTupleIter i a (m + 1) → g.IsTupleIter j b (n + 1) → IsPair g s.heap.objs.size u v → (∀ c o, c ≠ z → c ≠ i → c ≠ j → s.heap.get? c = some o → g.get? c = some o) → Q (.ref s.heap.objs.size) { s with heap := g }) :
    wpAny (model prog w) A (Builtin.«zip.__next__» ⟨[.ref z], []⟩) (fun fin s' => ∃ v, fin = .done (.ret v) ∧ Q v s') E s := by
  show wpAny _ _ (field (.ref z) 2 >>= _) _ _ _; refine wpAny_bind (wpAny_field kz rfl (x := .bool false) rfl ?_)
  show wpAny _ _ (field (.ref z) 3 >>= _) _ _ _; refine wpAny_bind (wpAny_field kz rfl (x := .ref TI) rfl ?_)
  refine wpAny_bind (wpAny_seqItems kI rfl ?_)
  show wpAny _ _ (Builtin.SmallTypes.ownedTupleIsFree (.ref z) >>= _) _ _ _; refine wpAny_bind (wpAny_tupleHeld_zip kz kT fun g1 z1 b1 => ?_)
  simp only [Bool.false_eq_true, if_false]; refine wpAny_bind ?_
  rw [← Array.forIn_toList]; simp only [List.forIn_cons, List.forIn_nil]
  refine wpAny_bind (wpAny_bind (wpAny_holding ?_)); show wpAny _ _ (Builtin.SmallTypes.nextOf (.ref i) >>= _) _ _ _
  refine wpAny_bind (nextOf_tuple_item (s := { s with heap := g1 }) (ki.extBut b1.extBut D.i1z) (ka.extBut b1.extBut D.l1z) eu fun g2 i2 b2 => wpAny_pure (wpAny_pure ?_))
  refine wpAny_bind (wpAny_bind (wpAny_holding ?_)); show wpAny _ _ (Builtin.SmallTypes.nextOf (.ref j) >>= _) _ _ _
  refine wpAny_bind (nextOf_tuple_item (s := { s with heap := g2 }) ((kj.extBut b1.extBut D.i2z).extBut b2.extBut D.i12.symm) ((kb.extBut b1.extBut D.l2z).extBut b2.extBut D.l2i1) ev fun g3 j3 b3 => wpAny_pure ?_)
  refine wpAny_pure (wpAny_pure ?_); show wpAny _ _ (newTuple [u, v] >>= _) _ _ _
  refine wpAny_bind (wpAny_newTuple ?_)
  have sz : g3.objs.size = s.heap.objs.size := by rw [b3.1, b2.1, b1.1]
  have z3 : IsZipHeld g3 z TI TO T true := b3.extBut _ _ D.i2z.symm (b2.extBut _ _ D.i1z.symm z1)
  have i3 : g3.IsTupleIter i a (m + 1) := i2.extBut b3.extBut D.i12
  have kp : ∀ c o, c ≠ z → c ≠ i → c ≠ j → s.heap.get? c = some o → g3.get? c = some o := fun c o c1 c2 c3 e => b3.extBut _ _ c3 (b2.extBut _ _ c2 (b1.extBut _ _ c1 e))
  refine wpAny_pure ⟨_, rfl, ?_⟩; show Q (.ref g3.objs.size) _
  have hp : IsPair (g3.push { cls := .type "tuple", data := .seq #[u, v] }) g3.objs.size u v := Heap.get?_push_size _ rfl
  rw [sz] at hp ⊢
  exact q _ (Heap.get?_push_of_some _ z3) (i3.at fun o e => Heap.get?_push_of_some _ e) (j3.at fun o e => Heap.get?_push_of_some _ e) hp fun c o c1 c2 c3 e => Heap.get?_push_of_some _ (kp c o c1 c2 c3 e)
theorem zh_end {Q : Fin → Shared → Prop} (hh : A.handled = none) (D : ZipApart z TI TO i j a b) (kz : IsZipHeld s.heap z TI TO T fl) (kT : s.heap.get? T = some oT) (kI : IsPair s.heap TI (.ref i) (.ref j))
    (ki : s.heap.IsTupleIter i a m) (kj : s.heap.IsTupleIter j b n) (ka : s.heap.IsTuple a us) (kb : s.heap.IsTuple b vs) (he : us[m]? = none ∨ vs[n]? = none)
    (q : ∀ g e, (∀ c o, c ≠ z → c ≠ i → c ≠ j → s.heap.get? c = some o → g.get? c = some o) → (∃ o, g.get? e = some o ∧ o.cls = .type "StopIteration") → E (.ref e) { s with heap := g }) :
    wpAny (model prog w) A (Builtin.«zip.__next__» ⟨[.ref z], []⟩) Q E s := by
  show wpAny _ _ (field (.ref z) 2 >>= _) _ _ _; refine wpAny_bind (wpAny_field kz rfl (x := .bool false) rfl ?_)
  show wpAny _ _ (field (.ref z) 3 >>= _) _ _ _; refine wpAny_bind (wpAny_field kz rfl (x := .ref TI) rfl ?_)
  refine wpAny_bind (wpAny_seqItems kI rfl ?_)
  show wpAny _ _ (Builtin.SmallTypes.ownedTupleIsFree (.ref z) >>= _) _ _ _; refine wpAny_bind (wpAny_tupleHeld_zip kz kT fun g1 z1 b1 => ?_)
  simp only [Bool.false_eq_true, if_false]; refine wpAny_bind ?_
  rw [← Array.forIn_toList]; simp only [List.forIn_cons, List.forIn_nil]
  refine wpAny_bind (wpAny_bind (wpAny_holding ?_)); show wpAny _ _ (Builtin.SmallTypes.nextOf (.ref i) >>= _) _ _ _
  cases eu : us[m]? with
  | none => exact wpAny_bind (nextOf_tuple_end (s := { s with heap := g1 }) hh (ki.extBut b1.extBut D.i1z) (ka.extBut b1.extBut D.l1z) eu fun g2 e b2 ke => q g2 e (fun c o c1 c2 _ x => b2 _ _ c2 (b1.extBut _ _ c1 x)) ke)
  | some u =>
    have ev : vs[n]? = none := he.resolve_left (by rw [eu]; simp)
    refine wpAny_bind (nextOf_tuple_item (s := { s with heap := g1 }) (ki.extBut b1.extBut D.i1z) (ka.extBut b1.extBut D.l1z) eu fun g2 i2 b2 => wpAny_pure (wpAny_pure ?_))
    refine wpAny_bind (wpAny_bind (wpAny_holding ?_)); show wpAny _ _ (Builtin.SmallTypes.nextOf (.ref j) >>= _) _ _ _
    exact wpAny_bind (nextOf_tuple_end (s := { s with heap := g2 }) hh ((kj.extBut b1.extBut D.i2z).extBut b2.extBut D.i12.symm) ((kb.extBut b1.extBut D.l2z).extBut b2.extBut D.l2i1) ev fun g3 e b3 ke => q g3 e (fun c o c1 c2 c3 x => b3 _ _ c3 (b2.extBut _ _ c2 (b1.extBut _ _ c1 x))) ke)
theorem znext_item {Q : Option Value → Shared → Prop} (D : ZipApart z TI TO i j a b) (kz : IsZipHeld s.heap z TI TO T fl) (kT : s.heap.get? T = some oT) (kI : IsPair s.heap TI (.ref i) (.ref j))
    (ki : s.heap.IsTupleIter i a m) (kj : s.heap.IsTupleIter j b n) (ka : s.heap.IsTuple a us) (kb : s.heap.IsTuple b vs) (eu : us[m]? = some u) (ev : vs[n]? = some v)
    (q : ∀ g, IsZipHeld g z TI TO T true → g.IsTupleIter i a (m + 1) → g.IsTupleIter j b (n + 1) → IsPair g s.heap.objs.size u v → (∀ c o, c ≠ z → c ≠ i → c ≠ j → s.heap.get? c = some o → g.get? c = some o) → Q (some (.ref s.heap.objs.size)) { s with heap := g }) :
    wpAny (model prog w) A (pyNext (.ref z)) Q E s := by
  have ty : s.TypeIs (.ref z) "zip" := ⟨_, kz, rfl⟩
  unfold pyNext; refine wpAny_bind (wpAny_attempt (wpAny_callSpecial?_slot (name := Str.ofString "__next__") ty F.slot_zip_next ?_))
  exact wpAny_call_entry F.slot_zip_next ty F.entry_zip_next (zh_item D kz kT kI ki kj ka kb eu ev fun g a1 a2 a3 a4 a5 => wpAny_pure (q g a1 a2 a3 a4 a5)) (F.args_zip_next_1 _)
theorem znext_end {Q : Option Value → Shared → Prop} (hh : A.handled = none) (D : ZipApart z TI TO i j a b) (kz : IsZipHeld s.heap z TI TO T fl) (kT : s.heap.get? T = some oT) (kI : IsPair s.heap TI (.ref i) (.ref j))
    (ki : s.heap.IsTupleIter i a m) (kj : s.heap.IsTupleIter j b n) (ka : s.heap.IsTuple a us) (kb : s.heap.IsTuple b vs) (he : us[m]? = none ∨ vs[n]? = none)
    (q : ∀ g, (∀ c o, c ≠ z → c ≠ i → c ≠ j → s.heap.get? c = some o → g.get? c = some o) → Q none { s with heap := g }) : wpAny (model prog w) A (pyNext (.ref z)) Q E s := by
  have ty : s.TypeIs (.ref z) "zip" := ⟨_, kz, rfl⟩
  unfold pyNext; refine wpAny_bind (wpAny_attempt (wpAny_callSpecial?_slot (name := Str.ofString "__next__") ty F.slot_zip_next ?_))
  refine wpAny_call_entry F.slot_zip_next ty F.entry_zip_next (zh_end hh D kz kT kI ki kj ka kb he fun g e kp ⟨o, ho, hc⟩ => ?_) (F.args_zip_next_1 _)
  exact wpAny_bind (wpAny_isInstance (T := "StopIteration") (b := true) ⟨o, ho, hc⟩ isSubtype_stop (wpAny_pure (q _ kp)))
theorem zip_no_len : typeLookup (.type "zip") "__len__" = pure none := by rw [typeLookup_type, builtinLookup_eq_fast]; kernel_rfl
theorem zip_no_hint : typeLookup (.type "zip") "__length_hint__" = pure none := by rw [typeLookup_type, builtinLookup_eq_fast]; kernel_rfl
end
/-! ### list(zip(a, b)) -/
def ZSt (h : Heap) (z TI TO i j a b : Addr) (k : Nat) : Prop :=
  (IsZip h z TI TO .none ∨ ∃ T fl oT, IsZipHeld h z TI TO T fl ∧ h.get? T = some oT) ∧ IsPair h TI (.ref i) (.ref j) ∧ (∃ x y, IsPair h TO x y) ∧ h.IsTupleIter i a k ∧ h.IsTupleIter j b k
theorem ZSt.keep {h g : Heap} {z TI TO i j a b : Addr} {k : Nat} (st : ZSt h z TI TO i j a b k) (hk : ∀ c ∈ [z, TI, TO, i, j], ∀ o, h.get? c = some o → g.get? c = some o) (hl : ∀ c o, h.get? c = some o → ∃ o', g.get? c = some o') : ZSt g z TI TO i j a b k := by
  obtain ⟨h1, h2, ⟨x, y, h3⟩, h4, h5⟩ := st
  refine ⟨?_, hk TI (by simp) _ h2, ⟨x, y, hk TO (by simp) _ h3⟩, h4.at fun o e => hk i (by simp) o e, h5.at fun o e => hk j (by simp) o e⟩
  rcases h1 with h1 | ⟨T, fl, oT, h1, hT⟩
  · exact .inl (hk z (by simp) _ h1)
  · obtain ⟨o', hT'⟩ := hl T oT hT
    exact .inr ⟨T, fl, o', hk z (by simp) _ h1, hT'⟩
/-- the new pairs of xs and ys, one by one -/
def Grown : List V → List V → Hp → Hp → List V → Prop
  | x :: xs, y :: ys, H, H1, zs => ∃ T zs', zs = .ref T :: zs' ∧ H T = none ∧ Grown xs ys (upd H T (.tup [x, y])) H1 zs'
  | _, _, H, H1, zs => H1 = H ∧ zs = []
theorem upd_swap {H : Hp} {p q : Addr} {o u : HO} (h : p ≠ q) : upd (upd H p o) q u = upd (upd H q u) p o := by
  funext c
  by_cases hp : c = p
  · subst hp
    rw [upd_ne h, upd_same, upd_same]
  · rw [upd_ne hp]
    by_cases hq : c = q
    · subst hq
      rw [upd_same, upd_same]
    · rw [upd_ne hq, upd_ne hq, upd_ne hp]
section
variable {X : Cx} {a b z TI TO i j q : Addr} {xs ys : List V}
theorem zfill {A1 : Around} {Rs : Result → Shared → Prop} {pins : List (Addr × Obj)} {σ : L2.St} (hc : X.calm = true) (hh : A1.handled = none) (D : ZipApart z TI TO i j a b) (hn : xs.length ≤ 1000000) : ∀ (k r : Nat) (H : Hp) (s : Shared) (pre : List V), xs.length - r = k → r ≤ xs.length → pre.length = r → Inv X pins σ (upd H q (.lst pre)) s → H q = none →
    SqT X.K H a xs → SqT X.K H b ys → ZSt s.heap z TI TO i j a b r → (∀ c ∈ [z, TI, TO, i, j], FpOk X pins H c ∧ c ≠ q) →
    (∀ H1 zs s', Grown (xs.drop r) (ys.drop r) H H1 zs → H1 q = none → Inv X pins σ (upd H1 q (.lst (pre ++ zs))) s' → Rs (.ok (.ret .none)) s') → codeAny (model X.prog X.w) A1 (.builtin "list.extend.loop" ⟨[.ref q, .ref z, .none], []⟩) Rs s := by
  intro k
  have stop : ∀ (r : Nat) (H : Hp) (s : Shared) (pre : List V), (xs.length ≤ r ∨ ys.length ≤ r) → Inv X pins σ (upd H q (.lst pre)) s → H q = none →
      SqT X.K H a xs → SqT X.K H b ys → ZSt s.heap z TI TO i j a b r → (∀ c ∈ [z, TI, TO, i, j], FpOk X pins H c ∧ c ≠ q) →
      (∀ H1 zs s', Grown (xs.drop r) (ys.drop r) H H1 zs → H1 q = none → Inv X pins σ (upd H1 q (.lst (pre ++ zs))) s' → Rs (.ok (.ret .none)) s') → codeAny (model X.prog X.w) A1 (.builtin "list.extend.loop" ⟨[.ref q, .ref z, .none], []⟩) Rs s := by
    intro r H s pre hend I hq ha hb st hf hdone
    have eh : Ex H (upd H q (.lst pre)) := Ex.new hq
    obtain ⟨us, rv, p, _⟩ := I.tuple (ex_t eh ha)
    obtain ⟨vs, rv2, p2, _⟩ := I.tuple (ex_t eh hb)
    have l1 := rv.length
    have l2 := rv2.length
    have he : us.toArray[r]? = none ∨ vs.toArray[r]? = none := by
      rcases hend with e | e
      · exact .inl (by simp; omega)
      · exact .inr (by simp; omega)
    have hf' : ∀ c ∈ [z, TI, TO, i, j], FpOk X pins (upd H q (.lst pre)) c := fun c hc => ⟨by rw [upd_ne (hf c hc).2]; exact (hf c hc).1.1, (hf c hc).1.2⟩
    have fin : ∀ g : Heap, (∀ c o, c ∉ [z, TI, TO, i, j] → s.heap.get? c = some o → g.get? c = some o) → Rs (.ok (.ret .none)) { s with heap := g } := fun g hk => by
      refine hdone H [] _ ?_ hq ?_
      · rcases hend with e | e
        · rw [List.drop_eq_nil_of_le e]; exact ⟨rfl, rfl⟩
        · rw [List.drop_eq_nil_of_le e]
          cases xs.drop r <;> exact ⟨rfl, rfl⟩
      · rw [List.append_nil]
        exact I.turnedL (t' := s.toks) (ch := [z, TI, TO, i, j]) hk hf'
    obtain ⟨h1, h2, ⟨x, y, h3⟩, h4, h5⟩ := st
    refine codeAny_builtin PySem.F.entry_extend_loop ?_
    rw [Around.under_plainId PySem.F.plain_extend_loop _]
    show wpAny _ A1.in1 (pyNext (.ref z) >>= _) _ _ s
    rcases h1 with h1 | ⟨T, fl, oT, h1, hT⟩
    · exact wpAny_bind (pyNext_zipT_end hh D h1 h2 h3 h4 h5 p p2 he fun g hk => wpAny_pure (fin g fun c o hc e => hk c o (fun w => hc (by simp [w])) (fun w => hc (by simp [w])) (fun w => hc (by simp [w])) (fun w => hc (by simp [w])) e))
    · exact wpAny_bind (znext_end hh D h1 hT h2 h4 h5 p p2 he fun g hk => wpAny_pure (fin g fun c o hc e => hk c o (fun w => hc (by simp [w])) (fun w => hc (by simp [w])) (fun w => hc (by simp [w])) e))
  induction k with
  | zero => exact fun r H s pre hk hr hp I hq ha hb st hf hd => stop r H s pre (.inl (by omega)) I hq ha hb st hf hd
  | succ k ih =>
    intro r H s pre hk hr hp I hq ha hb st hf hdone
    by_cases hy : ys.length ≤ r
    · exact stop r H s pre (.inr hy) I hq ha hb st hf hdone
    have eh : Ex H (upd H q (.lst pre)) := Ex.new hq
    obtain ⟨us, rv, p, _⟩ := I.tuple (ex_t eh ha)
    obtain ⟨vs, rv2, p2, _⟩ := I.tuple (ex_t eh hb)
    have hxr : r < xs.length := by omega
    have hyr : r < ys.length := by omega
    obtain ⟨u, hu, ru⟩ := rv.get (List.getElem?_eq_getElem hxr)
    obtain ⟨v, hv, rv'⟩ := rv2.get (List.getElem?_eq_getElem hyr)
    have hf' : ∀ c ∈ [z, TI, TO, i, j], FpOk X pins (upd H q (.lst pre)) c := fun c hc => ⟨by rw [upd_ne (hf c hc).2]; exact (hf c hc).1.1, (hf c hc).1.2⟩
    obtain ⟨h1, h2, ⟨x0, y0, h3⟩, h4, h5⟩ := st
    have lt : ∀ c ∈ [z, TI, TO, i, j], c < s.heap.objs.size := fun c hc => by
      have e' : c = z ∨ c = TI ∨ c = TO ∨ c = i ∨ c = j := by simpa using hc
      rcases e' with w | w | w | w | w
      · rw [w]
        rcases h1 with h1 | ⟨T, fl, oT, h1, hT⟩
        · exact Heap.lt_size h1
        · exact Heap.lt_size h1
      · rw [w]; exact Heap.lt_size h2
      · rw [w]; exact Heap.lt_size h3
      · rw [w]; obtain ⟨_, e1, _⟩ := h4; exact Heap.lt_size e1
      · rw [w]; obtain ⟨_, e2, _⟩ := h5; exact Heap.lt_size e2
    obtain ⟨_, its0, k0, _, _, eq0⟩ := I.lstM (l := q) (xs := pre) upd_same
    have hqs : q < s.heap.objs.size := Heap.lt_size eq0
    have hTn : H s.heap.objs.size = none := by
      have := I.hok.fresh (Nat.le_refl s.heap.objs.size)
      rwa [upd_ne (Nat.ne_of_gt hqs)] at this
    have step : ∀ g : Heap, ZSt g z TI TO i j a b (r + 1) → IsPair g s.heap.objs.size u v → (∀ c o, c ∉ [z, TI, TO, i, j] → s.heap.get? c = some o → g.get? c = some o) →
        wpAny (model X.prog X.w) A1.in1 (updateSeq q (·.push (.ref s.heap.objs.size)) >>= fun _ => again (.builtin "list.extend.loop" ⟨[.ref q, .ref z, .none], []⟩)) (fun fin s' => match fin with | .done r => Rs (.ok r) s' | .again c' => c'.quiet = true ∧ codeAny (model X.prog X.w) A1 c' Rs s') (fun e s' => Rs (.error e) s') { s with heap := g } := by
      intro g st' hT hkp
      have new : ObjOk X.prog X.w (upd (upd H q (.lst pre)) s.heap.objs.size (.tup [xs[r], ys[r]])) g s.heap.objs.size (.tup [xs[r], ys[r]]) :=
        ⟨by show 2 ≤ sizeLine; decide, [u, v], .cons ru (.cons rv' .nil), ⟨_, hT, rfl, _, rfl⟩⟩
      have I1 : Inv X pins σ (upd (upd H q (.lst pre)) s.heap.objs.size (.tup [xs[r], ys[r]])) { s with heap := g } := I.turnedNew (t' := s.toks) (ch := [z, TI, TO, i, j]) hkp hf' (Nat.le_refl _) new
      rw [upd_swap (Nat.ne_of_lt hqs)] at I1
      obtain ⟨_, its, kk, rvl, hl, eq1⟩ := I1.lstM (l := q) (xs := pre) upd_same
      have hsz : its.length ≤ 1000000 := by rw [← hl, hp]; omega
      have hs : (1000002 : Nat) ≤ sizeLine := by decide
      refine wpAny_bind (wpAny_updateSeq eq1 rfl ?_ (by simp; omega) (by simp; omega))
      have I2 := I1.lset (f := (·.push (.ref s.heap.objs.size))) (its := its) (its' := its ++ [.ref s.heap.objs.size]) (ys := pre ++ [.ref s.heap.objs.size]) (t' := s.toks) upd_same eq1 (by simp) (rvl.append (show Vals [V.ref s.heap.objs.size] [Value.ref s.heap.objs.size] from .cons rfl .nil)) (by rw [List.length_append, List.length_singleton]; omega)
      rw [upd_upd] at I2
      refine wpAny_pure ⟨plainId_quiet PySem.F.plain_extend_loop _, ih (r + 1) (upd H s.heap.objs.size (.tup [xs[r], ys[r]])) _ (pre ++ [.ref s.heap.objs.size]) (by omega) (by omega) (by rw [List.length_append, hp]; rfl) I2 ?_ (ex_t (Ex.new hTn) ha) (ex_t (Ex.new hTn) hb) (st'.keep (fun c hc o e => ?_) fun c o e => ?_) (fun c hc => ⟨⟨?_, (hf c hc).1.2⟩, (hf c hc).2⟩) fun H1 zs s' hG hq1 I' => ?_⟩
      · rw [upd_ne (Nat.ne_of_lt hqs)]; exact hq
      · exact (Heap.get?_update_other _ _ (Ne.symm (hf c hc).2)).trans e
      · by_cases hcq : c = q
        · subst hcq; exact ⟨_, Heap.get?_update_self _ eq1 rfl⟩
        · exact ⟨o, (Heap.get?_update_other _ _ (Ne.symm hcq)).trans e⟩
      · rw [upd_ne (Nat.ne_of_lt (lt c hc))]; exact (hf c hc).1.1
      · rw [List.append_assoc] at I'
        refine hdone H1 (.ref s.heap.objs.size :: zs) s' ?_ hq1 I'
        rw [List.drop_eq_getElem_cons hxr, List.drop_eq_getElem_cons hyr]
        exact ⟨_, zs, rfl, hTn, hG⟩
    refine codeAny_builtin PySem.F.entry_extend_loop ?_
    rw [Around.under_plainId PySem.F.plain_extend_loop _]
    show wpAny _ A1.in1 (pyNext (.ref z) >>= _) _ _ s
    rcases h1 with h1 | ⟨T, fl, oT, h1, hT⟩
    · refine wpAny_bind (pyNext_zipT_item D h1 h2 h3 h4 h5 p p2 (x := u) (y := v) (by simpa using hu) (by simpa using hv) fun g z' TO' i' j' hT hsz hkp => ?_)
      exact step g ⟨.inr ⟨_, _, _, z', hT⟩, hkp _ _ D.TIz D.TITO D.TIi1 D.TIi2 h2, ⟨u, v, TO'⟩, i', j'⟩ hT fun c o hc e => hkp c o (fun w => hc (by simp [w])) (fun w => hc (by simp [w])) (fun w => hc (by simp [w])) (fun w => hc (by simp [w])) e
    · refine wpAny_bind (znext_item D h1 hT h2 h4 h5 p p2 (u := u) (v := v) (by simpa using hu) (by simpa using hv) fun g z' i' j' hT' hkp => ?_)
      have hTl : ∃ o, g.get? T = some o := by
        by_cases hTz : T = z
        · exact ⟨_, by rw [hTz]; exact z'⟩
        by_cases hTi : T = i
        · obtain ⟨o, e, _⟩ := i'; exact ⟨o, by rw [hTi]; exact e⟩
        by_cases hTj : T = j
        · obtain ⟨o, e, _⟩ := j'; exact ⟨o, by rw [hTj]; exact e⟩
        exact ⟨_, hkp T oT hTz hTi hTj hT⟩
      obtain ⟨oT', hTl⟩ := hTl
      exact step g ⟨.inr ⟨T, true, oT', z', hTl⟩, hkp _ _ D.TIz D.TIi1 D.TIi2 h2, ⟨x0, y0, hkp _ _ D.TOz D.TOi1 D.TOi2 h3⟩, i', j'⟩ hT' fun c o hc e => hkp c o (fun w => hc (by simp [w])) (fun w => hc (by simp [w])) (fun w => hc (by simp [w])) e
end
theorem Grown.ex : ∀ {xs ys : List V} {H H1 : Hp} {zs : List V}, Grown xs ys H H1 zs → Ex H H1
  | x :: xs, y :: ys, H, H1, zs, h => by
    obtain ⟨T, zs', _, hT, h⟩ := h
    exact (Ex.new hT).trans h.ex
  | [], _, H, H1, zs, h => by rw [h.1]; exact Ex.refl _
  | _ :: _, [], H, H1, zs, h => by rw [h.1]; exact Ex.refl _
def tLZ (K : KB) (ta : TA) : TE := fun σ H Q => ta σ H fun vs H1 => ∃ a b xs ys, vs = [.ref a, .ref b] ∧ SqT K H1 a xs ∧ SqT K H1 b ys ∧ xs.length ≤ 1000000 ∧ ∀ q H2 zs, Grown xs ys H1 H2 zs → H2 q = none → Q (.ref q) (upd H2 q (.lst zs))
section
variable {X : Cx} {e e2 : Expr} {ta : TA} {p p2 p3 pos : Pos}
theorem pe_listZip (hc : X.calm = true) (hgl : Gl X "list") (hml : X.mg "list" = none) (hgz : Gl X "zip") (hmz : X.mg "zip" = none) (ha : PA X [e, e2] ta)
    (hs : starEach [e, e2] X.env = (false, eval e X.env) :: starEach [e2] X.env := by rfl) (hpl : (backTo p3 (starEach [e2] X.env)).any (·.1) = false := by rfl)
    (hs1 : starEach [.Call (.Name "zip" p2) [e, e2] [] p3] X.env = (false, eval (.Call (.Name "zip" p2) [e, e2] [] p3) X.env) :: starEach [] X.env := by rfl) (hpl1 : (backTo pos (starEach [] X.env)).any (·.1) = false := by rfl) :
    PE X (.Call (.Name "list" p) [.Call (.Name "zip" p2) [e, e2] [] p3] [] pos) (tLZ X.B ta) := by
  refine ⟨fun pins s σ H Q I h => ?_⟩
  refine wpAny_Call_Name_kw (ld_blt I hgl hml (by rfl) ?_ (by decide) (by decide))
  refine PyProof.Rows.callWith_type1 ?_ hs1 hpl1
  rw [hs1]
  show wpAny _ _ (spliced ((false, eval (.Call (.Name "zip" p2) [e, e2] [] p3) X.env) :: backTo pos (starEach [] X.env))) _ _ s
  refine Calls.spliced_cons (thn (Q := fun (w : Value) s1 => ∃ z TI TO i j a b xs ys H1, w = .ref z ∧ Inv X pins σ H1 s1 ∧ ZipApart z TI TO i j a b ∧ xs.length ≤ 1000000 ∧ SqT X.B H1 a xs ∧ SqT X.B H1 b ys ∧ IsZip s1.heap z TI TO .none ∧ ZSt s1.heap z TI TO i j a b 0 ∧ (∀ c ∈ [z, TI, TO, i, j], FpOk X pins H1 c ∧ c < s1.heap.objs.size) ∧
      ∀ q H2 zs, Grown xs ys H1 H2 zs → H2 q = none → Q (.ref q) (upd H2 q (.lst zs))) ?_ ?_)
  · refine Call_ (ld_blt I hgz hmz PyProof.Rows.boot_zip (PyProof.Rows.callWith_type1 (thn (ha.run p3 pins s σ H _ I h) fun us s1 ⟨vs, H1, I1, r1, q1⟩ => ?_) hs hpl))
    obtain ⟨a, b, xs, ys, ex, hqx, hqy, hn, q⟩ := q1
    subst ex
    cases r1 with
    | cons r rr =>
      cases rr with
      | cons r' rr =>
        cases rr
        cases r
        cases r'
        obtain ⟨its, rv, p1, _⟩ := I1.tuple hqx
        obtain ⟨its2, rv2, p2, _⟩ := I1.tuple hqy
        obtain ⟨o1, ho1, _⟩ := id p1
        obtain ⟨o2, ho2, _⟩ := id p2
        refine call_zipT (show s1.heap.IsTuple a its.toArray from p1) (show s1.heap.IsTuple b its2.toArray from p2) fun h' hz hTI hTO h1 h2 hsz hk => ?_
        have I2 : Inv X pins σ H1 { s1 with heap := h' } := I1.kept (t' := s1.toks) hk
        refine ⟨s1.heap.objs.size + 4, s1.heap.objs.size + 2, s1.heap.objs.size + 3, s1.heap.objs.size, s1.heap.objs.size + 1, a, b, xs, ys, H1, rfl, I2, PySem.W.ktu_apart s1.heap.objs.size a b (Heap.lt_size ho1) (Heap.lt_size ho2), hn, hqx, hqy, hz, ⟨.inl hz, hTI, ⟨_, _, hTO⟩, h1, h2⟩, fun c hcm => ?_, q⟩
        have e' : c = s1.heap.objs.size + 4 ∨ c = s1.heap.objs.size + 2 ∨ c = s1.heap.objs.size + 3 ∨ c = s1.heap.objs.size ∨ c = s1.heap.objs.size + 1 := by simpa using hcm
        have hle : s1.heap.objs.size ≤ c ∧ c < s1.heap.objs.size + 5 := by
          rcases e' with z | z | z | z | z <;> rw [z]
          · exact ⟨Nat.le_add_right _ _, Nat.add_lt_add_left (by decide) _⟩
          · exact ⟨Nat.le_add_right _ _, Nat.add_lt_add_left (by decide) _⟩
          · exact ⟨Nat.le_add_right _ _, Nat.add_lt_add_left (by decide) _⟩
          · exact ⟨Nat.le_refl _, Nat.lt_add_of_pos_right (by decide)⟩
          · exact ⟨Nat.le_add_right _ _, Nat.add_lt_add_left (by decide) _⟩
        exact ⟨I1.fpOk hle.1 (I1.hok.fresh hle.1), by show c < h'.objs.size; rw [hsz]; exact hle.2⟩
  rintro w s1 ⟨z, TI, TO, i, j, a, b, xs, ys, H1, rfl, I1, D, hn, hqx, hqy, hz0, st, hf, q⟩
  refine Calls.spliced_nil ?_
  show wpAny _ _ (call (.type "list") [.ref z]) _ _ s1
  have hh : X.A.handled = none := I1.ok.hd hc
  refine callType_codes (Q₁ := fun obj s₁ => obj = .ref s1.heap.objs.size ∧ s₁ = { s1 with heap := s1.heap.push { cls := .type "list", data := .seq #[] } }) PySem.F.called_list (PySem.F.typeCall_list_1 _) PySem.F.entry_list_init
    (code_list_new _ ⟨rfl, rfl⟩) fun obj s₁ h₁ => ?_
  obtain ⟨rfl, rfl⟩ := h₁
  have hS : (s1.heap.push { cls := .type "list", data := .seq #[] }).get? s1.heap.objs.size = some { cls := .type "list", data := .seq #[] } := Heap.get?_push_size _ rfl
  refine ⟨⟨_, hS, rfl⟩, PySem.F.args_list_init_2 _ _, ?_⟩
  have fr : H1 s1.heap.objs.size = none := I1.hok.fresh (Nat.le_refl _)
  have J1 : Inv X pins σ (upd H1 s1.heap.objs.size (.lst [])) { s1 with heap := s1.heap.push { cls := .type "list", data := .seq #[] } } := I1.lnew (its := []) (t' := s1.toks) .nil (Nat.zero_le _)
  show wpAny _ _ (do let old ← Builtin.List.listItems (.ref s1.heap.objs.size); Builtin.List.listUpdate (.ref s1.heap.objs.size) (fun _ => #[]); letGo old.toList.reverse; Builtin.List.listExtendWith (.ref s1.heap.objs.size) (.ref z) .none) _ _ _
  refine wpAny_bind ?_
  unfold Builtin.List.listItems
  refine wpAny_bind (wpAny_seqItems hS rfl (wpAny_pure ?_))
  show wpAny _ _ (updateSeq s1.heap.objs.size (fun _ => #[]) >>= fun _ => letGo (#[] : Array Value).toList.reverse >>= fun _ => Builtin.List.listExtendWith (.ref s1.heap.objs.size) (.ref z) .none) _ _ _
  refine wpAny_bind (wpAny_updateSeq hS rfl ?_)
  have J2 := J1.lset (f := fun _ => #[]) (its := []) (its' := []) (ys := []) (t' := s1.toks) upd_same hS rfl .nil (Nat.zero_le _)
  rw [upd_upd] at J2
  refine wpAny_bind (wpAny_letGo ?_)
  have qlt : ∀ c ∈ [z, TI, TO, i, j], c ≠ s1.heap.objs.size := fun c hcm => Nat.ne_of_lt (hf c hcm).2
  have st2 : ZSt ((s1.heap.push { cls := .type "list", data := .seq #[] }).update s1.heap.objs.size (Obj.mapSeq fun _ => #[])) z TI TO i j a b 0 := by
    refine st.keep (fun c hcm o e => ?_) fun c o e => ?_
    · exact (Heap.get?_update_other _ _ (Ne.symm (qlt c hcm))).trans (Heap.get?_push_of_some _ e)
    · have hcs : c ≠ s1.heap.objs.size := Nat.ne_of_lt (Heap.lt_size e)
      exact ⟨o, (Heap.get?_update_other _ _ (Ne.symm hcs)).trans (Heap.get?_push_of_some _ e)⟩
  have zty : ∀ g : Heap, ZSt g z TI TO i j a b 0 → ∃ o, g.get? z = some o ∧ o.cls = .type "zip" := fun g h => by
    rcases h.1 with h | ⟨T, fl, oT, h, _⟩
    · exact ⟨_, h, rfl⟩
    · exact ⟨_, h, rfl⟩
  have hz2 : IsZip ((s1.heap.push { cls := .type "list", data := .seq #[] }).update s1.heap.objs.size (Obj.mapSeq fun _ => #[])) z TI TO .none := (Heap.get?_update_other _ _ (Ne.symm (qlt z (by simp)))).trans (Heap.get?_push_of_some _ hz0)
  have fillG : ∀ s' : Shared, ZSt s'.heap z TI TO i j a b 0 → Inv X pins σ (upd H1 s1.heap.objs.size (.lst [])) s' → codeAny (model X.prog X.w) X.A.in1 (.builtin "list.extend.loop" ⟨[.ref s1.heap.objs.size, .ref z, .none], []⟩) (wants (fun r s₂ => r = .none ∧ EP X pins σ Q (.ref s1.heap.objs.size) s₂) X.xe) s' := fun s' st' I' =>
    zfill (A1 := X.A.in1) (Rs := wants (fun r s₂ => r = .none ∧ EP X pins σ Q (.ref s1.heap.objs.size) s₂) X.xe) hc hh D hn _ 0 H1 s' [] rfl (Nat.zero_le _) rfl I' fr hqx hqy st' (fun c hcm => ⟨(hf c hcm).1, qlt c hcm⟩) fun H2 zs s'' hG hq2 I'' => ⟨rfl, .ref s1.heap.objs.size, _, I'', rfl, q _ _ _ hG hq2⟩
  obtain ⟨oz, hoz, hcz⟩ := zty _ st2
  have ty2 : Shared.TypeIs { s1 with heap := (s1.heap.push { cls := .type "list", data := .seq #[] }).update s1.heap.objs.size (Obj.mapSeq fun _ => #[]) } (.ref z) "zip" := ⟨oz, hoz, hcz⟩
  have zq : z ≠ s1.heap.objs.size := qlt z (by simp)
  unfold Builtin.List.listExtendWith
  refine wpAny_bind (wpAny_typeOf (T := "zip") ty2 ?_)
  have k1 : Builtin.List.listSameRef (.ref s1.heap.objs.size) (.ref z) = false := by simp [Builtin.List.listSameRef, Ne.symm zq]
  have k2 : (Value.type "zip" == Value.type "list") = false := by decide
  have k3 : (Value.type "zip" == Value.type "tuple") = false := by decide
  simp only [k1, k2, k3, Bool.or_false, Bool.false_eq_true, if_false]
  refine wpAny_bind (wpAny_pyIter_zip hz2 ?_)
  refine wpAny_bind (wpAny_holding ?_)
  have hint : ∀ {A : Around} {E : Value → Shared → Prop} {Qh : Bool → Shared → Prop} {s' : Shared}, s'.TypeIs (.ref z) "zip" → Qh true s' → wpAny (model X.prog X.w) A (Builtin.List.listLengthHint (.ref z)) Qh E s' := fun ty qh => by
    unfold Builtin.List.listLengthHint
    refine wpAny_bind (wpAny_specialOf ty zip_no_len ?_)
    refine PySem.W.KFB.if_not rfl ?_
    refine PySem.W.KFB.if_not rfl ?_
    refine wpAny_bind (wpAny_specialOf ty zip_no_hint ?_)
    exact wpAny_pure qh
  refine hint ty2 ?_
  refine wpAny_ite_split (fun _ => ?_) (fun _ => wpAny_pure ⟨plainId_quiet PySem.F.plain_extend_loop _, fillG _ st2 J2⟩)
  refine wpAny_bind (wpAny_rule ?_)
  refine wpAny_bind ?_
  show wpAny _ _ (updateSeq s1.heap.objs.size (·.push .none) >>= fun _ => updateSeq s1.heap.objs.size (·.pop)) _ _ _
  obtain ⟨_, its3, k3, r3, _, e3⟩ := J2.lstM upd_same
  cases r3
  refine wpAny_bind (wpAny_updateSeq e3 rfl ?_)
  have I2 := J2.lset (f := (·.push Value.none)) (its' := [Value.none]) (ys := [.non]) (t' := s1.toks) upd_same e3 (by simp) (.cons rfl .nil) (by rw [List.length_singleton, sizeLine_eq]; decide)
  obtain ⟨_, its4, k4, r4, _, e4⟩ := I2.lstM upd_same
  obtain ⟨u4, rfl, ru4⟩ := r4.one
  refine wpAny_updateSeq e4 rfl ?_ (by show 1 ≤ sizeLine; rw [sizeLine_eq]; decide) (by show 0 ≤ sizeLine + 1; exact Nat.zero_le _)
  have I3 := I2.lset (f := (·.pop)) (its := [u4]) (its' := []) (ys := []) (t' := s1.toks) upd_same e4 (by rfl) .nil (Nat.zero_le _)
  rw [upd_upd, upd_upd] at I3
  refine wpAny_pure ⟨plainId_quiet PySem.F.plain_extend_loop _, fillG _ (st2.keep (fun c hcm o e => ?_) fun c o e => ?_) I3⟩
  · exact (Heap.get?_update_other _ _ (Ne.symm (qlt c hcm))).trans ((Heap.get?_update_other _ _ (Ne.symm (qlt c hcm))).trans e)
  · by_cases hcs : c = s1.heap.objs.size
    · subst hcs; exact ⟨_, Heap.get?_update_self _ e4 rfl⟩
    · exact ⟨o, (Heap.get?_update_other _ _ (Ne.symm hcs)).trans ((Heap.get?_update_other _ _ (Ne.symm hcs)).trans e)⟩
end
theorem grown_re {K : KB} {c : Ctx} {σ : L2.St} {e : Env} {ts : List (V × O)} : ∀ {ds es : List D} {xs ys : List V} {F H H1 : Hp} {zs : List V}, Grown xs ys H H1 zs → RE K c F H σ e ts → Reps K F ds xs → Reps K F es ys → ∃ F', Ex F F' ∧ RE K c F' H1 σ e ts ∧ Reps K F' ((ds.zip es).map fun p => D.tup [p.1, p.2]) zs
  | [], es, xs, ys, F, H, H1, zs, h, R, h1, h2 => by
    have h1 : xs = [] := h1
    subst h1
    obtain ⟨rfl, rfl⟩ := h
    exact ⟨F, Ex.refl _, R, rfl⟩
  | d :: ds, [], xs, ys, F, H, H1, zs, h, R, h1, h2 => by
    have h2 : ys = [] := h2
    subst h2
    obtain ⟨x, xr, rfl, hx, hxr⟩ := h1
    obtain ⟨rfl, rfl⟩ := h
    exact ⟨F, Ex.refl _, R, rfl⟩
  | d :: ds, f :: es, xs, ys, F, H, H1, zs, h, R, h1, h2 => by
    obtain ⟨x, xr, rfl, hx, hxr⟩ := h1
    obtain ⟨y, yr, rfl, hy, hyr⟩ := h2
    obtain ⟨T, zs', rfl, hT, h⟩ := h
    have ef : Ex F (upd F T (.tup [x, y])) := Ex.new (none_of_ex R.fh hT)
    obtain ⟨F', e2, R', hr⟩ := grown_re h (R.newF (o := .tup [x, y]) hT) (Reps.mono ef _ _ hxr) (Reps.mono ef _ _ hyr)
    refine ⟨F', ef.trans e2, R', .ref T, zs', rfl, Rep.mono e2 _ _ ⟨T, [x, y], rfl, SqT.of upd_same, ⟨_, _, rfl, Rep.mono ef _ _ hx, ⟨_, _, rfl, Rep.mono ef _ _ hy, rfl⟩⟩⟩, hr⟩
/-- list(zip(a, b)), two tuples -/
def zipD : List D → Option Rv
  | [.tup xs, .tup ys] => if xs.length ≤ 1000000 then some (.new (.lst (((xs.zip ys).map fun p => D.tup [p.1, p.2]).map O.im))) else none
  | _ => none
section
variable {X : Cx} {W : WX} {a b : Expr} {pos p p2 p3 : Pos} {das : Den (List D)}
theorem de_zip (hc : X.calm = true) (hgl : Gl X "list") (hml : X.mg "list" = none) (hgz : Gl X "zip") (hmz : X.mg "zip" = none) (h : DA X W [a, b] das)
    (hs : starEach [a, b] X.env = (false, eval a X.env) :: starEach [b] X.env := by rfl) (hpl : (backTo p3 (starEach [b] X.env)).any (·.1) = false := by rfl)
    (hs1 : starEach [.Call (.Name "zip" p2) [a, b] [] p3] X.env = (false, eval (.Call (.Name "zip" p2) [a, b] [] p3) X.env) :: starEach [] X.env := by rfl) (hpl1 : (backTo pos (starEach [] X.env)).any (·.1) = false := by rfl) :
    DE X W (.Call (.Name "list" p) [.Call (.Name "zip" p2) [a, b] [] p3] [] pos) (dbind das fun vs => dlift (zipD vs)) :=
  ⟨pe_weak (pe_listZip hc hgl hml hgz hmz h.run hs hpl hs1 hpl1) fun σ H Q q => by
    obtain ⟨c, F, e, ts, R, q⟩ := q
    refine ⟨c, F, e, ts, R, q.bind (rel := relA) fun F1 H1 e1 y v ef hr q1 => ?_⟩
    obtain ⟨z, hz, k⟩ := q1.lift
    obtain ⟨R1, hreps⟩ := hr
    unfold zipD at hz
    split at hz
    · rename_i xs ys
      split at hz
      · rename_i hl
        cases hz
        obtain ⟨x, xr, rfl, ⟨ax, vx, rfl, sx, rx⟩, y, yr, rfl, ⟨ay, vy, rfl, sy, ry⟩, hn⟩ := hreps
        have hn : yr = [] := hn
        subst hn
        refine ⟨ax, ay, vx, vy, rfl, ex_t R1.fh sx, ex_t R1.fh sy, by rw [← rx.length]; exact hl, fun q H2 zs hG hq => ?_⟩
        obtain ⟨F2, e2, R2, h4⟩ := grown_re hG R1 rx ry
        exact k F2 _ (.ref q) e2 (hG.ex.trans (Ex.new hq)) (R2.newO hq ⟨q, zs, [], rfl, rfl, upd_same, owns_im h4⟩)
      · cases hz
    · cases hz⟩
end
end DL

/-! DNP: len of a dict with plain keys. -/
namespace DL
open PySem PySem.Spec PyProof.Rows L2 Evl
def isTupD : D → Bool
  | .tup _ => true
  | _ => false
def lenXD : List D → Option D
  | [.dct ks vs] => if (ks.all fun k => !(isTupD k)) = true then some (.int ks.length) else none
  | _ => none
def rLenX : List V → Hp → VK → Prop := fun xs H Q => ∃ (a : Addr) (kvs : List (Key × V)), xs = [V.ref a] ∧ Rd H a (.dK kvs) ∧ Q (.int kvs.length) H
theorem call_lenX {X : Cx} : CallR X (.builtin "len") rLenX := by
  intro pins s σ H xs us Q I r h
  obtain ⟨a, kvs, rfl, ha, q⟩ := h
  obtain ⟨u, rfl, ru⟩ := r.one
  cases ru
  exact d_len I ha fun t s' I' => ⟨.int kvs.length, H, I', ⟨t, rfl⟩, q⟩
theorem ok_lenX {K : KB} : CallOkV K rLenX lenXD := by
  intro H xs ds d h hg
  unfold lenXD at hg
  split at hg
  · rename_i ks vs
    split at hg
    · rename_i hall
      cases hg
      obtain ⟨v, rfl, a, ho, ys, rfl, hrd, hda, hrep⟩ := reps1 h
      refine ⟨.int _, fun _ => rfl, fun Q q => ?_⟩
      rcases hda with ⟨kvs, rfl, _, rfl, _⟩ | ⟨kvs, _, ⟨hne, _⟩, rfl, _⟩
      · exact ⟨a, kvs, rfl, hrd, by rw [List.length_map] at q; exact q⟩
      · cases kvs with
        | nil => exact absurd rfl hne
        | cons p l => exact absurd hall (by simp [isTupD])
    · cases hg
  · cases hg
end DL

namespace K14
open PySem PySem.Spec PyProof.Rows L2 Evl DL
/-- _law_numbers: 0 _law_script, 1 _law_many, 2 _law_numbers_here, 3 _law_seed, 4 _law_cell, 5 _law_rest, 6 _law_turn, 7 _law_k, 8 _law_mixed -/
noncomputable def d__law_numbers : SDen := (sseq (sset 2 (dlst (dpure []))) (sseq (sset 3 (imR (dpure (.int 7)))) (sseq (sfor (dvar 0) (bName 4) (sseq (sset 5 (imR (dbind (dconsV (vw (dvar 4)) (dpure [])) fun vs => dlift (absD vs)))) (sseq (sset 3 (imR (dbin (dbind (dconsV (dbin (dbin (dbin (frz (dvar 3)) (dpure (.int 48271)) mulD) (dbin (frz (dvar 5)) (dpure (.int 69621)) mulD) addD) (dpure (.int 11)) addD) (dpure [])) fun vs => dlift (intD vs)) (dpure (.int 2147483647)) modD))) (sif (dtB (dcmp (vw (dvar 5)) (dbin (dpure (.int 10)) (dpure (.int 18)) powD) geD)) (sforP (rg rng1D (dcons (dpure (.int 60)) (dpure []))) (bName 6) (sif (dtB (dcmp (vw (dvar 5)) (dpure (.int 1000)) geD)) (sseq (sapp 2 (imR (dbin (dbind (dconsV (vw (dvar 5)) (dpure [])) fun vs => dlift (intD vs)) (dpure (.int 1000)) modD))) (sset 5 (imR (dbin (frz (dvar 5)) (dpure (.int 1000)) divD)))) snext)) snext)))) (sseq (sset 2 (dslice (ow (dvar 2)) (dpure none) (dbind (frz (dvar 1)) fun d => dlift (partD d)))) (sseq (sforP (rg rng1D (dcons (dbin (frz (dvar 1)) (dbind (dconsV (vw (dvar 2)) (dpure [])) fun vs => dlift (lenD vs)) subD) (dpure []))) (bName 7) (sseq (sset 8 (imR (dbin (dbind (dconsV (dbin (dbin (dbin (frz (dvar 3)) (dpure (.int 48271)) mulD) (dbin (frz (dvar 7)) (dpure (.int 69621)) mulD) addD) (dpure (.int 11)) addD) (dpure [])) fun vs => dlift (intD vs)) (dpure (.int 2147483647)) modD))) (sseq (sset 8 (imR (dbin (dbind (dconsV (dbin (dbin (dbin (frz (dvar 8)) (frz (dvar 8)) mulD) (dbin (dpure (.int 40692)) (frz (dvar 7)) mulD) addD) (dpure (.int 3)) addD) (dpure [])) fun vs => dlift (intD vs)) (dpure (.int 2147483629)) modD))) (sapp 2 (imR (dbin (dbind (dconsV (dbin (frz (dvar 8)) (dpure (.int 7)) divD) (dpure [])) fun vs => dlift (intD vs)) (dpure (.int 1000)) modD)))))) (srt (drev (ow (dvar 2)))))))))
noncomputable def f__law_numbers : FDen := fnden 9 (d__law_numbers)
/-- _law_draw: 0 _law_draws, 1 _law_many -/
noncomputable def d__law_draw : SDen := (sseq (sif (dtB (dcmp (dbind (dconsV (vw (dvar 0)) (dpure [])) fun vs => dlift (lenD vs)) (dpure (.int 0)) eqD)) (srt (imR (dpure (.int 0)))) snext) (srt (imR (dbin (dbind (dconsV (vw (dpop 0)) (dpure [])) fun vs => dlift (intD vs)) (frz (dvar 1)) modD))))
noncomputable def f__law_draw : FDen := fnden 2 (d__law_draw)
/-- _law_big: 0 _law_draws, 1 _law_number, 2 _law_k -/
noncomputable def d__law_big : SDen := (sseq (sset 1 (imR (dpure (.int 0)))) (sseq (sforP (rg rng1D (dcons (dpure (.int 6)) (dpure []))) (bName 2) (sset 1 (imR (dbin (dbin (frz (dvar 1)) (dpure (.int 1000)) mulD) (frz (dbind (darcons (dvar 0) (darcons (imR (dpure (.int 1000))) (dpure []))) fun as => dfnA 2 (f__law_draw) as)) addD)))) (srt (dvar 1))))
noncomputable def f__law_big : FDen := fnden 3 (d__law_big)
/-- _law_kind: 0 _law_draws, 1 _law_levels, 2 _law_numbers_here, 3 _law_choice -/
noncomputable def d__law_kind (rec : FDen) : SDen := (sseq (sset 3 (imR (frz (dbind (darcons (dvar 0) (darcons (imR (dpure (.int 9))) (dpure []))) fun as => dfnA 2 (f__law_draw) as)))) (sseq (sif (dand (dtB (dcmp (vw (dvar 1)) (dpure (.int 1)) gtD)) (dtB (dcmp (vw (dvar 3)) (dpure (.int 7)) geD))) (srt (imR (dtup (dcons (dpure (.str "pair")) (dcons (frz (dbind (darcons (dvar 0) (darcons (imR (dbin (frz (dvar 1)) (dpure (.int 1)) subD)) (darcons (dvar 2) (dpure [])))) fun as => dfnA 3 rec as)) (dcons (frz (dbind (darcons (dvar 0) (darcons (imR (dbin (frz (dvar 1)) (dpure (.int 1)) subD)) (darcons (dvar 2) (dpure [])))) fun as => dfnA 3 rec as)) (dpure []))))))) snext) (sseq (sif (dand (dtB (dcmp (vw (dvar 1)) (dpure (.int 1)) gtD)) (dtB (dcmp (vw (dvar 3)) (dpure (.int 5)) geD))) (srt (imR (dtup (dcons (dpure (.str "list")) (dcons (frz (dbind (darcons (dvar 0) (darcons (imR (dbin (frz (dvar 1)) (dpure (.int 1)) subD)) (darcons (dvar 2) (dpure [])))) fun as => dfnA 3 rec as)) (dpure [])))))) snext) (sseq (sif (dand (dtB (dcmp (vw (dvar 3)) (dpure (.int 3)) geD)) (dtB (dcmp (dbind (dconsV (vw (dvar 2)) (dpure [])) fun vs => dlift (lenD vs)) (dpure (.int 0)) gtD))) (srt (imR (dtup (dcons (dpure (.str "any")) (dcons (dbin (frz (dvar 2)) (dbin (dbind (dconsV (vw (dbind (darcons (dvar 0) (darcons (imR (dpure (.int 1000))) (dpure []))) fun as => dfnA 2 (f__law_draw) as)) (dpure [])) fun vs => dlift (intD vs)) (dbind (dconsV (vw (dvar 2)) (dpure [])) fun vs => dlift (lenD vs)) modD) elemD) (dpure [])))))) snext) (srt (imR (imD (dixO (ow (dlst (dcons (dtup (dcons (dpure (.str "int")) (dpure []))) (dcons (dtup (dcons (dpure (.str "bool")) (dpure []))) (dcons (dtup (dcons (dpure (.str "output")) (dpure []))) (dpure [])))))) (dbin (dbind (dconsV (vw (dvar 3)) (dpure [])) fun vs => dlift (intD vs)) (dpure (.int 3)) modD)))))))))
noncomputable def f__law_kind : Nat → FDen
  | 0 => fnden 4 (sseq (fun _ => none) (sseq (fun _ => none) (sseq (fun _ => none) (sseq (fun _ => none) (fun _ => none)))))
  | j + 1 => fnden 4 (d__law_kind (f__law_kind j))
/-- _law_put: 0 _law_kind_here, 1 _law_table, 2 _law_number, 3 _law_worth -/
noncomputable def d__law_put (rec : FDen) : SDen := (sseq (sif (dtB (dcmp (fl (dixO (ow (dvar 0)) (dpure (.int 0)))) (dpure (.str "any")) eqD)) (sseq (sfor (dvar 1) (bTup 2 (bCons (bName 2) (bCons (bName 3) bNil))) (sif (dtB (dcmp (vw (dvar 2)) (fl (dixO (ow (dvar 0)) (dpure (.int 1)))) eqD)) (srt (dvar 3)) snext)) (srt (dvar 0))) snext) (sseq (sif (dtB (dcmp (fl (dixO (ow (dvar 0)) (dpure (.int 0)))) (dpure (.str "list")) eqD)) (srt (imR (dtup (dcons (dpure (.str "list")) (dcons (frz (dbind (darcons (imR (imD (dixO (ow (dvar 0)) (dpure (.int 1))))) (darcons (dvar 1) (dpure []))) fun as => dfnA 2 rec as)) (dpure [])))))) snext) (sseq (sif (dtB (dcmp (fl (dixO (ow (dvar 0)) (dpure (.int 0)))) (dpure (.str "pair")) eqD)) (srt (imR (dtup (dcons (dpure (.str "pair")) (dcons (frz (dbind (darcons (imR (imD (dixO (ow (dvar 0)) (dpure (.int 1))))) (darcons (dvar 1) (dpure []))) fun as => dfnA 2 rec as)) (dcons (frz (dbind (darcons (imR (imD (dixO (ow (dvar 0)) (dpure (.int 2))))) (darcons (dvar 1) (dpure []))) fun as => dfnA 2 rec as)) (dpure []))))))) snext) (srt (dvar 0)))))
noncomputable def f__law_put : Nat → FDen
  | 0 => fnden 4 (sseq (fun _ => none) (sseq (fun _ => none) (sseq (fun _ => none) (fun _ => none))))
  | j + 1 => fnden 4 (d__law_put (f__law_put j))
/-- inner: 0 kind -/
noncomputable def d_inner : SDen := (sseq (sif (dor (dtB (dcmp (fl (dixO (ow (dvar 0)) (dpure (.int 0)))) (dpure (.str "list")) eqD)) (dtB (dcmp (fl (dixO (ow (dvar 0)) (dpure (.int 0)))) (dpure (.str "pair")) eqD))) (srt (dslice (ow (dvar 0)) (dbind (dpure (.int 1)) fun d => dlift (partD d)) (dpure none))) snext) (srt (imR (dtup (dpure [])))))
noncomputable def f_inner : FDen := fnden 1 (d_inner)
/-- replace: 0 kind, 1 table, 2 part -/
noncomputable def d_replace (rec : FDen) : SDen := (sseq (sif (dtB (dcmp (fl (dixO (ow (dvar 0)) (dpure (.int 0)))) (dpure (.str "any")) eqD)) (srt (imR (imD (dgetX (ow (dvar 1)) (dcons (imD (dixO (ow (dvar 0)) (dpure (.int 1)))) (dcons (frz (dvar 0)) (dpure []))))))) snext) (srt (imR (dbin (frz (dslice (ow (dvar 0)) (dpure none) (dbind (dpure (.int 1)) fun d => dlift (partD d)))) (dtupV (ow (dcomp (sq (frz (dbind (darcons (dvar 0) (dpure [])) fun as => dfnA 1 (f_inner) as))) (bName 2) (dpure true) (imR (frz (dbind (darcons (imR (frz (dvar 2))) (darcons (dvar 1) (dpure []))) fun as => dfnA 2 rec as))) [2]))) addD))))
noncomputable def f_replace : Nat → FDen
  | 0 => fnden 3 (sseq (fun _ => none) (fun _ => none))
  | j + 1 => fnden 3 (d_replace (f_replace j))
/-- _law_equal: 0 _law_actual, 1 _law_expected, 2 _law_k -/
noncomputable def d__law_equal (rec : FDen) : SDen := (sseq (sif (dtB (dbind (vw (dvar 1)) fun x => dlift (noneD x))) (srt (imR (dbind (vw (dvar 0)) fun x => dlift (noneD x)))) snext) (sseq (sif (dtru (dbind (dconsV (vw (dvar 1)) (dconsV (dpure (.ty "bool")) (dpure []))) fun vs => dlift (isiD vs))) (srt (imR (dandV (dbind (dconsV (vw (dvar 0)) (dconsV (dpure (.ty "bool")) (dpure []))) fun vs => dlift (isiD vs)) (dcmp (vw (dvar 0)) (vw (dvar 1)) eqD)))) snext) (sseq (sif (dtru (dbind (dconsV (vw (dvar 1)) (dconsV (dpure (.ty "int")) (dpure []))) fun vs => dlift (isiD vs))) (srt (imR (dandV (dbind (dconsV (vw (dvar 0)) (dconsV (dpure (.ty "int")) (dpure []))) fun vs => dlift (isiD vs)) (dandV (dnotV (dbind (dconsV (vw (dvar 0)) (dconsV (dpure (.ty "bool")) (dpure []))) fun vs => dlift (isiD vs))) (dcmp (vw (dvar 0)) (vw (dvar 1)) eqD))))) snext) (sseq (sif (dtru (dbind (dconsV (vw (dvar 1)) (dconsV (dpure (.ty "str")) (dpure []))) fun vs => dlift (isiD vs))) (srt (imR (dandV (dbind (dconsV (vw (dvar 0)) (dconsV (dpure (.ty "str")) (dpure []))) fun vs => dlift (isiD vs)) (dcmp (vw (dvar 0)) (vw (dvar 1)) eqD)))) snext) (sseq (sif (dand (dtru (dbind (dconsV (vw (dvar 1)) (dconsV (dpure (.ty "tuple")) (dpure []))) fun vs => dlift (isiD vs))) (dnot (dtru (dbind (dconsV (vw (dvar 0)) (dconsV (dpure (.ty "tuple")) (dpure []))) fun vs => dlift (isiD vs))))) (srt (imR (dpure (.bl false)))) snext) (sseq (sif (dand (dtru (dbind (dconsV (vw (dvar 1)) (dconsV (dpure (.ty "list")) (dpure []))) fun vs => dlift (isiD vs))) (dnot (dtru (dbind (dconsV (vw (dvar 0)) (dconsV (dpure (.ty "list")) (dpure []))) fun vs => dlift (isiD vs))))) (srt (imR (dpure (.bl false)))) snext) (sseq (sif (dtB (dcmp (dbind (dconsV (vw (dvar 0)) (dpure [])) fun vs => dlift (lenD vs)) (dbind (dconsV (vw (dvar 1)) (dpure [])) fun vs => dlift (lenD vs)) neD)) (srt (imR (dpure (.bl false)))) snext) (sseq (sforP (rg rng1D (dcons (dbind (dconsV (vw (dvar 1)) (dpure [])) fun vs => dlift (lenD vs)) (dpure []))) (bName 2) (sif (dnot (dtru (vw (dbind (darcons (imR (imD (dixO (ow (dvar 0)) (frz (dvar 2))))) (darcons (imR (imD (dixO (ow (dvar 1)) (frz (dvar 2))))) (dpure []))) fun as => dfnA 2 rec as)))) (srt (imR (dpure (.bl false)))) snext)) (srt (imR (dpure (.bl true))))))))))))
noncomputable def f__law_equal : Nat → FDen
  | 0 => fnden 3 (sseq (fun _ => none) (sseq (fun _ => none) (sseq (fun _ => none) (sseq (fun _ => none) (sseq (fun _ => none) (sseq (fun _ => none) (sseq (fun _ => none) (sseq (fun _ => none) (fun _ => none)))))))))
  | j + 1 => fnden 3 (d__law_equal (f__law_equal j))
/-- is_instance: 0 kind, 1 general, 2 table, 3 pairs, 4 mine, 5 other -/
noncomputable def d_is_instance : SDen := (sseq (sset 2 (dpure (.new (.dct [] [])))) (sseq (sset 3 (dlst (dcons (dtup (dcons (frz (dvar 0)) (dcons (frz (dvar 1)) (dpure [])))) (dpure [])))) (sseq (swhile (dtB (dcmp (dbind (dconsV (vw (dvar 3)) (dpure [])) fun vs => dlift (lenD vs)) (dpure (.int 0)) gtD)) (sseq (sasg (bTup 2 (bCons (bName 4) (bCons (bName 5) bNil))) (frz (dpop 3))) (sif (dtB (dcmp (fl (dixO (ow (dvar 5)) (dpure (.int 0)))) (dpure (.str "any")) eqD)) (sseq (sif (dtB (dcmp (fl (dgetX (ow (dvar 2)) (dcons (imD (dixO (ow (dvar 5)) (dpure (.int 1)))) (dcons (frz (dvar 4)) (dpure []))))) (vw (dvar 4)) neD)) (srt (imR (dpure (.bl false)))) snext) (sstP (dvar 4) (dplVar 2) (imD (dixO (ow (dvar 5)) (dpure (.int 1)))))) (sif (dtB (dcmp (fl (dixO (ow (dvar 4)) (dpure (.int 0)))) (fl (dixO (ow (dvar 5)) (dpure (.int 0)))) neD)) (srt (imR (dpure (.bl false)))) (sext 3 (frz (dbind (dcons (frz (dbind (darcons (imR (frz (dvar 4))) (dpure [])) fun as => dfnA 1 (f_inner) as)) (dcons (frz (dbind (darcons (imR (frz (dvar 5))) (dpure [])) fun as => dfnA 1 (f_inner) as)) (dpure []))) fun vs => dlift (zipD vs))))))) 1000000) (srt (imR (dpure (.bl true)))))))
noncomputable def f_is_instance : FDen := fnden 6 (d_is_instance)
/-- _law_inner: 0 _law_kind_here, 1 _law_item -/
noncomputable def d__law_inner : SDen := (srt (dcomp (sq (frz (dslice (ow (dvar 0)) (dbind (dpure (.int 1)) fun d => dlift (partD d)) (dpure none)))) (bName 1) (dtru (dbind (dconsV (vw (dvar 1)) (dconsV (dpure (.ty "tuple")) (dpure []))) fun vs => dlift (isiD vs))) (imR (frz (dvar 1))) [1]))
noncomputable def f__law_inner : FDen := fnden 2 (d__law_inner)
/-- _law_changed: 0 _law_draws, 1 _law_kind_here, 2 _law_other, 3 _law_inner_here, 4 _law_at -/
noncomputable def d__law_changed (rec : FDen) : SDen := (sseq (sset 3 (dbind (darcons (dvar 1) (dpure [])) fun as => dfnA 1 (f__law_inner) as)) (sseq (sif (dor (dtB (dcmp (dbind (dconsV (vw (dvar 3)) (dpure [])) fun vs => dlift (lenD vs)) (dpure (.int 0)) eqD)) (dtB (dcmp (vw (dbind (darcons (dvar 0) (darcons (imR (dpure (.int 4))) (dpure []))) fun as => dfnA 2 (f__law_draw) as)) (dpure (.int 0)) eqD))) (srt (dvar 2)) snext) (sseq (sset 4 (imR (dbin (dbind (dconsV (vw (dbind (darcons (dvar 0) (darcons (imR (dpure (.int 2))) (dpure []))) fun as => dfnA 2 (f__law_draw) as)) (dpure [])) fun vs => dlift (intD vs)) (dbind (dconsV (vw (dvar 3)) (dpure [])) fun vs => dlift (lenD vs)) modD))) (sseq (sstI 3 (frz (dbind (darcons (dvar 0) (darcons (imR (imD (dixO (ow (dvar 3)) (frz (dvar 4))))) (darcons (dvar 2) (dpure [])))) fun as => dfnA 3 rec as)) (frz (dvar 4))) (srt (imR (dbin (frz (dslice (ow (dvar 1)) (dpure none) (dbind (dpure (.int 1)) fun d => dlift (partD d)))) (dtupV (ow (dvar 3))) addD)))))))
noncomputable def f__law_changed : Nat → FDen
  | 0 => fnden 5 (sseq (fun _ => none) (sseq (fun _ => none) (sseq (fun _ => none) (sseq (fun _ => none) (fun _ => none)))))
  | j + 1 => fnden 5 (d__law_changed (f__law_changed j))
/-- kind_size: 0 kind, 1 part -/
noncomputable def d_kind_size (rec : FDen) : SDen := (srt (imR (dbin (dpure (.int 1)) (dbind (dconsV (vw (dcomp (sq (frz (dbind (darcons (dvar 0) (dpure [])) fun as => dfnA 1 (f_inner) as))) (bName 1) (dpure true) (imR (frz (dbind (darcons (imR (frz (dvar 1))) (dpure [])) fun as => dfnA 1 rec as))) [1])) (dpure [])) fun vs => dlift (sumD vs)) addD)))
noncomputable def f_kind_size : Nat → FDen
  | 0 => fnden 2 (fun _ => none)
  | j + 1 => fnden 2 (d_kind_size (f_kind_size j))
/-- _law_size: 0 _law_kind_here, 1 _law_part -/
noncomputable def d__law_size (rec : FDen) : SDen := (srt (imR (dbin (dpure (.int 1)) (dbind (dconsV (vw (dcomp (sq (frz (dbind (darcons (dvar 0) (dpure [])) fun as => dfnA 1 (f__law_inner) as))) (bName 1) (dpure true) (imR (frz (dbind (darcons (imR (frz (dvar 1))) (dpure [])) fun as => dfnA 1 rec as))) [1])) (dpure [])) fun vs => dlift (sumD vs)) addD)))
noncomputable def f__law_size : Nat → FDen
  | 0 => fnden 2 (fun _ => none)
  | j + 1 => fnden 2 (d__law_size (f__law_size j))
/-- format_kind: 0 kind, 1 texts, 2 part -/
noncomputable def d_format_kind (rec : FDen) : SDen := (sseq (sif (dtB (dcmp (fl (dixO (ow (dvar 0)) (dpure (.int 0)))) (dpure (.str "any")) eqD)) (srt (imR (dbin (dpure (.str "any")) (dbind (dconsV (fl (dixO (ow (dvar 0)) (dpure (.int 1)))) (dpure [])) fun vs => dlift (strD vs)) addD))) snext) (sseq (sset 1 (imR (djoin (dpure (.str ", ")) (vw (dcomp (sq (frz (dbind (darcons (dvar 0) (dpure [])) fun as => dfnA 1 (f_inner) as))) (bName 2) (dpure true) (imR (frz (dbind (darcons (imR (frz (dvar 2))) (dpure [])) fun as => dfnA 1 rec as))) [2]))))) (sseq (sif (dtB (dcmp (fl (dixO (ow (dvar 0)) (dpure (.int 0)))) (dpure (.str "list")) eqD)) (srt (imR (dbin (dbin (dpure (.str "[")) (frz (dvar 1)) addD) (dpure (.str "]")) addD))) snext) (sseq (sif (dtB (dcmp (fl (dixO (ow (dvar 0)) (dpure (.int 0)))) (dpure (.str "pair")) eqD)) (srt (imR (dbin (dbin (dpure (.str "(")) (frz (dvar 1)) addD) (dpure (.str ")")) addD))) snext) (srt (imR (imD (dixO (ow (dvar 0)) (dpure (.int 0))))))))))
noncomputable def f_format_kind : Nat → FDen
  | 0 => fnden 3 (sseq (fun _ => none) (sseq (fun _ => none) (sseq (fun _ => none) (sseq (fun _ => none) (fun _ => none)))))
  | j + 1 => fnden 3 (d_format_kind (f_format_kind j))
/-- _law_format: 0 _law_kind_here -/
noncomputable def d__law_format (rec : FDen) : SDen := (sseq (sif (dtB (dcmp (fl (dixO (ow (dvar 0)) (dpure (.int 0)))) (dpure (.str "any")) eqD)) (srt (imR (dbin (dpure (.str "any")) (dbind (dconsV (fl (dixO (ow (dvar 0)) (dpure (.int 1)))) (dpure [])) fun vs => dlift (strD vs)) addD))) snext) (sseq (sif (dtB (dcmp (fl (dixO (ow (dvar 0)) (dpure (.int 0)))) (dpure (.str "list")) eqD)) (srt (imR (dbin (dbin (dpure (.str "[")) (frz (dbind (darcons (imR (imD (dixO (ow (dvar 0)) (dpure (.int 1))))) (dpure [])) fun as => dfnA 1 rec as)) addD) (dpure (.str "]")) addD))) snext) (sseq (sif (dtB (dcmp (fl (dixO (ow (dvar 0)) (dpure (.int 0)))) (dpure (.str "pair")) eqD)) (srt (imR (dbin (dbin (dbin (dbin (dpure (.str "(")) (frz (dbind (darcons (imR (imD (dixO (ow (dvar 0)) (dpure (.int 1))))) (dpure [])) fun as => dfnA 1 rec as)) addD) (dpure (.str ", ")) addD) (frz (dbind (darcons (imR (imD (dixO (ow (dvar 0)) (dpure (.int 2))))) (dpure [])) fun as => dfnA 1 rec as)) addD) (dpure (.str ")")) addD))) snext) (srt (imR (imD (dixO (ow (dvar 0)) (dpure (.int 0)))))))))
noncomputable def f__law_format : Nat → FDen
  | 0 => fnden 1 (sseq (fun _ => none) (sseq (fun _ => none) (sseq (fun _ => none) (fun _ => none))))
  | j + 1 => fnden 1 (d__law_format (f__law_format j))
/-- unknowns: 0 kind, 1 found, 2 part, 3 number -/
noncomputable def d_unknowns (rec : FDen) : SDen := (sseq (sif (dtB (dcmp (fl (dixO (ow (dvar 0)) (dpure (.int 0)))) (dpure (.str "any")) eqD)) (srt (dlst (dcons (imD (dixO (ow (dvar 0)) (dpure (.int 1)))) (dpure [])))) snext) (sseq (sset 1 (dlst (dpure []))) (sseq (sforP (sq (frz (dbind (darcons (dvar 0) (dpure [])) fun as => dfnA 1 (f_inner) as))) (bName 2) (sforP (sq (frz (dbind (darcons (imR (frz (dvar 2))) (dpure [])) fun as => dfnA 1 rec as))) (bName 3) (sif (dtB (dcmp (vw (dvar 3)) (vw (dvar 1)) notinD)) (sapp 1 (imR (frz (dvar 3)))) snext))) (srt (dvar 1)))))
noncomputable def f_unknowns : Nat → FDen
  | 0 => fnden 4 (sseq (fun _ => none) (sseq (fun _ => none) (sseq (fun _ => none) (fun _ => none))))
  | j + 1 => fnden 4 (d_unknowns (f_unknowns j))
/-- _law_unknowns: 0 _law_kind_here, 1 _law_found, 2 _law_part, 3 _law_number -/
noncomputable def d__law_unknowns (rec : FDen) : SDen := (sseq (sif (dtB (dcmp (fl (dixO (ow (dvar 0)) (dpure (.int 0)))) (dpure (.str "any")) eqD)) (srt (dlst (dcons (imD (dixO (ow (dvar 0)) (dpure (.int 1)))) (dpure [])))) snext) (sseq (sset 1 (imR (frz (dlst (dpure []))))) (sseq (sforP (sq (frz (dbind (darcons (dvar 0) (dpure [])) fun as => dfnA 1 (f__law_inner) as))) (bName 2) (sset 1 (imR (frz (dcat (ow (dvar 1)) (ow (dcomp (sq (frz (dbind (darcons (imR (frz (dvar 2))) (dpure [])) fun as => dfnA 1 rec as))) (bName 3) (dtB (dcmp (vw (dvar 3)) (vw (dvar 1)) notinD)) (imR (frz (dvar 3))) [3]))))))) (srt (dvar 1)))))
noncomputable def f__law_unknowns : Nat → FDen
  | 0 => fnden 4 (sseq (fun _ => none) (sseq (fun _ => none) (sseq (fun _ => none) (fun _ => none))))
  | j + 1 => fnden 4 (d__law_unknowns (f__law_unknowns j))
/-- _law_looks: 0 _law_kind_here, 1 _law_told -/
noncomputable def d__law_looks : SDen := (sseq (sif (dor (dnot (dtru (vw (dbind (darcons (dbind (darcons (dvar 0) (dpure [])) fun as => dfnA 1 (f_kind_size 60) as) (darcons (dbind (darcons (dvar 0) (dpure [])) fun as => dfnA 1 (f__law_size 60) as) (dpure []))) fun as => dfnA 2 (f__law_equal 60) as)))) (dnot (dtru (vw (dbind (darcons (dbind (darcons (dvar 0) (dpure [])) fun as => dfnA 1 (f_format_kind 60) as) (darcons (dbind (darcons (dvar 0) (dpure [])) fun as => dfnA 1 (f__law_format 60) as) (dpure []))) fun as => dfnA 2 (f__law_equal 60) as))))) (srt (imR (dpure (.bl false)))) snext) (sseq (sset 1 (dbind (darcons (dvar 0) (dpure [])) fun as => dfnA 1 (f_unknowns 60) as)) (sseq (sif (dnot (dtru (vw (dbind (darcons (dvar 1) (darcons (dbind (darcons (dvar 0) (dpure [])) fun as => dfnA 1 (f__law_unknowns 60) as) (dpure []))) fun as => dfnA 2 (f__law_equal 60) as)))) (srt (imR (dpure (.bl false)))) snext) (sseq (sapp 1 (imR (dbind (dpure (.int 1)) fun x => dlift (negD x)))) (srt (dbind (darcons (dbind (darcons (dvar 0) (dpure [])) fun as => dfnA 1 (f_unknowns 60) as) (darcons (dbind (darcons (dvar 0) (dpure [])) fun as => dfnA 1 (f__law_unknowns 60) as) (dpure []))) fun as => dfnA 2 (f__law_equal 60) as))))))
noncomputable def f__law_looks : FDen := fnden 2 (d__law_looks)
/-- _law_match: 0 _law_pairs, 1 _law_table, 2 _law_turn, 3 _law_kind_here, 4 _law_general, 5 _law_number, 6 _law_worth, 7 _law_left, 8 _law_right, 9 _law_k -/
noncomputable def d__law_match : SDen := (sseq (sset 1 (dlst (dpure []))) (sseq (sset 0 (dlistV (ow (dvar 0)))) (sseq (sforP (rg rng1D (dcons (dpure (.int 5000)) (dpure []))) (bName 2) (sseq (sif (dtB (dcmp (dbind (dconsV (vw (dvar 0)) (dpure [])) fun vs => dlift (lenD vs)) (dpure (.int 0)) eqD)) (srt (imR (dpure (.bl true)))) snext) (sseq (sasg (bTup 2 (bCons (bName 3) (bCons (bName 4) bNil))) (frz (dpop 0))) (sif (dtB (dcmp (fl (dixO (ow (dvar 4)) (dpure (.int 0)))) (dpure (.str "any")) eqD)) (sseq (sfor (dvar 1) (bTup 2 (bCons (bName 5) (bCons (bName 6) bNil))) (sif (dand (dtB (dcmp (vw (dvar 5)) (fl (dixO (ow (dvar 4)) (dpure (.int 1)))) eqD)) (dtB (dcmp (vw (dvar 6)) (vw (dvar 3)) neD))) (srt (imR (dpure (.bl false)))) snext)) (sapp 1 (imR (dtup (dcons (imD (dixO (ow (dvar 4)) (dpure (.int 1)))) (dcons (frz (dvar 3)) (dpure []))))))) (sif (dtB (dcmp (fl (dixO (ow (dvar 3)) (dpure (.int 0)))) (fl (dixO (ow (dvar 4)) (dpure (.int 0)))) neD)) (srt (imR (dpure (.bl false)))) (sseq (sset 7 (imR (frz (dbind (darcons (imR (frz (dvar 3))) (dpure [])) fun as => dfnA 1 (f__law_inner) as)))) (sseq (sset 8 (imR (frz (dbind (darcons (imR (frz (dvar 4))) (dpure [])) fun as => dfnA 1 (f__law_inner) as)))) (sset 0 (dcat (ow (dvar 0)) (ow (dcomp (rg rng1D (dcons (dbind (dconsV (vw (dvar 8)) (dpure [])) fun vs => dlift (lenD vs)) (dpure []))) (bName 9) (dpure true) (imR (dtup (dcons (imD (dixO (ow (dvar 7)) (frz (dvar 9)))) (dcons (imD (dixO (ow (dvar 8)) (frz (dvar 9)))) (dpure []))))) [9]))))))))))) (srt (imR (dpure (.bl false)))))))
noncomputable def f__law_match : FDen := fnden 10 (d__law_match)
/-- law: 0 _law_script, 1 _law_draws, 2 _law_numbers_here, 3 _law_general, 4 _law_k, 5 _law_rows, 6 _law_table, 7 _law_number, 8 _law_worth, 9 _law_kind_here, 10 _law_told -/
noncomputable def d_law : SDen := (sseq (sset 1 (dbind (darcons (dvar 0) (darcons (imR (dpure (.int 160))) (dpure []))) fun as => dfnA 2 (f__law_numbers) as)) (sseq (sset 2 (imR (frz (dlst (dcons (frz (dbind (darcons (dvar 1) (darcons (imR (dpure (.int 4))) (dpure []))) fun as => dfnA 2 (f__law_draw) as)) (dcons (frz (dbind (darcons (dvar 1) (darcons (imR (dpure (.int 4))) (dpure []))) fun as => dfnA 2 (f__law_draw) as)) (dcons (frz (dbind (darcons (dvar 1) (darcons (imR (dpure (.int 1000))) (dpure []))) fun as => dfnA 2 (f__law_draw) as)) (dcons (dbin (dbind (dconsV (vw (dbind (darcons (dvar 1) (dpure [])) fun as => dfnA 1 (f__law_big) as)) (dpure [])) fun vs => dlift (intD vs)) (dpure (.int 1000001)) modD) (dpure []))))))))) (sseq (sset 3 (imR (frz (dbind (darcons (dvar 1) (darcons (imR (dpure (.int 4))) (darcons (imR (frz (dvar 2))) (dpure [])))) fun as => dfnA 3 (f__law_kind 10) as)))) (sseq (sif (dtB (dcmp (vw (dbind (darcons (dvar 1) (darcons (imR (dpure (.int 8))) (dpure []))) fun as => dfnA 2 (f__law_draw) as)) (dpure (.int 1)) eqD)) (sforP (rg rng1D (dcons (frz (dbind (darcons (dvar 1) (darcons (imR (dpure (.int 40))) (dpure []))) fun as => dfnA 2 (f__law_draw) as)) (dpure []))) (bName 4) (sset 3 (imR (dtup (dcons (dpure (.str "list")) (dcons (frz (dvar 3)) (dpure []))))))) snext) (sseq (sset 5 (dlst (dpure []))) (sseq (sset 6 (dpure (.new (.dct [] [])))) (sseq (sfor (dvar 2) (bName 7) (sif (dand (dtB (dcmp (vw (dvar 7)) (vw (dvar 6)) notinXD)) (dtB (dcmp (vw (dbind (darcons (dvar 1) (darcons (imR (dpure (.int 4))) (dpure []))) fun as => dfnA 2 (f__law_draw) as)) (dpure (.int 0)) gtD))) (sseq (sset 8 (imR (frz (dbind (darcons (dvar 1) (darcons (imR (dpure (.int 3))) (darcons (imR (frz (dvar 2))) (dpure [])))) fun as => dfnA 3 (f__law_kind 10) as)))) (sseq (sapp 5 (imR (dtup (dcons (frz (dvar 7)) (dcons (frz (dvar 8)) (dpure [])))))) (sstP (dvar 8) (dplVar 6) (frz (dvar 7))))) snext)) (sseq (sset 9 (imR (frz (dbind (darcons (imR (frz (dvar 3))) (darcons (imR (frz (dvar 5))) (dpure []))) fun as => dfnA 2 (f__law_put 60) as)))) (sseq (sset 10 (imR (frz (dbind (darcons (imR (frz (dvar 3))) (darcons (imR (frz (dvar 6))) (dpure []))) fun as => dfnA 2 (f_replace 60) as)))) (sseq (sif (dor (dnot (dtru (vw (dbind (darcons (imR (frz (dvar 10))) (darcons (imR (frz (dvar 9))) (dpure []))) fun as => dfnA 2 (f__law_equal 60) as)))) (dtB (dcmp (dbind (dconsV (vw (dvar 6)) (dpure [])) fun vs => dlift (lenXD vs)) (dbind (dconsV (vw (dvar 5)) (dpure [])) fun vs => dlift (lenD vs)) neD))) (srt (imR (dpure (.bl false)))) snext) (sseq (sfor (dvar 5) (bTup 2 (bCons (bName 7) (bCons (bName 8) bNil))) (sif (dtB (dcmp (fl (dgetX (ow (dvar 6)) (dcons (frz (dvar 7)) (dpure [])))) (vw (dvar 8)) neD)) (srt (imR (dpure (.bl false)))) snext)) (sseq (sif (dnot (dtru (vw (dbind (darcons (dbind (darcons (imR (frz (dvar 3))) (darcons (imR (frz (dvar 3))) (dpure []))) fun as => dfnA 2 (f_is_instance) as) (darcons (imR (dpure (.bl true))) (dpure []))) fun as => dfnA 2 (f__law_equal 60) as)))) (srt (imR (dpure (.bl false)))) snext) (sseq (sif (dnot (dtru (vw (dbind (darcons (imR (dtup (dcons (dpure (.tup [.str "int"])) (dcons (dpure (.tup [.str "bool"])) (dcons (dpure (.tup [.str "output"])) (dcons (dpure (.int 40)) (dpure []))))))) (darcons (imR (dtup (dcons (dtup (dcons (dpure (.str "int")) (dpure []))) (dcons (dtup (dcons (dpure (.str "bool")) (dpure []))) (dcons (dtup (dcons (dpure (.str "output")) (dpure []))) (dcons (dpure (.int 40)) (dpure []))))))) (dpure []))) fun as => dfnA 2 (f__law_equal 60) as)))) (srt (imR (dpure (.bl false)))) snext) (sseq (sif (dtB (dcmp (vw (dbind (darcons (dvar 1) (darcons (imR (dpure (.int 2))) (dpure []))) fun as => dfnA 2 (f__law_draw) as)) (dpure (.int 0)) eqD)) (sset 9 (imR (frz (dbind (darcons (dvar 1) (darcons (imR (frz (dvar 9))) (darcons (dbind (darcons (dvar 1) (darcons (imR (dpure (.int 2))) (darcons (imR (frz (dvar 2))) (dpure [])))) fun as => dfnA 3 (f__law_kind 10) as) (dpure [])))) fun as => dfnA 3 (f__law_changed 60) as)))) (sif (dtB (dcmp (vw (dbind (darcons (dvar 1) (darcons (imR (dpure (.int 4))) (dpure []))) fun as => dfnA 2 (f__law_draw) as)) (dpure (.int 0)) eqD)) (sset 9 (imR (frz (dbind (darcons (dvar 1) (darcons (imR (dpure (.int 3))) (darcons (imR (frz (dvar 2))) (dpure [])))) fun as => dfnA 3 (f__law_kind 10) as)))) snext)) (sseq (sif (dor (dnot (dtru (vw (dbind (darcons (imR (frz (dvar 3))) (dpure [])) fun as => dfnA 1 (f__law_looks) as)))) (dnot (dtru (vw (dbind (darcons (imR (frz (dvar 9))) (dpure [])) fun as => dfnA 1 (f__law_looks) as))))) (srt (imR (dpure (.bl false)))) snext) (srt (dbind (darcons (dbind (darcons (imR (frz (dvar 9))) (darcons (imR (frz (dvar 3))) (dpure []))) fun as => dfnA 2 (f_is_instance) as) (darcons (dbind (darcons (dlst (dcons (dtup (dcons (frz (dvar 9)) (dcons (frz (dvar 3)) (dpure [])))) (dpure []))) (dpure [])) fun as => dfnA 1 (f__law_match) as) (dpure []))) fun as => dfnA 2 (f__law_equal 60) as)))))))))))))))))
noncomputable def f_law : FDen := fnden 11 (d_law)
noncomputable def fA (_ : Unit) : FDen := f_law
end K14

namespace K14
open PySem PySem.Spec PyProof.Rows L2 Evl DL
def top (i : Nat) : Stmt := PySem.Challenge.pw_keptcoin_k14_kinds.main.body.getD i (.Pass ⟨0, 0, 0, 0⟩)
abbrev s__law_numbers : Stmt := top 12
theorem sc__law_numbers : FnScope ["_law_script", "_law_many", "_law_numbers_here", "_law_seed", "_law_cell", "_law_rest", "_law_turn", "_law_k", "_law_mixed"] ["_law_script", "_law_many"] (defScope s__law_numbers) := ⟨rfl, rfl, rfl, by decide +kernel, rfl, by decide +kernel, by decide +kernel⟩
abbrev s__law_draw : Stmt := top 13
theorem sc__law_draw : FnScope ["_law_draws", "_law_many"] ["_law_draws", "_law_many"] (defScope s__law_draw) := ⟨rfl, rfl, rfl, by decide +kernel, rfl, by decide +kernel, by decide +kernel⟩
abbrev s__law_big : Stmt := top 14
theorem sc__law_big : FnScope ["_law_draws", "_law_number", "_law_k"] ["_law_draws"] (defScope s__law_big) := ⟨rfl, rfl, rfl, by decide +kernel, rfl, by decide +kernel, by decide +kernel⟩
abbrev s__law_kind : Stmt := top 16
theorem sc__law_kind : FnScope ["_law_draws", "_law_levels", "_law_numbers_here", "_law_choice"] ["_law_draws", "_law_levels", "_law_numbers_here"] (defScope s__law_kind) := ⟨rfl, rfl, rfl, by decide +kernel, rfl, by decide +kernel, by decide +kernel⟩
abbrev s__law_put : Stmt := top 17
theorem sc__law_put : FnScope ["_law_kind_here", "_law_table", "_law_number", "_law_worth"] ["_law_kind_here", "_law_table"] (defScope s__law_put) := ⟨rfl, rfl, rfl, by decide +kernel, rfl, by decide +kernel, by decide +kernel⟩
abbrev s_inner : Stmt := top 5
theorem sc_inner : FnScope ["kind"] ["kind"] (defScope s_inner) := ⟨rfl, rfl, rfl, by decide +kernel, rfl, by decide +kernel, by decide +kernel⟩
abbrev s_replace : Stmt := top 9
theorem sc_replace : FnScope ["kind", "table", "part"] ["kind", "table"] (defScope s_replace) := ⟨rfl, rfl, rfl, by decide +kernel, rfl, by decide +kernel, by decide +kernel⟩
abbrev s__law_equal : Stmt := top 15
theorem sc__law_equal : FnScope ["_law_actual", "_law_expected", "_law_k"] ["_law_actual", "_law_expected"] (defScope s__law_equal) := ⟨rfl, rfl, rfl, by decide +kernel, rfl, by decide +kernel, by decide +kernel⟩
abbrev s_is_instance : Stmt := top 10
theorem sc_is_instance : FnScope ["kind", "general", "table", "pairs", "mine", "other"] ["kind", "general"] (defScope s_is_instance) := ⟨rfl, rfl, rfl, by decide +kernel, rfl, by decide +kernel, by decide +kernel⟩
abbrev s__law_inner : Stmt := top 18
theorem sc__law_inner : FnScope ["_law_kind_here", "_law_item"] ["_law_kind_here"] (defScope s__law_inner) := ⟨rfl, rfl, rfl, by decide +kernel, rfl, by decide +kernel, by decide +kernel⟩
abbrev s__law_changed : Stmt := top 23
theorem sc__law_changed : FnScope ["_law_draws", "_law_kind_here", "_law_other", "_law_inner_here", "_law_at"] ["_law_draws", "_law_kind_here", "_law_other"] (defScope s__law_changed) := ⟨rfl, rfl, rfl, by decide +kernel, rfl, by decide +kernel, by decide +kernel⟩
abbrev s_kind_size : Stmt := top 6
theorem sc_kind_size : FnScope ["kind", "part"] ["kind"] (defScope s_kind_size) := ⟨rfl, rfl, rfl, by decide +kernel, rfl, by decide +kernel, by decide +kernel⟩
abbrev s__law_size : Stmt := top 19
theorem sc__law_size : FnScope ["_law_kind_here", "_law_part"] ["_law_kind_here"] (defScope s__law_size) := ⟨rfl, rfl, rfl, by decide +kernel, rfl, by decide +kernel, by decide +kernel⟩
abbrev s_format_kind : Stmt := top 7
theorem sc_format_kind : FnScope ["kind", "texts", "part"] ["kind"] (defScope s_format_kind) := ⟨rfl, rfl, rfl, by decide +kernel, rfl, by decide +kernel, by decide +kernel⟩
abbrev s__law_format : Stmt := top 22
theorem sc__law_format : FnScope ["_law_kind_here"] ["_law_kind_here"] (defScope s__law_format) := ⟨rfl, rfl, rfl, by decide +kernel, rfl, by decide +kernel, by decide +kernel⟩
abbrev s_unknowns : Stmt := top 8
theorem sc_unknowns : FnScope ["kind", "found", "part", "number"] ["kind"] (defScope s_unknowns) := ⟨rfl, rfl, rfl, by decide +kernel, rfl, by decide +kernel, by decide +kernel⟩
abbrev s__law_unknowns : Stmt := top 20
theorem sc__law_unknowns : FnScope ["_law_kind_here", "_law_found", "_law_part", "_law_number"] ["_law_kind_here"] (defScope s__law_unknowns) := ⟨rfl, rfl, rfl, by decide +kernel, rfl, by decide +kernel, by decide +kernel⟩
abbrev s__law_looks : Stmt := top 24
theorem sc__law_looks : FnScope ["_law_kind_here", "_law_told"] ["_law_kind_here"] (defScope s__law_looks) := ⟨rfl, rfl, rfl, by decide +kernel, rfl, by decide +kernel, by decide +kernel⟩
abbrev s__law_match : Stmt := top 21
theorem sc__law_match : FnScope ["_law_pairs", "_law_table", "_law_turn", "_law_kind_here", "_law_general", "_law_number", "_law_worth", "_law_left", "_law_right", "_law_k"] ["_law_pairs"] (defScope s__law_match) := ⟨rfl, rfl, rfl, by decide +kernel, rfl, by decide +kernel, by decide +kernel⟩
abbrev s_law : Stmt := top 25
theorem sc_law : FnScope ["_law_script", "_law_draws", "_law_numbers_here", "_law_general", "_law_k", "_law_rows", "_law_table", "_law_number", "_law_worth", "_law_kind_here", "_law_told"] ["_law_script"] (defScope s_law) := ⟨rfl, rfl, rfl, by decide +kernel, rfl, by decide +kernel, by decide +kernel⟩
structure Txt (K : PySem.W.Frag) (mg : Str → Option Value) (A : Nat → Addr) (FD : Nat → FuncData) : Prop where
  f__law_numbers : mg "_law_numbers" = some (.ref (A 0))
  F__law_numbers : Df K "_law_numbers" "_law_numbers" s__law_numbers (A 0) (FD 0)
  b__law_numbers : Binds K (FD 0) ["_law_script", "_law_many"] []
  f__law_draw : mg "_law_draw" = some (.ref (A 1))
  F__law_draw : Df K "_law_draw" "_law_draw" s__law_draw (A 1) (FD 1)
  b__law_draw : Binds K (FD 1) ["_law_draws", "_law_many"] []
  f__law_big : mg "_law_big" = some (.ref (A 2))
  F__law_big : Df K "_law_big" "_law_big" s__law_big (A 2) (FD 2)
  b__law_big : Binds K (FD 2) ["_law_draws"] []
  f__law_kind : mg "_law_kind" = some (.ref (A 3))
  F__law_kind : Df K "_law_kind" "_law_kind" s__law_kind (A 3) (FD 3)
  b__law_kind : Binds K (FD 3) ["_law_draws", "_law_levels", "_law_numbers_here"] []
  f__law_put : mg "_law_put" = some (.ref (A 4))
  F__law_put : Df K "_law_put" "_law_put" s__law_put (A 4) (FD 4)
  b__law_put : Binds K (FD 4) ["_law_kind_here", "_law_table"] []
  f_inner : mg "inner" = some (.ref (A 5))
  F_inner : Df K "inner" "inner" s_inner (A 5) (FD 5)
  b_inner : Binds K (FD 5) ["kind"] []
  f_replace : mg "replace" = some (.ref (A 6))
  F_replace : Df K "replace" "replace" s_replace (A 6) (FD 6)
  b_replace : Binds K (FD 6) ["kind", "table"] []
  f__law_equal : mg "_law_equal" = some (.ref (A 7))
  F__law_equal : Df K "_law_equal" "_law_equal" s__law_equal (A 7) (FD 7)
  b__law_equal : Binds K (FD 7) ["_law_actual", "_law_expected"] []
  f_is_instance : mg "is_instance" = some (.ref (A 8))
  F_is_instance : Df K "is_instance" "is_instance" s_is_instance (A 8) (FD 8)
  b_is_instance : Binds K (FD 8) ["kind", "general"] []
  f__law_inner : mg "_law_inner" = some (.ref (A 9))
  F__law_inner : Df K "_law_inner" "_law_inner" s__law_inner (A 9) (FD 9)
  b__law_inner : Binds K (FD 9) ["_law_kind_here"] []
  f__law_changed : mg "_law_changed" = some (.ref (A 10))
  F__law_changed : Df K "_law_changed" "_law_changed" s__law_changed (A 10) (FD 10)
  b__law_changed : Binds K (FD 10) ["_law_draws", "_law_kind_here", "_law_other"] []
  f_kind_size : mg "kind_size" = some (.ref (A 11))
  F_kind_size : Df K "kind_size" "kind_size" s_kind_size (A 11) (FD 11)
  b_kind_size : Binds K (FD 11) ["kind"] []
  f__law_size : mg "_law_size" = some (.ref (A 12))
  F__law_size : Df K "_law_size" "_law_size" s__law_size (A 12) (FD 12)
  b__law_size : Binds K (FD 12) ["_law_kind_here"] []
  f_format_kind : mg "format_kind" = some (.ref (A 13))
  F_format_kind : Df K "format_kind" "format_kind" s_format_kind (A 13) (FD 13)
  b_format_kind : Binds K (FD 13) ["kind"] []
  f__law_format : mg "_law_format" = some (.ref (A 14))
  F__law_format : Df K "_law_format" "_law_format" s__law_format (A 14) (FD 14)
  b__law_format : Binds K (FD 14) ["_law_kind_here"] []
  f_unknowns : mg "unknowns" = some (.ref (A 15))
  F_unknowns : Df K "unknowns" "unknowns" s_unknowns (A 15) (FD 15)
  b_unknowns : Binds K (FD 15) ["kind"] []
  f__law_unknowns : mg "_law_unknowns" = some (.ref (A 16))
  F__law_unknowns : Df K "_law_unknowns" "_law_unknowns" s__law_unknowns (A 16) (FD 16)
  b__law_unknowns : Binds K (FD 16) ["_law_kind_here"] []
  f__law_looks : mg "_law_looks" = some (.ref (A 17))
  F__law_looks : Df K "_law_looks" "_law_looks" s__law_looks (A 17) (FD 17)
  b__law_looks : Binds K (FD 17) ["_law_kind_here"] []
  f__law_match : mg "_law_match" = some (.ref (A 18))
  F__law_match : Df K "_law_match" "_law_match" s__law_match (A 18) (FD 18)
  b__law_match : Binds K (FD 18) ["_law_pairs"] []
  F_law : Df K "law" "law" s_law (A 19) (FD 19)
  g_BOOL : ∃ u, mg "BOOL" = some u ∧ WR K (.tup [.str "bool"]) u
  g_INT : ∃ u, mg "INT" = some u ∧ WR K (.tup [.str "int"]) u
  g_MOST_SIZE : ∃ t, mg "MOST_SIZE" = some (.int 40 t)
  g_OUTPUT : ∃ u, mg "OUTPUT" = some u ∧ WR K (.tup [.str "output"]) u
  n_abs : mg "abs" = none
  n_bool : mg "bool" = none
  n_int : mg "int" = none
  n_isinstance : mg "isinstance" = none
  n_len : mg "len" = none
  n_list : mg "list" = none
  n_range : mg "range" = none
  n_str : mg "str" = none
  n_sum : mg "sum" = none
  n_tuple : mg "tuple" = none
  n_zip : mg "zip" = none
section
variable {P : Program} {w : World} {K : PySem.W.Frag} {mg : Str → Option Value} {base : Heap} {A : Nat → Addr} {FD : Nat → FuncData}
theorem ok__law_numbers (T : Txt K mg A FD) : FnOk P w K mg base (L2.CX P w) 1 (A 0) (FD 0) ["_law_script", "_law_many"] (spD ⟨K, P, w, mg⟩ 2 (f__law_numbers)) := by
  refine fn_okD (N := ["_law_script", "_law_many", "_law_numbers_here", "_law_seed", "_law_cell", "_law_rest", "_law_turn", "_law_k", "_law_mixed"]) (ps := ["_law_script", "_law_many"]) (k := 0) (den := d__law_numbers) T.F__law_numbers sc__law_numbers fun cdv Ar outer s H E hr => ?_
  have nd := sc__law_numbers.nd
  have hu := hr.units
  have hu1 : (Ar.deeper (envOfC "_law_numbers" (defScope s__law_numbers) s.heap.objs.size (A 0) cdv)).units + 65 < cLine := by have := hr.un; omega
  have hu2 : (Ar.deeper (envOfC "_law_numbers" (defScope s__law_numbers) s.heap.objs.size (A 0) cdv)).units + 1 < cLine := by omega
  have tk : Takes (cxOf (L2.CX P w) P w K mg base ["_law_script", "_law_many", "_law_numbers_here", "_law_seed", "_law_cell", "_law_rest", "_law_turn", "_law_k", "_law_mixed"] "_law_numbers" (defScope s__law_numbers) (A 0) cdv Ar outer s H E) (fun cls d _ H => E cls d H) := takes_of rfl rfl rfl rfl
  have po : PassesOwn (model P w) (Ar.deeper (envOfC "_law_numbers" (defScope s__law_numbers) s.heap.objs.size (A 0) cdv)) (cxOf (L2.CX P w) P w K mg base ["_law_script", "_law_many", "_law_numbers_here", "_law_seed", "_law_cell", "_law_rest", "_law_turn", "_law_k", "_law_mixed"] "_law_numbers" (defScope s__law_numbers) (A 0) cdv Ar outer s H E).env (cxOf (L2.CX P w) P w K mg base ["_law_script", "_law_many", "_law_numbers_here", "_law_seed", "_law_cell", "_law_rest", "_law_turn", "_law_k", "_law_mixed"] "_law_numbers" (defScope s__law_numbers) (A 0) cdv Ar outer s H E).xe := passes_of rfl
  exact (dss_cons (ds_set (i := 2) nd rfl (.inl rfl) (de_lst da_nil)) (dss_cons (ds_set (i := 3) nd rfl (.inl rfl) di_int.e) (dss_cons (ds_for po rfl (de_var (pv 0)) (dg_name (i := 4) nd rfl (.inl rfl)) (dss_cons (ds_set (i := 5) nd rfl (.inl rfl) (di_callBV call_abs ok_abs (by rfl) T.n_abs (by decide +kernel) (dv_cons (de_var (pv 4)).v dv_nil)).e) (dss_cons (ds_set (i := 3) nd rfl (.inl rfl) (di_mod (di_callTV call_int1 ok_int (by rfl) T.n_int (by decide +kernel) (dv_cons (di_add (di_add (di_mul (de_var (pv 3)).i di_int) (di_mul (de_var (pv 5)).i di_int)) di_int).v dv_nil)) di_int).e) (dss_one (ds_if (dt_cmp op_ge ok_ge (de_var (pv 5)).v (di_pow di_int di_int).v (nomark _)) (dss_one (ds_forP po rfl (dpi_range1 (by rfl) T.n_range (da_cons di_int da_nil)) (dg_name (i := 6) nd rfl (.inl rfl)) (dss_one (ds_if (dt_cmp op_ge ok_ge (de_var (pv 5)).v di_int.v (nomark _)) (dss_cons (ds_app (i := 2) (pv 2) (di_mod (di_callTV call_int1 ok_int (by rfl) T.n_int (by decide +kernel) (dv_cons (de_var (pv 5)).v dv_nil)) di_int).e (fun h => pe_bm PySem.F.plainAttrs_list PySem.F.slot_list_append PySem.F.type_list_append mt_append (pv 2) h)) (dss_one (ds_set (i := 5) nd rfl (.inl rfl) (di_div (de_var (pv 5)).i di_int).e))) dss_nil)))) dss_nil))))) (dss_cons (ds_set (i := 2) nd rfl (.inl rfl) (de_slice (de_var (pv 2)).o dp_none (dp_some (de_var (pv 1)).i))) (dss_cons (ds_forP po rfl (dpi_range1 (by rfl) T.n_range (da_cons (di_sub (de_var (pv 1)).i (di_callBV call_len ok_len (by rfl) T.n_len (by decide +kernel) (dv_cons (de_var (pv 2)).v dv_nil))) da_nil)) (dg_name (i := 7) nd rfl (.inl rfl)) (dss_cons (ds_set (i := 8) nd rfl (.inl rfl) (di_mod (di_callTV call_int1 ok_int (by rfl) T.n_int (by decide +kernel) (dv_cons (di_add (di_add (di_mul (de_var (pv 3)).i di_int) (di_mul (de_var (pv 7)).i di_int)) di_int).v dv_nil)) di_int).e) (dss_cons (ds_set (i := 8) nd rfl (.inl rfl) (di_mod (di_callTV call_int1 ok_int (by rfl) T.n_int (by decide +kernel) (dv_cons (di_add (di_add (di_mul (de_var (pv 8)).i (de_var (pv 8)).i) (di_mul di_int (de_var (pv 7)).i)) di_int).v dv_nil)) di_int).e) (dss_one (ds_app (i := 2) (pv 2) (di_mod (di_callTV call_int1 ok_int (by rfl) T.n_int (by decide +kernel) (dv_cons (di_div (de_var (pv 8)).i di_int).v dv_nil)) di_int).e (fun h => pe_bm PySem.F.plainAttrs_list PySem.F.slot_list_append PySem.F.type_list_append mt_append (pv 2) h)))))) (dss_one (ds_ret (de_rev (de_var (pv 2)).o pe_revL))))))))
theorem ok__law_draw (T : Txt K mg A FD) : FnOk P w K mg base (L2.CX P w) 1 (A 1) (FD 1) ["_law_draws", "_law_many"] (spD ⟨K, P, w, mg⟩ 2 (f__law_draw)) := by
  refine fn_okD (N := ["_law_draws", "_law_many"]) (ps := ["_law_draws", "_law_many"]) (k := 0) (den := d__law_draw) T.F__law_draw sc__law_draw fun cdv Ar outer s H E hr => ?_
  have nd := sc__law_draw.nd
  have hu := hr.units
  have hu1 : (Ar.deeper (envOfC "_law_draw" (defScope s__law_draw) s.heap.objs.size (A 1) cdv)).units + 65 < cLine := by have := hr.un; omega
  have hu2 : (Ar.deeper (envOfC "_law_draw" (defScope s__law_draw) s.heap.objs.size (A 1) cdv)).units + 1 < cLine := by omega
  have tk : Takes (cxOf (L2.CX P w) P w K mg base ["_law_draws", "_law_many"] "_law_draw" (defScope s__law_draw) (A 1) cdv Ar outer s H E) (fun cls d _ H => E cls d H) := takes_of rfl rfl rfl rfl
  have po : PassesOwn (model P w) (Ar.deeper (envOfC "_law_draw" (defScope s__law_draw) s.heap.objs.size (A 1) cdv)) (cxOf (L2.CX P w) P w K mg base ["_law_draws", "_law_many"] "_law_draw" (defScope s__law_draw) (A 1) cdv Ar outer s H E).env (cxOf (L2.CX P w) P w K mg base ["_law_draws", "_law_many"] "_law_draw" (defScope s__law_draw) (A 1) cdv Ar outer s H E).xe := passes_of rfl
  exact (dss_cons (ds_if (dt_cmp (op_eqD hu) ok_eq (di_callBV call_len ok_len (by rfl) T.n_len (by decide +kernel) (dv_cons (de_var (pv 0)).v dv_nil)).v di_int.v (nomark _)) (dss_one (ds_ret di_int.e)) dss_nil) (dss_one (ds_ret (di_mod (di_callTV call_int1 ok_int (by rfl) T.n_int (by decide +kernel) (dv_cons (de_pop (i := 0) (pe_bm0 PySem.F.plainAttrs_list PySem.F.slot_list_pop PySem.F.type_list_pop mt_pop (pv 0))).v dv_nil)) (de_var (pv 1)).i).e)))
theorem ok__law_big (T : Txt K mg A FD) : FnOk P w K mg base (L2.CX P w) 2 (A 2) (FD 2) ["_law_draws"] (spD ⟨K, P, w, mg⟩ 1 (f__law_big)) := by
  have G__law_draw : FnOk P w K mg base (L2.CX P w) 1 (A 1) (FD 1) ["_law_draws", "_law_many"] (spD ⟨K, P, w, mg⟩ 2 (f__law_draw)) := ok__law_draw T
  obtain ⟨dl__law_draw_0, dv__law_draw_0, hb__law_draw_0, hd__law_draw_0, hdd__law_draw_0, hl__law_draw_0⟩ := db0 T.b__law_draw
  refine fn_okD (N := ["_law_draws", "_law_number", "_law_k"]) (ps := ["_law_draws"]) (k := 1) (den := d__law_big) T.F__law_big sc__law_big fun cdv Ar outer s H E hr => ?_
  have nd := sc__law_big.nd
  have hu := hr.units
  have hu1 : (Ar.deeper (envOfC "_law_big" (defScope s__law_big) s.heap.objs.size (A 2) cdv)).units + 65 < cLine := by have := hr.un; omega
  have hu2 : (Ar.deeper (envOfC "_law_big" (defScope s__law_big) s.heap.objs.size (A 2) cdv)).units + 1 < cLine := by omega
  have tk : Takes (cxOf (L2.CX P w) P w K mg base ["_law_draws", "_law_number", "_law_k"] "_law_big" (defScope s__law_big) (A 2) cdv Ar outer s H E) (fun cls d _ H => E cls d H) := takes_of rfl rfl rfl rfl
  have po : PassesOwn (model P w) (Ar.deeper (envOfC "_law_big" (defScope s__law_big) s.heap.objs.size (A 2) cdv)) (cxOf (L2.CX P w) P w K mg base ["_law_draws", "_law_number", "_law_k"] "_law_big" (defScope s__law_big) (A 2) cdv Ar outer s H E).env (cxOf (L2.CX P w) P w K mg base ["_law_draws", "_law_number", "_law_k"] "_law_big" (defScope s__law_big) (A 2) cdv Ar outer s H E).xe := passes_of rfl
  exact (dss_cons (ds_set (i := 1) nd rfl (.inl rfl) di_int.e) (dss_cons (ds_forP po rfl (dpi_range1 (by rfl) T.n_range (da_cons di_int da_nil)) (dg_name (i := 2) nd rfl (.inl rfl)) (dss_one (ds_set (i := 1) nd rfl (.inl rfl) (di_add (di_mul (de_var (pv 1)).i di_int) (de_call G__law_draw tk (hr.mono (by decide)) (by rfl) T.f__law_draw T.F__law_draw.kp T.b__law_draw (dar_cons (de_var (pv 0)) (dar_cons di_int.e dar_nil))).i).e))) (dss_one (ds_ret (de_var (pv 1))))))
theorem ok__law_kind (T : Txt K mg A FD) : ∀ j : Nat, FnOk P w K mg base (L2.CX P w) (2 + j) (A 3) (FD 3) ["_law_draws", "_law_levels", "_law_numbers_here"] (spD ⟨K, P, w, mg⟩ 3 (f__law_kind j))
  | 0 => by
    refine fn_okD (N := ["_law_draws", "_law_levels", "_law_numbers_here", "_law_choice"]) (ps := ["_law_draws", "_law_levels", "_law_numbers_here"]) (k := 1) (den := (sseq (fun _ => none) (sseq (fun _ => none) (sseq (fun _ => none) (sseq (fun _ => none) (fun _ => none)))))) T.F__law_kind sc__law_kind fun cdv Ar outer s H E hr => ?_
    exact (dss_cons ds_never (dss_cons ds_never (dss_cons ds_never (dss_cons ds_never (dss_one ds_never)))))
  | j + 1 => by
    have G_rec : FnOk P w K mg base (L2.CX P w) (2 + j) (A 3) (FD 3) ["_law_draws", "_law_levels", "_law_numbers_here"] (spD ⟨K, P, w, mg⟩ 3 (f__law_kind j)) := ok__law_kind T j
    have G__law_draw : FnOk P w K mg base (L2.CX P w) 1 (A 1) (FD 1) ["_law_draws", "_law_many"] (spD ⟨K, P, w, mg⟩ 2 (f__law_draw)) := ok__law_draw T
    obtain ⟨dl__law_draw_0, dv__law_draw_0, hb__law_draw_0, hd__law_draw_0, hdd__law_draw_0, hl__law_draw_0⟩ := db0 T.b__law_draw
    refine fn_okD (N := ["_law_draws", "_law_levels", "_law_numbers_here", "_law_choice"]) (ps := ["_law_draws", "_law_levels", "_law_numbers_here"]) (k := 2 + j) (den := d__law_kind (f__law_kind j)) T.F__law_kind sc__law_kind fun cdv Ar outer s H E hr => ?_
    have nd := sc__law_kind.nd
    have hu := hr.units
    have hu1 : (Ar.deeper (envOfC "_law_kind" (defScope s__law_kind) s.heap.objs.size (A 3) cdv)).units + 65 < cLine := by have := hr.un; omega
    have hu2 : (Ar.deeper (envOfC "_law_kind" (defScope s__law_kind) s.heap.objs.size (A 3) cdv)).units + 1 < cLine := by omega
    have tk : Takes (cxOf (L2.CX P w) P w K mg base ["_law_draws", "_law_levels", "_law_numbers_here", "_law_choice"] "_law_kind" (defScope s__law_kind) (A 3) cdv Ar outer s H E) (fun cls d _ H => E cls d H) := takes_of rfl rfl rfl rfl
    have po : PassesOwn (model P w) (Ar.deeper (envOfC "_law_kind" (defScope s__law_kind) s.heap.objs.size (A 3) cdv)) (cxOf (L2.CX P w) P w K mg base ["_law_draws", "_law_levels", "_law_numbers_here", "_law_choice"] "_law_kind" (defScope s__law_kind) (A 3) cdv Ar outer s H E).env (cxOf (L2.CX P w) P w K mg base ["_law_draws", "_law_levels", "_law_numbers_here", "_law_choice"] "_law_kind" (defScope s__law_kind) (A 3) cdv Ar outer s H E).xe := passes_of rfl
    exact (dss_cons (ds_set (i := 3) nd rfl (.inl rfl) (de_call G__law_draw tk (hr.mono (by omega)) (by rfl) T.f__law_draw T.F__law_draw.kp T.b__law_draw (dar_cons (de_var (pv 0)) (dar_cons di_int.e dar_nil))).i.e) (dss_cons (ds_if (dw_and (dt_cmp op_gt ok_gt (de_var (pv 1)).v di_int.v (nomark _)) (dw_and1 (dt_cmp op_ge ok_ge (de_var (pv 3)).v di_int.v (nomark _)))).t (dss_one (ds_ret (di_tup (da_cons di_str (da_cons (de_call G_rec tk (hr.mono (by omega)) (by rfl) T.f__law_kind T.F__law_kind.kp T.b__law_kind (dar_cons (de_var (pv 0)) (dar_cons (di_sub (de_var (pv 1)).i di_int).e (dar_cons (de_var (pv 2)) dar_nil)))).i (da_cons (de_call G_rec tk (hr.mono (by omega)) (by rfl) T.f__law_kind T.F__law_kind.kp T.b__law_kind (dar_cons (de_var (pv 0)) (dar_cons (di_sub (de_var (pv 1)).i di_int).e (dar_cons (de_var (pv 2)) dar_nil)))).i da_nil)))).e)) dss_nil) (dss_cons (ds_if (dw_and (dt_cmp op_gt ok_gt (de_var (pv 1)).v di_int.v (nomark _)) (dw_and1 (dt_cmp op_ge ok_ge (de_var (pv 3)).v di_int.v (nomark _)))).t (dss_one (ds_ret (di_tup (da_cons di_str (da_cons (de_call G_rec tk (hr.mono (by omega)) (by rfl) T.f__law_kind T.F__law_kind.kp T.b__law_kind (dar_cons (de_var (pv 0)) (dar_cons (di_sub (de_var (pv 1)).i di_int).e (dar_cons (de_var (pv 2)) dar_nil)))).i da_nil))).e)) dss_nil) (dss_cons (ds_if (dw_and (dt_cmp op_ge ok_ge (de_var (pv 3)).v di_int.v (nomark _)) (dw_and1 (dt_cmp op_gt ok_gt (di_callBV call_len ok_len (by rfl) T.n_len (by decide +kernel) (dv_cons (de_var (pv 2)).v dv_nil)).v di_int.v (nomark _)))).t (dss_one (ds_ret (di_tup (da_cons di_str (da_cons (di_ixI (de_var (pv 2)).i (di_mod (di_callTV call_int1 ok_int (by rfl) T.n_int (by decide +kernel) (dv_cons (de_call G__law_draw tk (hr.mono (by omega)) (by rfl) T.f__law_draw T.F__law_draw.kp T.b__law_draw (dar_cons (de_var (pv 0)) (dar_cons di_int.e dar_nil))).v dv_nil)) (di_callBV call_len ok_len (by rfl) T.n_len (by decide +kernel) (dv_cons (de_var (pv 2)).v dv_nil)))) da_nil))).e)) dss_nil) (dss_one (ds_ret (do_ix (de_lst (da_cons (di_tup (da_cons di_str da_nil)) (da_cons (di_tup (da_cons di_str da_nil)) (da_cons (di_tup (da_cons di_str da_nil)) da_nil)))).o (di_mod (di_callTV call_int1 ok_int (by rfl) T.n_int (by decide +kernel) (dv_cons (de_var (pv 3)).v dv_nil)) di_int)).i.e))))))
theorem ok__law_put (T : Txt K mg A FD) : ∀ j : Nat, FnOk P w K mg base (L2.CX P w) (1 + j) (A 4) (FD 4) ["_law_kind_here", "_law_table"] (spD ⟨K, P, w, mg⟩ 2 (f__law_put j))
  | 0 => by
    refine fn_okD (N := ["_law_kind_here", "_law_table", "_law_number", "_law_worth"]) (ps := ["_law_kind_here", "_law_table"]) (k := 0) (den := (sseq (fun _ => none) (sseq (fun _ => none) (sseq (fun _ => none) (fun _ => none))))) T.F__law_put sc__law_put fun cdv Ar outer s H E hr => ?_
    exact (dss_cons ds_never (dss_cons ds_never (dss_cons ds_never (dss_one ds_never))))
  | j + 1 => by
    have G_rec : FnOk P w K mg base (L2.CX P w) (1 + j) (A 4) (FD 4) ["_law_kind_here", "_law_table"] (spD ⟨K, P, w, mg⟩ 2 (f__law_put j)) := ok__law_put T j
    refine fn_okD (N := ["_law_kind_here", "_law_table", "_law_number", "_law_worth"]) (ps := ["_law_kind_here", "_law_table"]) (k := 1 + j) (den := d__law_put (f__law_put j)) T.F__law_put sc__law_put fun cdv Ar outer s H E hr => ?_
    have nd := sc__law_put.nd
    have hu := hr.units
    have hu1 : (Ar.deeper (envOfC "_law_put" (defScope s__law_put) s.heap.objs.size (A 4) cdv)).units + 65 < cLine := by have := hr.un; omega
    have hu2 : (Ar.deeper (envOfC "_law_put" (defScope s__law_put) s.heap.objs.size (A 4) cdv)).units + 1 < cLine := by omega
    have tk : Takes (cxOf (L2.CX P w) P w K mg base ["_law_kind_here", "_law_table", "_law_number", "_law_worth"] "_law_put" (defScope s__law_put) (A 4) cdv Ar outer s H E) (fun cls d _ H => E cls d H) := takes_of rfl rfl rfl rfl
    have po : PassesOwn (model P w) (Ar.deeper (envOfC "_law_put" (defScope s__law_put) s.heap.objs.size (A 4) cdv)) (cxOf (L2.CX P w) P w K mg base ["_law_kind_here", "_law_table", "_law_number", "_law_worth"] "_law_put" (defScope s__law_put) (A 4) cdv Ar outer s H E).env (cxOf (L2.CX P w) P w K mg base ["_law_kind_here", "_law_table", "_law_number", "_law_worth"] "_law_put" (defScope s__law_put) (A 4) cdv Ar outer s H E).xe := passes_of rfl
    exact (dss_cons (ds_if (dt_cmp (op_eqD hu) ok_eq (do_ix (de_var (pv 0)).o di_int).v di_str.v (nomark _)) (dss_cons (ds_for po rfl (de_var (pv 1)) (dg_tup rfl (dgs_cons (dg_name (i := 2) nd rfl (.inl rfl)) (dgs_cons (dg_name (i := 3) nd rfl (.inl rfl)) dgs_nil))) (dss_one (ds_if (dt_cmp (op_eqD hu) ok_eq (de_var (pv 2)).v (do_ix (de_var (pv 0)).o di_int).v (nomark _)) (dss_one (ds_ret (de_var (pv 3)))) dss_nil))) (dss_one (ds_ret (de_var (pv 0))))) dss_nil) (dss_cons (ds_if (dt_cmp (op_eqD hu) ok_eq (do_ix (de_var (pv 0)).o di_int).v di_str.v (nomark _)) (dss_one (ds_ret (di_tup (da_cons di_str (da_cons (de_call G_rec tk (hr.mono (by omega)) (by rfl) T.f__law_put T.F__law_put.kp T.b__law_put (dar_cons (do_ix (de_var (pv 0)).o di_int).i.e (dar_cons (de_var (pv 1)) dar_nil))).i da_nil))).e)) dss_nil) (dss_cons (ds_if (dt_cmp (op_eqD hu) ok_eq (do_ix (de_var (pv 0)).o di_int).v di_str.v (nomark _)) (dss_one (ds_ret (di_tup (da_cons di_str (da_cons (de_call G_rec tk (hr.mono (by omega)) (by rfl) T.f__law_put T.F__law_put.kp T.b__law_put (dar_cons (do_ix (de_var (pv 0)).o di_int).i.e (dar_cons (de_var (pv 1)) dar_nil))).i (da_cons (de_call G_rec tk (hr.mono (by omega)) (by rfl) T.f__law_put T.F__law_put.kp T.b__law_put (dar_cons (do_ix (de_var (pv 0)).o di_int).i.e (dar_cons (de_var (pv 1)) dar_nil))).i da_nil)))).e)) dss_nil) (dss_one (ds_ret (de_var (pv 0)))))))
theorem ok_inner (T : Txt K mg A FD) : FnOk P w K mg base (L2.CX P w) 1 (A 5) (FD 5) ["kind"] (spD ⟨K, P, w, mg⟩ 1 (f_inner)) := by
  refine fn_okD (N := ["kind"]) (ps := ["kind"]) (k := 0) (den := d_inner) T.F_inner sc_inner fun cdv Ar outer s H E hr => ?_
  have nd := sc_inner.nd
  have hu := hr.units
  have hu1 : (Ar.deeper (envOfC "inner" (defScope s_inner) s.heap.objs.size (A 5) cdv)).units + 65 < cLine := by have := hr.un; omega
  have hu2 : (Ar.deeper (envOfC "inner" (defScope s_inner) s.heap.objs.size (A 5) cdv)).units + 1 < cLine := by omega
  have tk : Takes (cxOf (L2.CX P w) P w K mg base ["kind"] "inner" (defScope s_inner) (A 5) cdv Ar outer s H E) (fun cls d _ H => E cls d H) := takes_of rfl rfl rfl rfl
  have po : PassesOwn (model P w) (Ar.deeper (envOfC "inner" (defScope s_inner) s.heap.objs.size (A 5) cdv)) (cxOf (L2.CX P w) P w K mg base ["kind"] "inner" (defScope s_inner) (A 5) cdv Ar outer s H E).env (cxOf (L2.CX P w) P w K mg base ["kind"] "inner" (defScope s_inner) (A 5) cdv Ar outer s H E).xe := passes_of rfl
  exact (dss_cons (ds_if (dw_or (dt_cmp (op_eqD hu) ok_eq (do_ix (de_var (pv 0)).o di_int).v di_str.v (nomark _)) (dw_or1 (dt_cmp (op_eqD hu) ok_eq (do_ix (de_var (pv 0)).o di_int).v di_str.v (nomark _)))).t (dss_one (ds_ret (de_slice (de_var (pv 0)).o (dp_some di_int) dp_none))) dss_nil) (dss_one (ds_ret (di_tup da_nil).e)))
theorem ok_replace (T : Txt K mg A FD) : ∀ j : Nat, FnOk P w K mg base (L2.CX P w) (2 + j) (A 6) (FD 6) ["kind", "table"] (spD ⟨K, P, w, mg⟩ 2 (f_replace j))
  | 0 => by
    refine fn_okD (N := ["kind", "table", "part"]) (ps := ["kind", "table"]) (k := 1) (den := (sseq (fun _ => none) (fun _ => none))) T.F_replace sc_replace fun cdv Ar outer s H E hr => ?_
    exact (dss_cons ds_never (dss_one ds_never))
  | j + 1 => by
    have G_rec : FnOk P w K mg base (L2.CX P w) (2 + j) (A 6) (FD 6) ["kind", "table"] (spD ⟨K, P, w, mg⟩ 2 (f_replace j)) := ok_replace T j
    have G_inner : FnOk P w K mg base (L2.CX P w) 1 (A 5) (FD 5) ["kind"] (spD ⟨K, P, w, mg⟩ 1 (f_inner)) := ok_inner T
    obtain ⟨dl_inner_0, dv_inner_0, hb_inner_0, hd_inner_0, hdd_inner_0, hl_inner_0⟩ := db0 T.b_inner
    refine fn_okD (N := ["kind", "table", "part"]) (ps := ["kind", "table"]) (k := 2 + j) (den := d_replace (f_replace j)) T.F_replace sc_replace fun cdv Ar outer s H E hr => ?_
    have nd := sc_replace.nd
    have hu := hr.units
    have hu1 : (Ar.deeper (envOfC "replace" (defScope s_replace) s.heap.objs.size (A 6) cdv)).units + 65 < cLine := by have := hr.un; omega
    have hu2 : (Ar.deeper (envOfC "replace" (defScope s_replace) s.heap.objs.size (A 6) cdv)).units + 1 < cLine := by omega
    have tk : Takes (cxOf (L2.CX P w) P w K mg base ["kind", "table", "part"] "replace" (defScope s_replace) (A 6) cdv Ar outer s H E) (fun cls d _ H => E cls d H) := takes_of rfl rfl rfl rfl
    have po : PassesOwn (model P w) (Ar.deeper (envOfC "replace" (defScope s_replace) s.heap.objs.size (A 6) cdv)) (cxOf (L2.CX P w) P w K mg base ["kind", "table", "part"] "replace" (defScope s_replace) (A 6) cdv Ar outer s H E).env (cxOf (L2.CX P w) P w K mg base ["kind", "table", "part"] "replace" (defScope s_replace) (A 6) cdv Ar outer s H E).xe := passes_of rfl
    exact (dss_cons (ds_if (dt_cmp (op_eqD hu) ok_eq (do_ix (de_var (pv 0)).o di_int).v di_str.v (nomark _)) (dss_one (ds_ret (do_getX (de_var (pv 1)).o (da_cons (do_ix (de_var (pv 0)).o di_int).i (da_cons (de_var (pv 0)).i da_nil)) (fun h1 h2 => pe_xm PySem.F.slot_dict_get PySem.F.type_dict_get (mt_getX hu2) h1 h2)).i.e)) dss_nil) (dss_one (ds_ret (di_add (de_slice (de_var (pv 0)).o dp_none (dp_some di_int)).i (di_tupV (by rfl) T.n_tuple (by decide +kernel) (de_comp (own := [("part", 2)]) rfl nd (dpi_seq (de_call G_inner tk (hr.mono (by omega)) (by rfl) T.f_inner T.F_inner.kp T.b_inner (dar_cons (de_var (pv 0)) dar_nil)).i) (blkOk_by (N := ["kind", "table", "part"]) (sc := defScope s_replace) (by decide +kernel)) (by decide) (by decide) (fun _ _ _ _ _ => (dg_name (i := 2) nd rfl (.inl rfl))) (fun _ _ _ _ _ => dts_nil) (fun _ _ _ _ _ => (de_call G_rec takes0 (hr.mono (by omega)) (by rfl) T.f_replace T.F_replace.kp T.b_replace (dar_cons (de_var (pv 2)).i.e (dar_cons (de_var (pv 1)) dar_nil))).i.e)).o)).e)))
theorem ok__law_equal (T : Txt K mg A FD) : ∀ j : Nat, FnOk P w K mg base (L2.CX P w) (1 + j) (A 7) (FD 7) ["_law_actual", "_law_expected"] (spD ⟨K, P, w, mg⟩ 2 (f__law_equal j))
  | 0 => by
    refine fn_okD (N := ["_law_actual", "_law_expected", "_law_k"]) (ps := ["_law_actual", "_law_expected"]) (k := 0) (den := (sseq (fun _ => none) (sseq (fun _ => none) (sseq (fun _ => none) (sseq (fun _ => none) (sseq (fun _ => none) (sseq (fun _ => none) (sseq (fun _ => none) (sseq (fun _ => none) (fun _ => none)))))))))) T.F__law_equal sc__law_equal fun cdv Ar outer s H E hr => ?_
    exact (dss_cons ds_never (dss_cons ds_never (dss_cons ds_never (dss_cons ds_never (dss_cons ds_never (dss_cons ds_never (dss_cons ds_never (dss_cons ds_never (dss_one ds_never)))))))))
  | j + 1 => by
    have G_rec : FnOk P w K mg base (L2.CX P w) (1 + j) (A 7) (FD 7) ["_law_actual", "_law_expected"] (spD ⟨K, P, w, mg⟩ 2 (f__law_equal j)) := ok__law_equal T j
    refine fn_okD (N := ["_law_actual", "_law_expected", "_law_k"]) (ps := ["_law_actual", "_law_expected"]) (k := 1 + j) (den := d__law_equal (f__law_equal j)) T.F__law_equal sc__law_equal fun cdv Ar outer s H E hr => ?_
    have nd := sc__law_equal.nd
    have hu := hr.units
    have hu1 : (Ar.deeper (envOfC "_law_equal" (defScope s__law_equal) s.heap.objs.size (A 7) cdv)).units + 65 < cLine := by have := hr.un; omega
    have hu2 : (Ar.deeper (envOfC "_law_equal" (defScope s__law_equal) s.heap.objs.size (A 7) cdv)).units + 1 < cLine := by omega
    have tk : Takes (cxOf (L2.CX P w) P w K mg base ["_law_actual", "_law_expected", "_law_k"] "_law_equal" (defScope s__law_equal) (A 7) cdv Ar outer s H E) (fun cls d _ H => E cls d H) := takes_of rfl rfl rfl rfl
    have po : PassesOwn (model P w) (Ar.deeper (envOfC "_law_equal" (defScope s__law_equal) s.heap.objs.size (A 7) cdv)) (cxOf (L2.CX P w) P w K mg base ["_law_actual", "_law_expected", "_law_k"] "_law_equal" (defScope s__law_equal) (A 7) cdv Ar outer s H E).env (cxOf (L2.CX P w) P w K mg base ["_law_actual", "_law_expected", "_law_k"] "_law_equal" (defScope s__law_equal) (A 7) cdv Ar outer s H E).xe := passes_of rfl
    exact (dss_cons (ds_if (dt_isN (de_var (pv 1)).v) (dss_one (ds_ret (di_isN (de_var (pv 0)).v).e)) dss_nil) (dss_cons (ds_if (dt_tru (di_callBV call_isi ok_isi (by rfl) T.n_isinstance (by decide +kernel) (dv_cons (de_var (pv 1)).v (dv_cons (di_ty (by rfl) T.n_bool (by decide +kernel)).v dv_nil))).v) (dss_one (ds_ret (di_and (di_callBV call_isi ok_isi (by rfl) T.n_isinstance (by decide +kernel) (dv_cons (de_var (pv 0)).v (dv_cons (di_ty (by rfl) T.n_bool (by decide +kernel)).v dv_nil))) (di_one (di_cmp (op_eqD hu) ok_eq (de_var (pv 0)).v (de_var (pv 1)).v (nomark _)))).e)) dss_nil) (dss_cons (ds_if (dt_tru (di_callBV call_isi ok_isi (by rfl) T.n_isinstance (by decide +kernel) (dv_cons (de_var (pv 1)).v (dv_cons (di_ty (by rfl) T.n_int (by decide +kernel)).v dv_nil))).v) (dss_one (ds_ret (di_and (di_callBV call_isi ok_isi (by rfl) T.n_isinstance (by decide +kernel) (dv_cons (de_var (pv 0)).v (dv_cons (di_ty (by rfl) T.n_int (by decide +kernel)).v dv_nil))) (di_and (di_not (di_callBV call_isi ok_isi (by rfl) T.n_isinstance (by decide +kernel) (dv_cons (de_var (pv 0)).v (dv_cons (di_ty (by rfl) T.n_bool (by decide +kernel)).v dv_nil)))) (di_one (di_cmp (op_eqD hu) ok_eq (de_var (pv 0)).v (de_var (pv 1)).v (nomark _))))).e)) dss_nil) (dss_cons (ds_if (dt_tru (di_callBV call_isi ok_isi (by rfl) T.n_isinstance (by decide +kernel) (dv_cons (de_var (pv 1)).v (dv_cons (di_ty (by rfl) T.n_str (by decide +kernel)).v dv_nil))).v) (dss_one (ds_ret (di_and (di_callBV call_isi ok_isi (by rfl) T.n_isinstance (by decide +kernel) (dv_cons (de_var (pv 0)).v (dv_cons (di_ty (by rfl) T.n_str (by decide +kernel)).v dv_nil))) (di_one (di_cmp (op_eqD hu) ok_eq (de_var (pv 0)).v (de_var (pv 1)).v (nomark _)))).e)) dss_nil) (dss_cons (ds_if (dw_and (dt_tru (di_callBV call_isi ok_isi (by rfl) T.n_isinstance (by decide +kernel) (dv_cons (de_var (pv 1)).v (dv_cons (di_ty (by rfl) T.n_tuple (by decide +kernel)).v dv_nil))).v) (dw_and1 (dt_not (dt_tru (di_callBV call_isi ok_isi (by rfl) T.n_isinstance (by decide +kernel) (dv_cons (de_var (pv 0)).v (dv_cons (di_ty (by rfl) T.n_tuple (by decide +kernel)).v dv_nil))).v)))).t (dss_one (ds_ret di_bl.e)) dss_nil) (dss_cons (ds_if (dw_and (dt_tru (di_callBV call_isi ok_isi (by rfl) T.n_isinstance (by decide +kernel) (dv_cons (de_var (pv 1)).v (dv_cons (di_ty (by rfl) T.n_list (by decide +kernel)).v dv_nil))).v) (dw_and1 (dt_not (dt_tru (di_callBV call_isi ok_isi (by rfl) T.n_isinstance (by decide +kernel) (dv_cons (de_var (pv 0)).v (dv_cons (di_ty (by rfl) T.n_list (by decide +kernel)).v dv_nil))).v)))).t (dss_one (ds_ret di_bl.e)) dss_nil) (dss_cons (ds_if (dt_cmp (op_neD hu) ok_ne (di_callBV call_len ok_len (by rfl) T.n_len (by decide +kernel) (dv_cons (de_var (pv 0)).v dv_nil)).v (di_callBV call_len ok_len (by rfl) T.n_len (by decide +kernel) (dv_cons (de_var (pv 1)).v dv_nil)).v (nomark _)) (dss_one (ds_ret di_bl.e)) dss_nil) (dss_cons (ds_forP po rfl (dpi_range1 (by rfl) T.n_range (da_cons (di_callBV call_len ok_len (by rfl) T.n_len (by decide +kernel) (dv_cons (de_var (pv 1)).v dv_nil)) da_nil)) (dg_name (i := 2) nd rfl (.inl rfl)) (dss_one (ds_if (dt_not (dt_tru (de_call G_rec tk (hr.mono (by omega)) (by rfl) T.f__law_equal T.F__law_equal.kp T.b__law_equal (dar_cons (do_ix (de_var (pv 0)).o (de_var (pv 2)).i).i.e (dar_cons (do_ix (de_var (pv 1)).o (de_var (pv 2)).i).i.e dar_nil))).v)) (dss_one (ds_ret di_bl.e)) dss_nil))) (dss_one (ds_ret di_bl.e))))))))))
theorem ok_is_instance (T : Txt K mg A FD) : FnOk P w K mg base (L2.CX P w) 2 (A 8) (FD 8) ["kind", "general"] (spD ⟨K, P, w, mg⟩ 2 (f_is_instance)) := by
  have G_inner : FnOk P w K mg base (L2.CX P w) 1 (A 5) (FD 5) ["kind"] (spD ⟨K, P, w, mg⟩ 1 (f_inner)) := ok_inner T
  obtain ⟨dl_inner_0, dv_inner_0, hb_inner_0, hd_inner_0, hdd_inner_0, hl_inner_0⟩ := db0 T.b_inner
  refine fn_okD (N := ["kind", "general", "table", "pairs", "mine", "other"]) (ps := ["kind", "general"]) (k := 1) (den := d_is_instance) T.F_is_instance sc_is_instance fun cdv Ar outer s H E hr => ?_
  have nd := sc_is_instance.nd
  have hu := hr.units
  have hu1 : (Ar.deeper (envOfC "is_instance" (defScope s_is_instance) s.heap.objs.size (A 8) cdv)).units + 65 < cLine := by have := hr.un; omega
  have hu2 : (Ar.deeper (envOfC "is_instance" (defScope s_is_instance) s.heap.objs.size (A 8) cdv)).units + 1 < cLine := by omega
  have tk : Takes (cxOf (L2.CX P w) P w K mg base ["kind", "general", "table", "pairs", "mine", "other"] "is_instance" (defScope s_is_instance) (A 8) cdv Ar outer s H E) (fun cls d _ H => E cls d H) := takes_of rfl rfl rfl rfl
  have po : PassesOwn (model P w) (Ar.deeper (envOfC "is_instance" (defScope s_is_instance) s.heap.objs.size (A 8) cdv)) (cxOf (L2.CX P w) P w K mg base ["kind", "general", "table", "pairs", "mine", "other"] "is_instance" (defScope s_is_instance) (A 8) cdv Ar outer s H E).env (cxOf (L2.CX P w) P w K mg base ["kind", "general", "table", "pairs", "mine", "other"] "is_instance" (defScope s_is_instance) (A 8) cdv Ar outer s H E).xe := passes_of rfl
  exact (dss_cons (ds_set (i := 2) nd rfl (.inl rfl) de_dict0) (dss_cons (ds_set (i := 3) nd rfl (.inl rfl) (de_lst (da_cons (di_tup (da_cons (de_var (pv 0)).i (da_cons (de_var (pv 1)).i da_nil))) da_nil))) (dss_cons (ds_while 1000000 po (dt_cmp op_gt ok_gt (di_callBV call_len ok_len (by rfl) T.n_len (by decide +kernel) (dv_cons (de_var (pv 3)).v dv_nil)).v di_int.v (nomark _)) (dss_cons (ds_asg (de_pop (i := 3) (pe_bm0 PySem.F.plainAttrs_list PySem.F.slot_list_pop PySem.F.type_list_pop mt_pop (pv 3))).i (dg_tup rfl (dgs_cons (dg_name (i := 4) nd rfl (.inl rfl)) (dgs_cons (dg_name (i := 5) nd rfl (.inl rfl)) dgs_nil)))) (dss_one (ds_if (dt_cmp (op_eqD hu) ok_eq (do_ix (de_var (pv 5)).o di_int).v di_str.v (nomark _)) (dss_cons (ds_if (dt_cmp (op_neD hu) ok_ne (do_getX (de_var (pv 2)).o (da_cons (do_ix (de_var (pv 5)).o di_int).i (da_cons (de_var (pv 4)).i da_nil)) (fun h1 h2 => pe_xm PySem.F.slot_dict_get PySem.F.type_dict_get (mt_getX hu2) h1 h2)).v (de_var (pv 4)).v (nomark _)) (dss_one (ds_ret di_bl.e)) dss_nil) (dss_one (ds_stP hu1 (de_var (pv 4)) (dpl_var (i := 2) (pv 2)) (do_ix (de_var (pv 5)).o di_int).i (fun h1 h2 h3 => ps_asg h1 (pg_sub h2 h3 (set_anyX hu1)))))) (dss_one (ds_if (dt_cmp (op_neD hu) ok_ne (do_ix (de_var (pv 4)).o di_int).v (do_ix (de_var (pv 5)).o di_int).v (nomark _)) (dss_one (ds_ret di_bl.e)) (dss_one (ds_ext (i := 3) (pv 3) (de_zip rfl (by rfl) T.n_list (by rfl) T.n_zip (da_cons (de_call G_inner tk (hr.mono (by decide)) (by rfl) T.f_inner T.F_inner.kp T.b_inner (dar_cons (de_var (pv 4)).i.e dar_nil)).i (da_cons (de_call G_inner tk (hr.mono (by decide)) (by rfl) T.f_inner T.F_inner.kp T.b_inner (dar_cons (de_var (pv 5)).i.e dar_nil)).i da_nil))).i (fun h => pe_bm PySem.F.plainAttrs_list PySem.F.slot_list_extend PySem.F.type_list_extend mt_extend (pv 3) h))))))))) (dss_one (ds_ret di_bl.e)))))
theorem ok__law_inner (T : Txt K mg A FD) : FnOk P w K mg base (L2.CX P w) 1 (A 9) (FD 9) ["_law_kind_here"] (spD ⟨K, P, w, mg⟩ 1 (f__law_inner)) := by
  refine fn_okD (N := ["_law_kind_here", "_law_item"]) (ps := ["_law_kind_here"]) (k := 0) (den := d__law_inner) T.F__law_inner sc__law_inner fun cdv Ar outer s H E hr => ?_
  have nd := sc__law_inner.nd
  have hu := hr.units
  have hu1 : (Ar.deeper (envOfC "_law_inner" (defScope s__law_inner) s.heap.objs.size (A 9) cdv)).units + 65 < cLine := by have := hr.un; omega
  have hu2 : (Ar.deeper (envOfC "_law_inner" (defScope s__law_inner) s.heap.objs.size (A 9) cdv)).units + 1 < cLine := by omega
  have tk : Takes (cxOf (L2.CX P w) P w K mg base ["_law_kind_here", "_law_item"] "_law_inner" (defScope s__law_inner) (A 9) cdv Ar outer s H E) (fun cls d _ H => E cls d H) := takes_of rfl rfl rfl rfl
  have po : PassesOwn (model P w) (Ar.deeper (envOfC "_law_inner" (defScope s__law_inner) s.heap.objs.size (A 9) cdv)) (cxOf (L2.CX P w) P w K mg base ["_law_kind_here", "_law_item"] "_law_inner" (defScope s__law_inner) (A 9) cdv Ar outer s H E).env (cxOf (L2.CX P w) P w K mg base ["_law_kind_here", "_law_item"] "_law_inner" (defScope s__law_inner) (A 9) cdv Ar outer s H E).xe := passes_of rfl
  exact (dss_one (ds_ret (de_comp (own := [("_law_item", 1)]) rfl nd (dpi_seq (de_slice (de_var (pv 0)).o (dp_some di_int) dp_none).i) (blkOk_by (N := ["_law_kind_here", "_law_item"]) (sc := defScope s__law_inner) (by decide +kernel)) (by decide) (by decide) (fun _ _ _ _ _ => (dg_name (i := 1) nd rfl (.inl rfl))) (fun _ _ _ _ _ => (dts_one (dt_tru (di_callBV call_isi ok_isi (by rfl) T.n_isinstance (by decide +kernel) (dv_cons (de_var (pv 1)).v (dv_cons (di_ty (by rfl) T.n_tuple (by decide +kernel)).v dv_nil))).v))) (fun _ _ _ _ _ => (de_var (pv 1)).i.e))))
theorem ok__law_changed (T : Txt K mg A FD) : ∀ j : Nat, FnOk P w K mg base (L2.CX P w) (2 + j) (A 10) (FD 10) ["_law_draws", "_law_kind_here", "_law_other"] (spD ⟨K, P, w, mg⟩ 3 (f__law_changed j))
  | 0 => by
    refine fn_okD (N := ["_law_draws", "_law_kind_here", "_law_other", "_law_inner_here", "_law_at"]) (ps := ["_law_draws", "_law_kind_here", "_law_other"]) (k := 1) (den := (sseq (fun _ => none) (sseq (fun _ => none) (sseq (fun _ => none) (sseq (fun _ => none) (fun _ => none)))))) T.F__law_changed sc__law_changed fun cdv Ar outer s H E hr => ?_
    exact (dss_cons ds_never (dss_cons ds_never (dss_cons ds_never (dss_cons ds_never (dss_one ds_never)))))
  | j + 1 => by
    have G_rec : FnOk P w K mg base (L2.CX P w) (2 + j) (A 10) (FD 10) ["_law_draws", "_law_kind_here", "_law_other"] (spD ⟨K, P, w, mg⟩ 3 (f__law_changed j)) := ok__law_changed T j
    have G__law_inner : FnOk P w K mg base (L2.CX P w) 1 (A 9) (FD 9) ["_law_kind_here"] (spD ⟨K, P, w, mg⟩ 1 (f__law_inner)) := ok__law_inner T
    have G__law_draw : FnOk P w K mg base (L2.CX P w) 1 (A 1) (FD 1) ["_law_draws", "_law_many"] (spD ⟨K, P, w, mg⟩ 2 (f__law_draw)) := ok__law_draw T
    obtain ⟨dl__law_draw_0, dv__law_draw_0, hb__law_draw_0, hd__law_draw_0, hdd__law_draw_0, hl__law_draw_0⟩ := db0 T.b__law_draw
    obtain ⟨dl__law_inner_0, dv__law_inner_0, hb__law_inner_0, hd__law_inner_0, hdd__law_inner_0, hl__law_inner_0⟩ := db0 T.b__law_inner
    refine fn_okD (N := ["_law_draws", "_law_kind_here", "_law_other", "_law_inner_here", "_law_at"]) (ps := ["_law_draws", "_law_kind_here", "_law_other"]) (k := 2 + j) (den := d__law_changed (f__law_changed j)) T.F__law_changed sc__law_changed fun cdv Ar outer s H E hr => ?_
    have nd := sc__law_changed.nd
    have hu := hr.units
    have hu1 : (Ar.deeper (envOfC "_law_changed" (defScope s__law_changed) s.heap.objs.size (A 10) cdv)).units + 65 < cLine := by have := hr.un; omega
    have hu2 : (Ar.deeper (envOfC "_law_changed" (defScope s__law_changed) s.heap.objs.size (A 10) cdv)).units + 1 < cLine := by omega
    have tk : Takes (cxOf (L2.CX P w) P w K mg base ["_law_draws", "_law_kind_here", "_law_other", "_law_inner_here", "_law_at"] "_law_changed" (defScope s__law_changed) (A 10) cdv Ar outer s H E) (fun cls d _ H => E cls d H) := takes_of rfl rfl rfl rfl
    have po : PassesOwn (model P w) (Ar.deeper (envOfC "_law_changed" (defScope s__law_changed) s.heap.objs.size (A 10) cdv)) (cxOf (L2.CX P w) P w K mg base ["_law_draws", "_law_kind_here", "_law_other", "_law_inner_here", "_law_at"] "_law_changed" (defScope s__law_changed) (A 10) cdv Ar outer s H E).env (cxOf (L2.CX P w) P w K mg base ["_law_draws", "_law_kind_here", "_law_other", "_law_inner_here", "_law_at"] "_law_changed" (defScope s__law_changed) (A 10) cdv Ar outer s H E).xe := passes_of rfl
    exact (dss_cons (ds_set (i := 3) nd rfl (.inl rfl) (de_call G__law_inner tk (hr.mono (by omega)) (by rfl) T.f__law_inner T.F__law_inner.kp T.b__law_inner (dar_cons (de_var (pv 1)) dar_nil))) (dss_cons (ds_if (dw_or (dt_cmp (op_eqD hu) ok_eq (di_callBV call_len ok_len (by rfl) T.n_len (by decide +kernel) (dv_cons (de_var (pv 3)).v dv_nil)).v di_int.v (nomark _)) (dw_or1 (dt_cmp (op_eqD hu) ok_eq (de_call G__law_draw tk (hr.mono (by omega)) (by rfl) T.f__law_draw T.F__law_draw.kp T.b__law_draw (dar_cons (de_var (pv 0)) (dar_cons di_int.e dar_nil))).v di_int.v (nomark _)))).t (dss_one (ds_ret (de_var (pv 2)))) dss_nil) (dss_cons (ds_set (i := 4) nd rfl (.inl rfl) (di_mod (di_callTV call_int1 ok_int (by rfl) T.n_int (by decide +kernel) (dv_cons (de_call G__law_draw tk (hr.mono (by omega)) (by rfl) T.f__law_draw T.F__law_draw.kp T.b__law_draw (dar_cons (de_var (pv 0)) (dar_cons di_int.e dar_nil))).v dv_nil)) (di_callBV call_len ok_len (by rfl) T.n_len (by decide +kernel) (dv_cons (de_var (pv 3)).v dv_nil))).e) (dss_cons (ds_stI (i := 3) (pv 3) (de_call G_rec tk (hr.mono (by omega)) (by rfl) T.f__law_changed T.F__law_changed.kp T.b__law_changed (dar_cons (de_var (pv 0)) (dar_cons (do_ix (de_var (pv 3)).o (de_var (pv 4)).i).i.e (dar_cons (de_var (pv 2)) dar_nil)))).i (de_var (pv 4)).i (fun h1 h2 => ps_asg h1 (pg_sub (pv 3) h2 set_list))) (dss_one (ds_ret (di_add (de_slice (de_var (pv 1)).o dp_none (dp_some di_int)).i (di_tupV (by rfl) T.n_tuple (by decide +kernel) (de_var (pv 3)).o)).e))))))
theorem ok_kind_size (T : Txt K mg A FD) : ∀ j : Nat, FnOk P w K mg base (L2.CX P w) (2 + j) (A 11) (FD 11) ["kind"] (spD ⟨K, P, w, mg⟩ 1 (f_kind_size j))
  | 0 => by
    refine fn_okD (N := ["kind", "part"]) (ps := ["kind"]) (k := 1) (den := (fun _ => none)) T.F_kind_size sc_kind_size fun cdv Ar outer s H E hr => ?_
    exact (dss_one ds_never)
  | j + 1 => by
    have G_rec : FnOk P w K mg base (L2.CX P w) (2 + j) (A 11) (FD 11) ["kind"] (spD ⟨K, P, w, mg⟩ 1 (f_kind_size j)) := ok_kind_size T j
    have G_inner : FnOk P w K mg base (L2.CX P w) 1 (A 5) (FD 5) ["kind"] (spD ⟨K, P, w, mg⟩ 1 (f_inner)) := ok_inner T
    obtain ⟨dl_inner_0, dv_inner_0, hb_inner_0, hd_inner_0, hdd_inner_0, hl_inner_0⟩ := db0 T.b_inner
    refine fn_okD (N := ["kind", "part"]) (ps := ["kind"]) (k := 2 + j) (den := d_kind_size (f_kind_size j)) T.F_kind_size sc_kind_size fun cdv Ar outer s H E hr => ?_
    have nd := sc_kind_size.nd
    have hu := hr.units
    have hu1 : (Ar.deeper (envOfC "kind_size" (defScope s_kind_size) s.heap.objs.size (A 11) cdv)).units + 65 < cLine := by have := hr.un; omega
    have hu2 : (Ar.deeper (envOfC "kind_size" (defScope s_kind_size) s.heap.objs.size (A 11) cdv)).units + 1 < cLine := by omega
    have tk : Takes (cxOf (L2.CX P w) P w K mg base ["kind", "part"] "kind_size" (defScope s_kind_size) (A 11) cdv Ar outer s H E) (fun cls d _ H => E cls d H) := takes_of rfl rfl rfl rfl
    have po : PassesOwn (model P w) (Ar.deeper (envOfC "kind_size" (defScope s_kind_size) s.heap.objs.size (A 11) cdv)) (cxOf (L2.CX P w) P w K mg base ["kind", "part"] "kind_size" (defScope s_kind_size) (A 11) cdv Ar outer s H E).env (cxOf (L2.CX P w) P w K mg base ["kind", "part"] "kind_size" (defScope s_kind_size) (A 11) cdv Ar outer s H E).xe := passes_of rfl
    exact (dss_one (ds_ret (di_add di_int (di_callBV (cr_sum rfl) ok_sum (by rfl) T.n_sum (by decide +kernel) (dv_cons (de_comp (own := [("part", 1)]) rfl nd (dpi_seq (de_call G_inner tk (hr.mono (by omega)) (by rfl) T.f_inner T.F_inner.kp T.b_inner (dar_cons (de_var (pv 0)) dar_nil)).i) (blkOk_by (N := ["kind", "part"]) (sc := defScope s_kind_size) (by decide +kernel)) (by decide) (by decide) (fun _ _ _ _ _ => (dg_name (i := 1) nd rfl (.inl rfl))) (fun _ _ _ _ _ => dts_nil) (fun _ _ _ _ _ => (de_call G_rec takes0 (hr.mono (by omega)) (by rfl) T.f_kind_size T.F_kind_size.kp T.b_kind_size (dar_cons (de_var (pv 1)).i.e dar_nil)).i.e)).v dv_nil))).e))
theorem ok__law_size (T : Txt K mg A FD) : ∀ j : Nat, FnOk P w K mg base (L2.CX P w) (2 + j) (A 12) (FD 12) ["_law_kind_here"] (spD ⟨K, P, w, mg⟩ 1 (f__law_size j))
  | 0 => by
    refine fn_okD (N := ["_law_kind_here", "_law_part"]) (ps := ["_law_kind_here"]) (k := 1) (den := (fun _ => none)) T.F__law_size sc__law_size fun cdv Ar outer s H E hr => ?_
    exact (dss_one ds_never)
  | j + 1 => by
    have G_rec : FnOk P w K mg base (L2.CX P w) (2 + j) (A 12) (FD 12) ["_law_kind_here"] (spD ⟨K, P, w, mg⟩ 1 (f__law_size j)) := ok__law_size T j
    have G__law_inner : FnOk P w K mg base (L2.CX P w) 1 (A 9) (FD 9) ["_law_kind_here"] (spD ⟨K, P, w, mg⟩ 1 (f__law_inner)) := ok__law_inner T
    obtain ⟨dl__law_inner_0, dv__law_inner_0, hb__law_inner_0, hd__law_inner_0, hdd__law_inner_0, hl__law_inner_0⟩ := db0 T.b__law_inner
    refine fn_okD (N := ["_law_kind_here", "_law_part"]) (ps := ["_law_kind_here"]) (k := 2 + j) (den := d__law_size (f__law_size j)) T.F__law_size sc__law_size fun cdv Ar outer s H E hr => ?_
    have nd := sc__law_size.nd
    have hu := hr.units
    have hu1 : (Ar.deeper (envOfC "_law_size" (defScope s__law_size) s.heap.objs.size (A 12) cdv)).units + 65 < cLine := by have := hr.un; omega
    have hu2 : (Ar.deeper (envOfC "_law_size" (defScope s__law_size) s.heap.objs.size (A 12) cdv)).units + 1 < cLine := by omega
    have tk : Takes (cxOf (L2.CX P w) P w K mg base ["_law_kind_here", "_law_part"] "_law_size" (defScope s__law_size) (A 12) cdv Ar outer s H E) (fun cls d _ H => E cls d H) := takes_of rfl rfl rfl rfl
    have po : PassesOwn (model P w) (Ar.deeper (envOfC "_law_size" (defScope s__law_size) s.heap.objs.size (A 12) cdv)) (cxOf (L2.CX P w) P w K mg base ["_law_kind_here", "_law_part"] "_law_size" (defScope s__law_size) (A 12) cdv Ar outer s H E).env (cxOf (L2.CX P w) P w K mg base ["_law_kind_here", "_law_part"] "_law_size" (defScope s__law_size) (A 12) cdv Ar outer s H E).xe := passes_of rfl
    exact (dss_one (ds_ret (di_add di_int (di_callBV (cr_sum rfl) ok_sum (by rfl) T.n_sum (by decide +kernel) (dv_cons (de_comp (own := [("_law_part", 1)]) rfl nd (dpi_seq (de_call G__law_inner tk (hr.mono (by omega)) (by rfl) T.f__law_inner T.F__law_inner.kp T.b__law_inner (dar_cons (de_var (pv 0)) dar_nil)).i) (blkOk_by (N := ["_law_kind_here", "_law_part"]) (sc := defScope s__law_size) (by decide +kernel)) (by decide) (by decide) (fun _ _ _ _ _ => (dg_name (i := 1) nd rfl (.inl rfl))) (fun _ _ _ _ _ => dts_nil) (fun _ _ _ _ _ => (de_call G_rec takes0 (hr.mono (by omega)) (by rfl) T.f__law_size T.F__law_size.kp T.b__law_size (dar_cons (de_var (pv 1)).i.e dar_nil)).i.e)).v dv_nil))).e))
theorem ok_format_kind (T : Txt K mg A FD) : ∀ j : Nat, FnOk P w K mg base (L2.CX P w) (2 + j) (A 13) (FD 13) ["kind"] (spD ⟨K, P, w, mg⟩ 1 (f_format_kind j))
  | 0 => by
    refine fn_okD (N := ["kind", "texts", "part"]) (ps := ["kind"]) (k := 1) (den := (sseq (fun _ => none) (sseq (fun _ => none) (sseq (fun _ => none) (sseq (fun _ => none) (fun _ => none)))))) T.F_format_kind sc_format_kind fun cdv Ar outer s H E hr => ?_
    exact (dss_cons ds_never (dss_cons ds_never (dss_cons ds_never (dss_cons ds_never (dss_one ds_never)))))
  | j + 1 => by
    have G_rec : FnOk P w K mg base (L2.CX P w) (2 + j) (A 13) (FD 13) ["kind"] (spD ⟨K, P, w, mg⟩ 1 (f_format_kind j)) := ok_format_kind T j
    have G_inner : FnOk P w K mg base (L2.CX P w) 1 (A 5) (FD 5) ["kind"] (spD ⟨K, P, w, mg⟩ 1 (f_inner)) := ok_inner T
    obtain ⟨dl_inner_0, dv_inner_0, hb_inner_0, hd_inner_0, hdd_inner_0, hl_inner_0⟩ := db0 T.b_inner
    refine fn_okD (N := ["kind", "texts", "part"]) (ps := ["kind"]) (k := 2 + j) (den := d_format_kind (f_format_kind j)) T.F_format_kind sc_format_kind fun cdv Ar outer s H E hr => ?_
    have nd := sc_format_kind.nd
    have hu := hr.units
    have hu1 : (Ar.deeper (envOfC "format_kind" (defScope s_format_kind) s.heap.objs.size (A 13) cdv)).units + 65 < cLine := by have := hr.un; omega
    have hu2 : (Ar.deeper (envOfC "format_kind" (defScope s_format_kind) s.heap.objs.size (A 13) cdv)).units + 1 < cLine := by omega
    have tk : Takes (cxOf (L2.CX P w) P w K mg base ["kind", "texts", "part"] "format_kind" (defScope s_format_kind) (A 13) cdv Ar outer s H E) (fun cls d _ H => E cls d H) := takes_of rfl rfl rfl rfl
    have po : PassesOwn (model P w) (Ar.deeper (envOfC "format_kind" (defScope s_format_kind) s.heap.objs.size (A 13) cdv)) (cxOf (L2.CX P w) P w K mg base ["kind", "texts", "part"] "format_kind" (defScope s_format_kind) (A 13) cdv Ar outer s H E).env (cxOf (L2.CX P w) P w K mg base ["kind", "texts", "part"] "format_kind" (defScope s_format_kind) (A 13) cdv Ar outer s H E).xe := passes_of rfl
    exact (dss_cons (ds_if (dt_cmp (op_eqD hu) ok_eq (do_ix (de_var (pv 0)).o di_int).v di_str.v (nomark _)) (dss_one (ds_ret (di_add di_str (di_callTV call_str_int ok_str (by rfl) T.n_str (by decide +kernel) (dv_cons (do_ix (de_var (pv 0)).o di_int).v dv_nil))).e)) dss_nil) (dss_cons (ds_set (i := 1) nd rfl (.inl rfl) (di_join di_str (de_comp (own := [("part", 2)]) rfl nd (dpi_seq (de_call G_inner tk (hr.mono (by omega)) (by rfl) T.f_inner T.F_inner.kp T.b_inner (dar_cons (de_var (pv 0)) dar_nil)).i) (blkOk_by (N := ["kind", "texts", "part"]) (sc := defScope s_format_kind) (by decide +kernel)) (by decide) (by decide) (fun _ _ _ _ _ => (dg_name (i := 2) nd rfl (.inl rfl))) (fun _ _ _ _ _ => dts_nil) (fun _ _ _ _ _ => (de_call G_rec takes0 (hr.mono (by omega)) (by rfl) T.f_format_kind T.F_format_kind.kp T.b_format_kind (dar_cons (de_var (pv 2)).i.e dar_nil)).i.e)).v (fun h1 h2 => pe_bm PySem.F.plainAttrs_str PySem.F.slot_str_join PySem.F.type_str_join mt_join h1 h2)).e) (dss_cons (ds_if (dt_cmp (op_eqD hu) ok_eq (do_ix (de_var (pv 0)).o di_int).v di_str.v (nomark _)) (dss_one (ds_ret (di_add (di_add di_str (de_var (pv 1)).i) di_str).e)) dss_nil) (dss_cons (ds_if (dt_cmp (op_eqD hu) ok_eq (do_ix (de_var (pv 0)).o di_int).v di_str.v (nomark _)) (dss_one (ds_ret (di_add (di_add di_str (de_var (pv 1)).i) di_str).e)) dss_nil) (dss_one (ds_ret (do_ix (de_var (pv 0)).o di_int).i.e))))))
theorem ok__law_format (T : Txt K mg A FD) : ∀ j : Nat, FnOk P w K mg base (L2.CX P w) (1 + j) (A 14) (FD 14) ["_law_kind_here"] (spD ⟨K, P, w, mg⟩ 1 (f__law_format j))
  | 0 => by
    refine fn_okD (N := ["_law_kind_here"]) (ps := ["_law_kind_here"]) (k := 0) (den := (sseq (fun _ => none) (sseq (fun _ => none) (sseq (fun _ => none) (fun _ => none))))) T.F__law_format sc__law_format fun cdv Ar outer s H E hr => ?_
    exact (dss_cons ds_never (dss_cons ds_never (dss_cons ds_never (dss_one ds_never))))
  | j + 1 => by
    have G_rec : FnOk P w K mg base (L2.CX P w) (1 + j) (A 14) (FD 14) ["_law_kind_here"] (spD ⟨K, P, w, mg⟩ 1 (f__law_format j)) := ok__law_format T j
    refine fn_okD (N := ["_law_kind_here"]) (ps := ["_law_kind_here"]) (k := 1 + j) (den := d__law_format (f__law_format j)) T.F__law_format sc__law_format fun cdv Ar outer s H E hr => ?_
    have nd := sc__law_format.nd
    have hu := hr.units
    have hu1 : (Ar.deeper (envOfC "_law_format" (defScope s__law_format) s.heap.objs.size (A 14) cdv)).units + 65 < cLine := by have := hr.un; omega
    have hu2 : (Ar.deeper (envOfC "_law_format" (defScope s__law_format) s.heap.objs.size (A 14) cdv)).units + 1 < cLine := by omega
    have tk : Takes (cxOf (L2.CX P w) P w K mg base ["_law_kind_here"] "_law_format" (defScope s__law_format) (A 14) cdv Ar outer s H E) (fun cls d _ H => E cls d H) := takes_of rfl rfl rfl rfl
    have po : PassesOwn (model P w) (Ar.deeper (envOfC "_law_format" (defScope s__law_format) s.heap.objs.size (A 14) cdv)) (cxOf (L2.CX P w) P w K mg base ["_law_kind_here"] "_law_format" (defScope s__law_format) (A 14) cdv Ar outer s H E).env (cxOf (L2.CX P w) P w K mg base ["_law_kind_here"] "_law_format" (defScope s__law_format) (A 14) cdv Ar outer s H E).xe := passes_of rfl
    exact (dss_cons (ds_if (dt_cmp (op_eqD hu) ok_eq (do_ix (de_var (pv 0)).o di_int).v di_str.v (nomark _)) (dss_one (ds_ret (di_add di_str (di_callTV call_str_int ok_str (by rfl) T.n_str (by decide +kernel) (dv_cons (do_ix (de_var (pv 0)).o di_int).v dv_nil))).e)) dss_nil) (dss_cons (ds_if (dt_cmp (op_eqD hu) ok_eq (do_ix (de_var (pv 0)).o di_int).v di_str.v (nomark _)) (dss_one (ds_ret (di_add (di_add di_str (de_call G_rec tk (hr.mono (by omega)) (by rfl) T.f__law_format T.F__law_format.kp T.b__law_format (dar_cons (do_ix (de_var (pv 0)).o di_int).i.e dar_nil)).i) di_str).e)) dss_nil) (dss_cons (ds_if (dt_cmp (op_eqD hu) ok_eq (do_ix (de_var (pv 0)).o di_int).v di_str.v (nomark _)) (dss_one (ds_ret (di_add (di_add (di_add (di_add di_str (de_call G_rec tk (hr.mono (by omega)) (by rfl) T.f__law_format T.F__law_format.kp T.b__law_format (dar_cons (do_ix (de_var (pv 0)).o di_int).i.e dar_nil)).i) di_str) (de_call G_rec tk (hr.mono (by omega)) (by rfl) T.f__law_format T.F__law_format.kp T.b__law_format (dar_cons (do_ix (de_var (pv 0)).o di_int).i.e dar_nil)).i) di_str).e)) dss_nil) (dss_one (ds_ret (do_ix (de_var (pv 0)).o di_int).i.e)))))
theorem ok_unknowns (T : Txt K mg A FD) : ∀ j : Nat, FnOk P w K mg base (L2.CX P w) (2 + j) (A 15) (FD 15) ["kind"] (spD ⟨K, P, w, mg⟩ 1 (f_unknowns j))
  | 0 => by
    refine fn_okD (N := ["kind", "found", "part", "number"]) (ps := ["kind"]) (k := 1) (den := (sseq (fun _ => none) (sseq (fun _ => none) (sseq (fun _ => none) (fun _ => none))))) T.F_unknowns sc_unknowns fun cdv Ar outer s H E hr => ?_
    exact (dss_cons ds_never (dss_cons ds_never (dss_cons ds_never (dss_one ds_never))))
  | j + 1 => by
    have G_rec : FnOk P w K mg base (L2.CX P w) (2 + j) (A 15) (FD 15) ["kind"] (spD ⟨K, P, w, mg⟩ 1 (f_unknowns j)) := ok_unknowns T j
    have G_inner : FnOk P w K mg base (L2.CX P w) 1 (A 5) (FD 5) ["kind"] (spD ⟨K, P, w, mg⟩ 1 (f_inner)) := ok_inner T
    obtain ⟨dl_inner_0, dv_inner_0, hb_inner_0, hd_inner_0, hdd_inner_0, hl_inner_0⟩ := db0 T.b_inner
    refine fn_okD (N := ["kind", "found", "part", "number"]) (ps := ["kind"]) (k := 2 + j) (den := d_unknowns (f_unknowns j)) T.F_unknowns sc_unknowns fun cdv Ar outer s H E hr => ?_
    have nd := sc_unknowns.nd
    have hu := hr.units
    have hu1 : (Ar.deeper (envOfC "unknowns" (defScope s_unknowns) s.heap.objs.size (A 15) cdv)).units + 65 < cLine := by have := hr.un; omega
    have hu2 : (Ar.deeper (envOfC "unknowns" (defScope s_unknowns) s.heap.objs.size (A 15) cdv)).units + 1 < cLine := by omega
    have tk : Takes (cxOf (L2.CX P w) P w K mg base ["kind", "found", "part", "number"] "unknowns" (defScope s_unknowns) (A 15) cdv Ar outer s H E) (fun cls d _ H => E cls d H) := takes_of rfl rfl rfl rfl
    have po : PassesOwn (model P w) (Ar.deeper (envOfC "unknowns" (defScope s_unknowns) s.heap.objs.size (A 15) cdv)) (cxOf (L2.CX P w) P w K mg base ["kind", "found", "part", "number"] "unknowns" (defScope s_unknowns) (A 15) cdv Ar outer s H E).env (cxOf (L2.CX P w) P w K mg base ["kind", "found", "part", "number"] "unknowns" (defScope s_unknowns) (A 15) cdv Ar outer s H E).xe := passes_of rfl
    exact (dss_cons (ds_if (dt_cmp (op_eqD hu) ok_eq (do_ix (de_var (pv 0)).o di_int).v di_str.v (nomark _)) (dss_one (ds_ret (de_lst (da_cons (do_ix (de_var (pv 0)).o di_int).i da_nil)))) dss_nil) (dss_cons (ds_set (i := 1) nd rfl (.inl rfl) (de_lst da_nil)) (dss_cons (ds_forP po rfl (dpi_seq (de_call G_inner tk (hr.mono (by omega)) (by rfl) T.f_inner T.F_inner.kp T.b_inner (dar_cons (de_var (pv 0)) dar_nil)).i) (dg_name (i := 2) nd rfl (.inl rfl)) (dss_one (ds_forP po rfl (dpi_seq (de_call G_rec tk (hr.mono (by omega)) (by rfl) T.f_unknowns T.F_unknowns.kp T.b_unknowns (dar_cons (de_var (pv 2)).i.e dar_nil)).i) (dg_name (i := 3) nd rfl (.inl rfl)) (dss_one (ds_if (dt_cmp (op_notin3 hu1) ok_notin (de_var (pv 3)).v (de_var (pv 1)).v (by rfl)) (dss_one (ds_app (i := 1) (pv 1) (de_var (pv 3)).i.e (fun h => pe_bm PySem.F.plainAttrs_list PySem.F.slot_list_append PySem.F.type_list_append mt_append (pv 1) h))) dss_nil))))) (dss_one (ds_ret (de_var (pv 1)))))))
theorem ok__law_unknowns (T : Txt K mg A FD) : ∀ j : Nat, FnOk P w K mg base (L2.CX P w) (2 + j) (A 16) (FD 16) ["_law_kind_here"] (spD ⟨K, P, w, mg⟩ 1 (f__law_unknowns j))
  | 0 => by
    refine fn_okD (N := ["_law_kind_here", "_law_found", "_law_part", "_law_number"]) (ps := ["_law_kind_here"]) (k := 1) (den := (sseq (fun _ => none) (sseq (fun _ => none) (sseq (fun _ => none) (fun _ => none))))) T.F__law_unknowns sc__law_unknowns fun cdv Ar outer s H E hr => ?_
    exact (dss_cons ds_never (dss_cons ds_never (dss_cons ds_never (dss_one ds_never))))
  | j + 1 => by
    have G_rec : FnOk P w K mg base (L2.CX P w) (2 + j) (A 16) (FD 16) ["_law_kind_here"] (spD ⟨K, P, w, mg⟩ 1 (f__law_unknowns j)) := ok__law_unknowns T j
    have G__law_inner : FnOk P w K mg base (L2.CX P w) 1 (A 9) (FD 9) ["_law_kind_here"] (spD ⟨K, P, w, mg⟩ 1 (f__law_inner)) := ok__law_inner T
    obtain ⟨dl__law_inner_0, dv__law_inner_0, hb__law_inner_0, hd__law_inner_0, hdd__law_inner_0, hl__law_inner_0⟩ := db0 T.b__law_inner
    refine fn_okD (N := ["_law_kind_here", "_law_found", "_law_part", "_law_number"]) (ps := ["_law_kind_here"]) (k := 2 + j) (den := d__law_unknowns (f__law_unknowns j)) T.F__law_unknowns sc__law_unknowns fun cdv Ar outer s H E hr => ?_
    have nd := sc__law_unknowns.nd
    have hu := hr.units
    have hu1 : (Ar.deeper (envOfC "_law_unknowns" (defScope s__law_unknowns) s.heap.objs.size (A 16) cdv)).units + 65 < cLine := by have := hr.un; omega
    have hu2 : (Ar.deeper (envOfC "_law_unknowns" (defScope s__law_unknowns) s.heap.objs.size (A 16) cdv)).units + 1 < cLine := by omega
    have tk : Takes (cxOf (L2.CX P w) P w K mg base ["_law_kind_here", "_law_found", "_law_part", "_law_number"] "_law_unknowns" (defScope s__law_unknowns) (A 16) cdv Ar outer s H E) (fun cls d _ H => E cls d H) := takes_of rfl rfl rfl rfl
    have po : PassesOwn (model P w) (Ar.deeper (envOfC "_law_unknowns" (defScope s__law_unknowns) s.heap.objs.size (A 16) cdv)) (cxOf (L2.CX P w) P w K mg base ["_law_kind_here", "_law_found", "_law_part", "_law_number"] "_law_unknowns" (defScope s__law_unknowns) (A 16) cdv Ar outer s H E).env (cxOf (L2.CX P w) P w K mg base ["_law_kind_here", "_law_found", "_law_part", "_law_number"] "_law_unknowns" (defScope s__law_unknowns) (A 16) cdv Ar outer s H E).xe := passes_of rfl
    exact (dss_cons (ds_if (dt_cmp (op_eqD hu) ok_eq (do_ix (de_var (pv 0)).o di_int).v di_str.v (nomark _)) (dss_one (ds_ret (de_lst (da_cons (do_ix (de_var (pv 0)).o di_int).i da_nil)))) dss_nil) (dss_cons (ds_set (i := 1) nd rfl (.inr rfl) (de_lst da_nil).i.e) (dss_cons (ds_forP po rfl (dpi_seq (de_call G__law_inner tk (hr.mono (by omega)) (by rfl) T.f__law_inner T.F__law_inner.kp T.b__law_inner (dar_cons (de_var (pv 0)) dar_nil)).i) (dg_name (i := 2) nd rfl (.inl rfl)) (dss_one (ds_set (i := 1) nd rfl (.inr rfl) (de_cat (de_var (pv 1)).o (de_comp (own := [("_law_number", 3)]) rfl nd (dpi_seq (de_call G_rec tk (hr.mono (by omega)) (by rfl) T.f__law_unknowns T.F__law_unknowns.kp T.b__law_unknowns (dar_cons (de_var (pv 2)).i.e dar_nil)).i) (blkOk_by (N := ["_law_kind_here", "_law_found", "_law_part", "_law_number"]) (sc := defScope s__law_unknowns) (by decide +kernel)) (by decide) (by decide) (fun _ _ _ _ _ => (dg_name (i := 3) nd rfl (.inl rfl))) (fun _ _ _ _ _ => (dts_one (dt_cmp (op_notin3 hu1) ok_notin (de_var (pv 3)).v (de_var (pv 1)).v (by rfl)))) (fun _ _ _ _ _ => (de_var (pv 3)).i.e)).o (pe_op op_cat)).i.e))) (dss_one (ds_ret (de_var (pv 1)))))))
theorem ok__law_looks (T : Txt K mg A FD) : FnOk P w K mg base (L2.CX P w) 63 (A 17) (FD 17) ["_law_kind_here"] (spD ⟨K, P, w, mg⟩ 1 (f__law_looks)) := by
  have G__law_equal : FnOk P w K mg base (L2.CX P w) 61 (A 7) (FD 7) ["_law_actual", "_law_expected"] (spD ⟨K, P, w, mg⟩ 2 (f__law_equal 60)) := ok__law_equal T 60
  have G_kind_size : FnOk P w K mg base (L2.CX P w) 62 (A 11) (FD 11) ["kind"] (spD ⟨K, P, w, mg⟩ 1 (f_kind_size 60)) := ok_kind_size T 60
  have G__law_size : FnOk P w K mg base (L2.CX P w) 62 (A 12) (FD 12) ["_law_kind_here"] (spD ⟨K, P, w, mg⟩ 1 (f__law_size 60)) := ok__law_size T 60
  have G_format_kind : FnOk P w K mg base (L2.CX P w) 62 (A 13) (FD 13) ["kind"] (spD ⟨K, P, w, mg⟩ 1 (f_format_kind 60)) := ok_format_kind T 60
  have G__law_format : FnOk P w K mg base (L2.CX P w) 61 (A 14) (FD 14) ["_law_kind_here"] (spD ⟨K, P, w, mg⟩ 1 (f__law_format 60)) := ok__law_format T 60
  have G_unknowns : FnOk P w K mg base (L2.CX P w) 62 (A 15) (FD 15) ["kind"] (spD ⟨K, P, w, mg⟩ 1 (f_unknowns 60)) := ok_unknowns T 60
  have G__law_unknowns : FnOk P w K mg base (L2.CX P w) 62 (A 16) (FD 16) ["_law_kind_here"] (spD ⟨K, P, w, mg⟩ 1 (f__law_unknowns 60)) := ok__law_unknowns T 60
  obtain ⟨dl__law_equal_0, dv__law_equal_0, hb__law_equal_0, hd__law_equal_0, hdd__law_equal_0, hl__law_equal_0⟩ := db0 T.b__law_equal
  obtain ⟨dl__law_format_0, dv__law_format_0, hb__law_format_0, hd__law_format_0, hdd__law_format_0, hl__law_format_0⟩ := db0 T.b__law_format
  obtain ⟨dl__law_size_0, dv__law_size_0, hb__law_size_0, hd__law_size_0, hdd__law_size_0, hl__law_size_0⟩ := db0 T.b__law_size
  obtain ⟨dl__law_unknowns_0, dv__law_unknowns_0, hb__law_unknowns_0, hd__law_unknowns_0, hdd__law_unknowns_0, hl__law_unknowns_0⟩ := db0 T.b__law_unknowns
  obtain ⟨dl_format_kind_0, dv_format_kind_0, hb_format_kind_0, hd_format_kind_0, hdd_format_kind_0, hl_format_kind_0⟩ := db0 T.b_format_kind
  obtain ⟨dl_kind_size_0, dv_kind_size_0, hb_kind_size_0, hd_kind_size_0, hdd_kind_size_0, hl_kind_size_0⟩ := db0 T.b_kind_size
  obtain ⟨dl_unknowns_0, dv_unknowns_0, hb_unknowns_0, hd_unknowns_0, hdd_unknowns_0, hl_unknowns_0⟩ := db0 T.b_unknowns
  refine fn_okD (N := ["_law_kind_here", "_law_told"]) (ps := ["_law_kind_here"]) (k := 62) (den := d__law_looks) T.F__law_looks sc__law_looks fun cdv Ar outer s H E hr => ?_
  have nd := sc__law_looks.nd
  have hu := hr.units
  have hu1 : (Ar.deeper (envOfC "_law_looks" (defScope s__law_looks) s.heap.objs.size (A 17) cdv)).units + 65 < cLine := by have := hr.un; omega
  have hu2 : (Ar.deeper (envOfC "_law_looks" (defScope s__law_looks) s.heap.objs.size (A 17) cdv)).units + 1 < cLine := by omega
  have tk : Takes (cxOf (L2.CX P w) P w K mg base ["_law_kind_here", "_law_told"] "_law_looks" (defScope s__law_looks) (A 17) cdv Ar outer s H E) (fun cls d _ H => E cls d H) := takes_of rfl rfl rfl rfl
  have po : PassesOwn (model P w) (Ar.deeper (envOfC "_law_looks" (defScope s__law_looks) s.heap.objs.size (A 17) cdv)) (cxOf (L2.CX P w) P w K mg base ["_law_kind_here", "_law_told"] "_law_looks" (defScope s__law_looks) (A 17) cdv Ar outer s H E).env (cxOf (L2.CX P w) P w K mg base ["_law_kind_here", "_law_told"] "_law_looks" (defScope s__law_looks) (A 17) cdv Ar outer s H E).xe := passes_of rfl
  exact (dss_cons (ds_if (dw_or (dt_not (dt_tru (de_call G__law_equal tk (hr.mono (by decide)) (by rfl) T.f__law_equal T.F__law_equal.kp T.b__law_equal (dar_cons (de_call G_kind_size tk (hr.mono (by decide)) (by rfl) T.f_kind_size T.F_kind_size.kp T.b_kind_size (dar_cons (de_var (pv 0)) dar_nil)) (dar_cons (de_call G__law_size tk (hr.mono (by decide)) (by rfl) T.f__law_size T.F__law_size.kp T.b__law_size (dar_cons (de_var (pv 0)) dar_nil)) dar_nil))).v)) (dw_or1 (dt_not (dt_tru (de_call G__law_equal tk (hr.mono (by decide)) (by rfl) T.f__law_equal T.F__law_equal.kp T.b__law_equal (dar_cons (de_call G_format_kind tk (hr.mono (by decide)) (by rfl) T.f_format_kind T.F_format_kind.kp T.b_format_kind (dar_cons (de_var (pv 0)) dar_nil)) (dar_cons (de_call G__law_format tk (hr.mono (by decide)) (by rfl) T.f__law_format T.F__law_format.kp T.b__law_format (dar_cons (de_var (pv 0)) dar_nil)) dar_nil))).v)))).t (dss_one (ds_ret di_bl.e)) dss_nil) (dss_cons (ds_set (i := 1) nd rfl (.inl rfl) (de_call G_unknowns tk (hr.mono (by decide)) (by rfl) T.f_unknowns T.F_unknowns.kp T.b_unknowns (dar_cons (de_var (pv 0)) dar_nil))) (dss_cons (ds_if (dt_not (dt_tru (de_call G__law_equal tk (hr.mono (by decide)) (by rfl) T.f__law_equal T.F__law_equal.kp T.b__law_equal (dar_cons (de_var (pv 1)) (dar_cons (de_call G__law_unknowns tk (hr.mono (by decide)) (by rfl) T.f__law_unknowns T.F__law_unknowns.kp T.b__law_unknowns (dar_cons (de_var (pv 0)) dar_nil)) dar_nil))).v)) (dss_one (ds_ret di_bl.e)) dss_nil) (dss_cons (ds_app (i := 1) (pv 1) (di_neg di_int).e (fun h => pe_bm PySem.F.plainAttrs_list PySem.F.slot_list_append PySem.F.type_list_append mt_append (pv 1) h)) (dss_one (ds_ret (de_call G__law_equal tk (hr.mono (by decide)) (by rfl) T.f__law_equal T.F__law_equal.kp T.b__law_equal (dar_cons (de_call G_unknowns tk (hr.mono (by decide)) (by rfl) T.f_unknowns T.F_unknowns.kp T.b_unknowns (dar_cons (de_var (pv 0)) dar_nil)) (dar_cons (de_call G__law_unknowns tk (hr.mono (by decide)) (by rfl) T.f__law_unknowns T.F__law_unknowns.kp T.b__law_unknowns (dar_cons (de_var (pv 0)) dar_nil)) dar_nil)))))))))
theorem ok__law_match (T : Txt K mg A FD) : FnOk P w K mg base (L2.CX P w) 2 (A 18) (FD 18) ["_law_pairs"] (spD ⟨K, P, w, mg⟩ 1 (f__law_match)) := by
  have G__law_inner : FnOk P w K mg base (L2.CX P w) 1 (A 9) (FD 9) ["_law_kind_here"] (spD ⟨K, P, w, mg⟩ 1 (f__law_inner)) := ok__law_inner T
  obtain ⟨dl__law_inner_0, dv__law_inner_0, hb__law_inner_0, hd__law_inner_0, hdd__law_inner_0, hl__law_inner_0⟩ := db0 T.b__law_inner
  refine fn_okD (N := ["_law_pairs", "_law_table", "_law_turn", "_law_kind_here", "_law_general", "_law_number", "_law_worth", "_law_left", "_law_right", "_law_k"]) (ps := ["_law_pairs"]) (k := 1) (den := d__law_match) T.F__law_match sc__law_match fun cdv Ar outer s H E hr => ?_
  have nd := sc__law_match.nd
  have hu := hr.units
  have hu1 : (Ar.deeper (envOfC "_law_match" (defScope s__law_match) s.heap.objs.size (A 18) cdv)).units + 65 < cLine := by have := hr.un; omega
  have hu2 : (Ar.deeper (envOfC "_law_match" (defScope s__law_match) s.heap.objs.size (A 18) cdv)).units + 1 < cLine := by omega
  have tk : Takes (cxOf (L2.CX P w) P w K mg base ["_law_pairs", "_law_table", "_law_turn", "_law_kind_here", "_law_general", "_law_number", "_law_worth", "_law_left", "_law_right", "_law_k"] "_law_match" (defScope s__law_match) (A 18) cdv Ar outer s H E) (fun cls d _ H => E cls d H) := takes_of rfl rfl rfl rfl
  have po : PassesOwn (model P w) (Ar.deeper (envOfC "_law_match" (defScope s__law_match) s.heap.objs.size (A 18) cdv)) (cxOf (L2.CX P w) P w K mg base ["_law_pairs", "_law_table", "_law_turn", "_law_kind_here", "_law_general", "_law_number", "_law_worth", "_law_left", "_law_right", "_law_k"] "_law_match" (defScope s__law_match) (A 18) cdv Ar outer s H E).env (cxOf (L2.CX P w) P w K mg base ["_law_pairs", "_law_table", "_law_turn", "_law_kind_here", "_law_general", "_law_number", "_law_worth", "_law_left", "_law_right", "_law_k"] "_law_match" (defScope s__law_match) (A 18) cdv Ar outer s H E).xe := passes_of rfl
  exact (dss_cons (ds_set (i := 1) nd rfl (.inl rfl) (de_lst da_nil)) (dss_cons (ds_set (i := 0) nd rfl (.inl rfl) (de_listV (by rfl) T.n_list (by decide +kernel) (de_var (pv 0)).o)) (dss_cons (ds_forP po rfl (dpi_range1 (by rfl) T.n_range (da_cons di_int da_nil)) (dg_name (i := 2) nd rfl (.inl rfl)) (dss_cons (ds_if (dt_cmp (op_eqD hu) ok_eq (di_callBV call_len ok_len (by rfl) T.n_len (by decide +kernel) (dv_cons (de_var (pv 0)).v dv_nil)).v di_int.v (nomark _)) (dss_one (ds_ret di_bl.e)) dss_nil) (dss_cons (ds_asg (de_pop (i := 0) (pe_bm0 PySem.F.plainAttrs_list PySem.F.slot_list_pop PySem.F.type_list_pop mt_pop (pv 0))).i (dg_tup rfl (dgs_cons (dg_name (i := 3) nd rfl (.inl rfl)) (dgs_cons (dg_name (i := 4) nd rfl (.inl rfl)) dgs_nil)))) (dss_one (ds_if (dt_cmp (op_eqD hu) ok_eq (do_ix (de_var (pv 4)).o di_int).v di_str.v (nomark _)) (dss_cons (ds_for po rfl (de_var (pv 1)) (dg_tup rfl (dgs_cons (dg_name (i := 5) nd rfl (.inl rfl)) (dgs_cons (dg_name (i := 6) nd rfl (.inl rfl)) dgs_nil))) (dss_one (ds_if (dw_and (dt_cmp (op_eqD hu) ok_eq (de_var (pv 5)).v (do_ix (de_var (pv 4)).o di_int).v (nomark _)) (dw_and1 (dt_cmp (op_neD hu) ok_ne (de_var (pv 6)).v (de_var (pv 3)).v (nomark _)))).t (dss_one (ds_ret di_bl.e)) dss_nil))) (dss_one (ds_app (i := 1) (pv 1) (di_tup (da_cons (do_ix (de_var (pv 4)).o di_int).i (da_cons (de_var (pv 3)).i da_nil))).e (fun h => pe_bm PySem.F.plainAttrs_list PySem.F.slot_list_append PySem.F.type_list_append mt_append (pv 1) h)))) (dss_one (ds_if (dt_cmp (op_neD hu) ok_ne (do_ix (de_var (pv 3)).o di_int).v (do_ix (de_var (pv 4)).o di_int).v (nomark _)) (dss_one (ds_ret di_bl.e)) (dss_cons (ds_set (i := 7) nd rfl (.inr rfl) (de_call G__law_inner tk (hr.mono (by decide)) (by rfl) T.f__law_inner T.F__law_inner.kp T.b__law_inner (dar_cons (de_var (pv 3)).i.e dar_nil)).i.e) (dss_cons (ds_set (i := 8) nd rfl (.inr rfl) (de_call G__law_inner tk (hr.mono (by decide)) (by rfl) T.f__law_inner T.F__law_inner.kp T.b__law_inner (dar_cons (de_var (pv 4)).i.e dar_nil)).i.e) (dss_one (ds_set (i := 0) nd rfl (.inl rfl) (de_cat (de_var (pv 0)).o (de_comp (own := [("_law_k", 9)]) rfl nd (dpi_range1 (by rfl) T.n_range (da_cons (di_callBV call_len ok_len (by rfl) T.n_len (by decide +kernel) (dv_cons (de_var (pv 8)).v dv_nil)) da_nil)) (blkOk_by (N := ["_law_pairs", "_law_table", "_law_turn", "_law_kind_here", "_law_general", "_law_number", "_law_worth", "_law_left", "_law_right", "_law_k"]) (sc := defScope s__law_match) (by decide +kernel)) (by decide) (by decide) (fun _ _ _ _ _ => (dg_name (i := 9) nd rfl (.inl rfl))) (fun _ _ _ _ _ => dts_nil) (fun _ _ _ _ _ => (di_tup (da_cons (do_ix (de_var (pv 7)).o (de_var (pv 9)).i).i (da_cons (do_ix (de_var (pv 8)).o (de_var (pv 9)).i).i da_nil))).e)).o (pe_op op_cat))))))))))))) (dss_one (ds_ret di_bl.e)))))
theorem ok_law (T : Txt K mg A FD) : FnOk P w K mg base (L2.CX P w) 64 (A 19) (FD 19) ["_law_script"] (spD ⟨K, P, w, mg⟩ 1 (f_law)) := by
  have G__law_numbers : FnOk P w K mg base (L2.CX P w) 1 (A 0) (FD 0) ["_law_script", "_law_many"] (spD ⟨K, P, w, mg⟩ 2 (f__law_numbers)) := ok__law_numbers T
  have G__law_draw : FnOk P w K mg base (L2.CX P w) 1 (A 1) (FD 1) ["_law_draws", "_law_many"] (spD ⟨K, P, w, mg⟩ 2 (f__law_draw)) := ok__law_draw T
  have G__law_big : FnOk P w K mg base (L2.CX P w) 2 (A 2) (FD 2) ["_law_draws"] (spD ⟨K, P, w, mg⟩ 1 (f__law_big)) := ok__law_big T
  have G__law_kind : FnOk P w K mg base (L2.CX P w) 12 (A 3) (FD 3) ["_law_draws", "_law_levels", "_law_numbers_here"] (spD ⟨K, P, w, mg⟩ 3 (f__law_kind 10)) := ok__law_kind T 10
  have G__law_put : FnOk P w K mg base (L2.CX P w) 61 (A 4) (FD 4) ["_law_kind_here", "_law_table"] (spD ⟨K, P, w, mg⟩ 2 (f__law_put 60)) := ok__law_put T 60
  have G_replace : FnOk P w K mg base (L2.CX P w) 62 (A 6) (FD 6) ["kind", "table"] (spD ⟨K, P, w, mg⟩ 2 (f_replace 60)) := ok_replace T 60
  have G__law_equal : FnOk P w K mg base (L2.CX P w) 61 (A 7) (FD 7) ["_law_actual", "_law_expected"] (spD ⟨K, P, w, mg⟩ 2 (f__law_equal 60)) := ok__law_equal T 60
  have G_is_instance : FnOk P w K mg base (L2.CX P w) 2 (A 8) (FD 8) ["kind", "general"] (spD ⟨K, P, w, mg⟩ 2 (f_is_instance)) := ok_is_instance T
  have G__law_changed : FnOk P w K mg base (L2.CX P w) 62 (A 10) (FD 10) ["_law_draws", "_law_kind_here", "_law_other"] (spD ⟨K, P, w, mg⟩ 3 (f__law_changed 60)) := ok__law_changed T 60
  have G__law_looks : FnOk P w K mg base (L2.CX P w) 63 (A 17) (FD 17) ["_law_kind_here"] (spD ⟨K, P, w, mg⟩ 1 (f__law_looks)) := ok__law_looks T
  have G__law_match : FnOk P w K mg base (L2.CX P w) 2 (A 18) (FD 18) ["_law_pairs"] (spD ⟨K, P, w, mg⟩ 1 (f__law_match)) := ok__law_match T
  obtain ⟨dl__law_big_0, dv__law_big_0, hb__law_big_0, hd__law_big_0, hdd__law_big_0, hl__law_big_0⟩ := db0 T.b__law_big
  obtain ⟨dl__law_changed_0, dv__law_changed_0, hb__law_changed_0, hd__law_changed_0, hdd__law_changed_0, hl__law_changed_0⟩ := db0 T.b__law_changed
  obtain ⟨dl__law_draw_0, dv__law_draw_0, hb__law_draw_0, hd__law_draw_0, hdd__law_draw_0, hl__law_draw_0⟩ := db0 T.b__law_draw
  obtain ⟨dl__law_equal_0, dv__law_equal_0, hb__law_equal_0, hd__law_equal_0, hdd__law_equal_0, hl__law_equal_0⟩ := db0 T.b__law_equal
  obtain ⟨dl__law_kind_0, dv__law_kind_0, hb__law_kind_0, hd__law_kind_0, hdd__law_kind_0, hl__law_kind_0⟩ := db0 T.b__law_kind
  obtain ⟨dl__law_looks_0, dv__law_looks_0, hb__law_looks_0, hd__law_looks_0, hdd__law_looks_0, hl__law_looks_0⟩ := db0 T.b__law_looks
  obtain ⟨dl__law_match_0, dv__law_match_0, hb__law_match_0, hd__law_match_0, hdd__law_match_0, hl__law_match_0⟩ := db0 T.b__law_match
  obtain ⟨dl__law_numbers_0, dv__law_numbers_0, hb__law_numbers_0, hd__law_numbers_0, hdd__law_numbers_0, hl__law_numbers_0⟩ := db0 T.b__law_numbers
  obtain ⟨dl__law_put_0, dv__law_put_0, hb__law_put_0, hd__law_put_0, hdd__law_put_0, hl__law_put_0⟩ := db0 T.b__law_put
  obtain ⟨dl_is_instance_0, dv_is_instance_0, hb_is_instance_0, hd_is_instance_0, hdd_is_instance_0, hl_is_instance_0⟩ := db0 T.b_is_instance
  obtain ⟨dl_replace_0, dv_replace_0, hb_replace_0, hd_replace_0, hdd_replace_0, hl_replace_0⟩ := db0 T.b_replace
  refine fn_okD (N := ["_law_script", "_law_draws", "_law_numbers_here", "_law_general", "_law_k", "_law_rows", "_law_table", "_law_number", "_law_worth", "_law_kind_here", "_law_told"]) (ps := ["_law_script"]) (k := 63) (den := d_law) T.F_law sc_law fun cdv Ar outer s H E hr => ?_
  have nd := sc_law.nd
  have hu := hr.units
  have hu1 : (Ar.deeper (envOfC "law" (defScope s_law) s.heap.objs.size (A 19) cdv)).units + 65 < cLine := by have := hr.un; omega
  have hu2 : (Ar.deeper (envOfC "law" (defScope s_law) s.heap.objs.size (A 19) cdv)).units + 1 < cLine := by omega
  have tk : Takes (cxOf (L2.CX P w) P w K mg base ["_law_script", "_law_draws", "_law_numbers_here", "_law_general", "_law_k", "_law_rows", "_law_table", "_law_number", "_law_worth", "_law_kind_here", "_law_told"] "law" (defScope s_law) (A 19) cdv Ar outer s H E) (fun cls d _ H => E cls d H) := takes_of rfl rfl rfl rfl
  have po : PassesOwn (model P w) (Ar.deeper (envOfC "law" (defScope s_law) s.heap.objs.size (A 19) cdv)) (cxOf (L2.CX P w) P w K mg base ["_law_script", "_law_draws", "_law_numbers_here", "_law_general", "_law_k", "_law_rows", "_law_table", "_law_number", "_law_worth", "_law_kind_here", "_law_told"] "law" (defScope s_law) (A 19) cdv Ar outer s H E).env (cxOf (L2.CX P w) P w K mg base ["_law_script", "_law_draws", "_law_numbers_here", "_law_general", "_law_k", "_law_rows", "_law_table", "_law_number", "_law_worth", "_law_kind_here", "_law_told"] "law" (defScope s_law) (A 19) cdv Ar outer s H E).xe := passes_of rfl
  exact (dss_cons (ds_set (i := 1) nd rfl (.inl rfl) (de_call G__law_numbers tk (hr.mono (by decide)) (by rfl) T.f__law_numbers T.F__law_numbers.kp T.b__law_numbers (dar_cons (de_var (pv 0)) (dar_cons di_int.e dar_nil)))) (dss_cons (ds_set (i := 2) nd rfl (.inl rfl) (de_lst (da_cons (de_call G__law_draw tk (hr.mono (by decide)) (by rfl) T.f__law_draw T.F__law_draw.kp T.b__law_draw (dar_cons (de_var (pv 1)) (dar_cons di_int.e dar_nil))).i (da_cons (de_call G__law_draw tk (hr.mono (by decide)) (by rfl) T.f__law_draw T.F__law_draw.kp T.b__law_draw (dar_cons (de_var (pv 1)) (dar_cons di_int.e dar_nil))).i (da_cons (de_call G__law_draw tk (hr.mono (by decide)) (by rfl) T.f__law_draw T.F__law_draw.kp T.b__law_draw (dar_cons (de_var (pv 1)) (dar_cons di_int.e dar_nil))).i (da_cons (di_mod (di_callTV call_int1 ok_int (by rfl) T.n_int (by decide +kernel) (dv_cons (de_call G__law_big tk (hr.mono (by decide)) (by rfl) T.f__law_big T.F__law_big.kp T.b__law_big (dar_cons (de_var (pv 1)) dar_nil)).v dv_nil)) di_int) da_nil))))).i.e) (dss_cons (ds_set (i := 3) nd rfl (.inl rfl) (de_call G__law_kind tk (hr.mono (by decide)) (by rfl) T.f__law_kind T.F__law_kind.kp T.b__law_kind (dar_cons (de_var (pv 1)) (dar_cons di_int.e (dar_cons (de_var (pv 2)).i.e dar_nil)))).i.e) (dss_cons (ds_if (dt_cmp (op_eqD hu) ok_eq (de_call G__law_draw tk (hr.mono (by decide)) (by rfl) T.f__law_draw T.F__law_draw.kp T.b__law_draw (dar_cons (de_var (pv 1)) (dar_cons di_int.e dar_nil))).v di_int.v (nomark _)) (dss_one (ds_forP po rfl (dpi_range1 (by rfl) T.n_range (da_cons (de_call G__law_draw tk (hr.mono (by decide)) (by rfl) T.f__law_draw T.F__law_draw.kp T.b__law_draw (dar_cons (de_var (pv 1)) (dar_cons di_int.e dar_nil))).i da_nil)) (dg_name (i := 4) nd rfl (.inl rfl)) (dss_one (ds_set (i := 3) nd rfl (.inl rfl) (di_tup (da_cons di_str (da_cons (de_var (pv 3)).i da_nil))).e)))) dss_nil) (dss_cons (ds_set (i := 5) nd rfl (.inl rfl) (de_lst da_nil)) (dss_cons (ds_set (i := 6) nd rfl (.inl rfl) de_dict0) (dss_cons (ds_for po rfl (de_var (pv 2)) (dg_name (i := 7) nd rfl (.inl rfl)) (dss_one (ds_if (dw_and (dt_cmp (op_notin4 hu1) ok_notinX (de_var (pv 7)).v (de_var (pv 6)).v (by rfl)) (dw_and1 (dt_cmp op_gt ok_gt (de_call G__law_draw tk (hr.mono (by decide)) (by rfl) T.f__law_draw T.F__law_draw.kp T.b__law_draw (dar_cons (de_var (pv 1)) (dar_cons di_int.e dar_nil))).v di_int.v (nomark _)))).t (dss_cons (ds_set (i := 8) nd rfl (.inl rfl) (de_call G__law_kind tk (hr.mono (by decide)) (by rfl) T.f__law_kind T.F__law_kind.kp T.b__law_kind (dar_cons (de_var (pv 1)) (dar_cons di_int.e (dar_cons (de_var (pv 2)).i.e dar_nil)))).i.e) (dss_cons (ds_app (i := 5) (pv 5) (di_tup (da_cons (de_var (pv 7)).i (da_cons (de_var (pv 8)).i da_nil))).e (fun h => pe_bm PySem.F.plainAttrs_list PySem.F.slot_list_append PySem.F.type_list_append mt_append (pv 5) h)) (dss_one (ds_stP hu1 (de_var (pv 8)) (dpl_var (i := 6) (pv 6)) (de_var (pv 7)).i (fun h1 h2 h3 => ps_asg h1 (pg_sub h2 h3 (set_anyX hu1))))))) dss_nil))) (dss_cons (ds_set (i := 9) nd rfl (.inl rfl) (de_call G__law_put tk (hr.mono (by decide)) (by rfl) T.f__law_put T.F__law_put.kp T.b__law_put (dar_cons (de_var (pv 3)).i.e (dar_cons (de_var (pv 5)).i.e dar_nil))).i.e) (dss_cons (ds_set (i := 10) nd rfl (.inl rfl) (de_call G_replace tk (hr.mono (by decide)) (by rfl) T.f_replace T.F_replace.kp T.b_replace (dar_cons (de_var (pv 3)).i.e (dar_cons (de_var (pv 6)).i.e dar_nil))).i.e) (dss_cons (ds_if (dw_or (dt_not (dt_tru (de_call G__law_equal tk (hr.mono (by decide)) (by rfl) T.f__law_equal T.F__law_equal.kp T.b__law_equal (dar_cons (de_var (pv 10)).i.e (dar_cons (de_var (pv 9)).i.e dar_nil))).v)) (dw_or1 (dt_cmp (op_neD hu) ok_ne (di_callBV call_lenX ok_lenX (by rfl) T.n_len (by decide +kernel) (dv_cons (de_var (pv 6)).v dv_nil)).v (di_callBV call_len ok_len (by rfl) T.n_len (by decide +kernel) (dv_cons (de_var (pv 5)).v dv_nil)).v (nomark _)))).t (dss_one (ds_ret di_bl.e)) dss_nil) (dss_cons (ds_for po rfl (de_var (pv 5)) (dg_tup rfl (dgs_cons (dg_name (i := 7) nd rfl (.inl rfl)) (dgs_cons (dg_name (i := 8) nd rfl (.inl rfl)) dgs_nil))) (dss_one (ds_if (dt_cmp (op_neD hu) ok_ne (do_getX (de_var (pv 6)).o (da_cons (de_var (pv 7)).i da_nil) (fun h1 h2 => pe_xm PySem.F.slot_dict_get PySem.F.type_dict_get (mt_getX hu2) h1 h2)).v (de_var (pv 8)).v (nomark _)) (dss_one (ds_ret di_bl.e)) dss_nil))) (dss_cons (ds_if (dt_not (dt_tru (de_call G__law_equal tk (hr.mono (by decide)) (by rfl) T.f__law_equal T.F__law_equal.kp T.b__law_equal (dar_cons (de_call G_is_instance tk (hr.mono (by decide)) (by rfl) T.f_is_instance T.F_is_instance.kp T.b_is_instance (dar_cons (de_var (pv 3)).i.e (dar_cons (de_var (pv 3)).i.e dar_nil))) (dar_cons di_bl.e dar_nil))).v)) (dss_one (ds_ret di_bl.e)) dss_nil) (dss_cons (ds_if (dt_not (dt_tru (de_call G__law_equal tk (hr.mono (by decide)) (by rfl) T.f__law_equal T.F__law_equal.kp T.b__law_equal (dar_cons (di_tup (da_cons (di_g (by rfl) T.g_INT) (da_cons (di_g (by rfl) T.g_BOOL) (da_cons (di_g (by rfl) T.g_OUTPUT) (da_cons (di_gI (by rfl) T.g_MOST_SIZE) da_nil))))).e (dar_cons (di_tup (da_cons (di_tup (da_cons di_str da_nil)) (da_cons (di_tup (da_cons di_str da_nil)) (da_cons (di_tup (da_cons di_str da_nil)) (da_cons di_int da_nil))))).e dar_nil))).v)) (dss_one (ds_ret di_bl.e)) dss_nil) (dss_cons (ds_if (dt_cmp (op_eqD hu) ok_eq (de_call G__law_draw tk (hr.mono (by decide)) (by rfl) T.f__law_draw T.F__law_draw.kp T.b__law_draw (dar_cons (de_var (pv 1)) (dar_cons di_int.e dar_nil))).v di_int.v (nomark _)) (dss_one (ds_set (i := 9) nd rfl (.inl rfl) (de_call G__law_changed tk (hr.mono (by decide)) (by rfl) T.f__law_changed T.F__law_changed.kp T.b__law_changed (dar_cons (de_var (pv 1)) (dar_cons (de_var (pv 9)).i.e (dar_cons (de_call G__law_kind tk (hr.mono (by decide)) (by rfl) T.f__law_kind T.F__law_kind.kp T.b__law_kind (dar_cons (de_var (pv 1)) (dar_cons di_int.e (dar_cons (de_var (pv 2)).i.e dar_nil)))) dar_nil)))).i.e)) (dss_one (ds_if (dt_cmp (op_eqD hu) ok_eq (de_call G__law_draw tk (hr.mono (by decide)) (by rfl) T.f__law_draw T.F__law_draw.kp T.b__law_draw (dar_cons (de_var (pv 1)) (dar_cons di_int.e dar_nil))).v di_int.v (nomark _)) (dss_one (ds_set (i := 9) nd rfl (.inl rfl) (de_call G__law_kind tk (hr.mono (by decide)) (by rfl) T.f__law_kind T.F__law_kind.kp T.b__law_kind (dar_cons (de_var (pv 1)) (dar_cons di_int.e (dar_cons (de_var (pv 2)).i.e dar_nil)))).i.e)) dss_nil))) (dss_cons (ds_if (dw_or (dt_not (dt_tru (de_call G__law_looks tk (hr.mono (by decide)) (by rfl) T.f__law_looks T.F__law_looks.kp T.b__law_looks (dar_cons (de_var (pv 3)).i.e dar_nil)).v)) (dw_or1 (dt_not (dt_tru (de_call G__law_looks tk (hr.mono (by decide)) (by rfl) T.f__law_looks T.F__law_looks.kp T.b__law_looks (dar_cons (de_var (pv 9)).i.e dar_nil)).v)))).t (dss_one (ds_ret di_bl.e)) dss_nil) (dss_one (ds_ret (de_call G__law_equal tk (hr.mono (by decide)) (by rfl) T.f__law_equal T.F__law_equal.kp T.b__law_equal (dar_cons (de_call G_is_instance tk (hr.mono (by decide)) (by rfl) T.f_is_instance T.F_is_instance.kp T.b_is_instance (dar_cons (de_var (pv 9)).i.e (dar_cons (de_var (pv 3)).i.e dar_nil))) (dar_cons (de_call G__law_match tk (hr.mono (by decide)) (by rfl) T.f__law_match T.F__law_match.kp T.b__law_match (dar_cons (de_lst (da_cons (di_tup (da_cons (de_var (pv 9)).i (da_cons (de_var (pv 3)).i da_nil))) da_nil)) dar_nil)) dar_nil))))))))))))))))))))
end
theorem all_mk {l : PySem.W.OpenLaw} {w : World} {K : PySem.W.Frag} {h : Heap} {mg : Str → Option Value} {fa : Addr} (X : K.In h) (G : h.Ns mainGlobals mg) (hfa : mg "law" = some (.ref fa))
    {a0 : Addr} {od0 an0 : Option Addr} {sl0 : Array (Option Value)} {oc0 kV0 dc0 pm0 cd0 ct0 : Value}
    {a1 : Addr} {od1 an1 : Option Addr} {sl1 : Array (Option Value)} {oc1 kV1 dc1 pm1 cd1 ct1 : Value}
    {a2 : Addr} {od2 an2 : Option Addr} {sl2 : Array (Option Value)} {oc2 kV2 dc2 pm2 cd2 ct2 : Value}
    {a3 : Addr} {od3 an3 : Option Addr} {sl3 : Array (Option Value)} {oc3 kV3 dc3 pm3 cd3 ct3 : Value}
    {a4 : Addr} {od4 an4 : Option Addr} {sl4 : Array (Option Value)} {oc4 kV4 dc4 pm4 cd4 ct4 : Value}
    {a5 : Addr} {od5 an5 : Option Addr} {sl5 : Array (Option Value)} {oc5 kV5 dc5 pm5 cd5 ct5 : Value}
    {a6 : Addr} {od6 an6 : Option Addr} {sl6 : Array (Option Value)} {oc6 kV6 dc6 pm6 cd6 ct6 : Value}
    {a7 : Addr} {od7 an7 : Option Addr} {sl7 : Array (Option Value)} {oc7 kV7 dc7 pm7 cd7 ct7 : Value}
    {a8 : Addr} {od8 an8 : Option Addr} {sl8 : Array (Option Value)} {oc8 kV8 dc8 pm8 cd8 ct8 : Value}
    {a9 : Addr} {od9 an9 : Option Addr} {sl9 : Array (Option Value)} {oc9 kV9 dc9 pm9 cd9 ct9 : Value}
    {a10 : Addr} {od10 an10 : Option Addr} {sl10 : Array (Option Value)} {oc10 kV10 dc10 pm10 cd10 ct10 : Value}
    {a11 : Addr} {od11 an11 : Option Addr} {sl11 : Array (Option Value)} {oc11 kV11 dc11 pm11 cd11 ct11 : Value}
    {a12 : Addr} {od12 an12 : Option Addr} {sl12 : Array (Option Value)} {oc12 kV12 dc12 pm12 cd12 ct12 : Value}
    {a13 : Addr} {od13 an13 : Option Addr} {sl13 : Array (Option Value)} {oc13 kV13 dc13 pm13 cd13 ct13 : Value}
    {a14 : Addr} {od14 an14 : Option Addr} {sl14 : Array (Option Value)} {oc14 kV14 dc14 pm14 cd14 ct14 : Value}
    {a15 : Addr} {od15 an15 : Option Addr} {sl15 : Array (Option Value)} {oc15 kV15 dc15 pm15 cd15 ct15 : Value}
    {a16 : Addr} {od16 an16 : Option Addr} {sl16 : Array (Option Value)} {oc16 kV16 dc16 pm16 cd16 ct16 : Value}
    {a17 : Addr} {od17 an17 : Option Addr} {sl17 : Array (Option Value)} {oc17 kV17 dc17 pm17 cd17 ct17 : Value}
    {a18 : Addr} {od18 an18 : Option Addr} {sl18 : Array (Option Value)} {oc18 kV18 dc18 pm18 cd18 ct18 : Value}
    {a19 : Addr} {od19 an19 : Option Addr} {sl19 : Array (Option Value)} {oc19 kV19 dc19 pm19 cd19 ct19 : Value}
    {T20 : Addr} {T20d : Option Addr} {T20n : Nat} {T20s : Array (Option Value)}
    {tk21 : Tok}
    {T22 : Addr} {T22d : Option Addr} {T22n : Nat} {T22s : Array (Option Value)}
    {tk23 : Tok}
    {tk24 : Tok}
    {T25 : Addr} {T25d : Option Addr} {T25n : Nat} {T25s : Array (Option Value)}
    {tk26 : Tok}
    (h0 : PySem.W.nsIn K mainGlobals "_law_numbers" = some (some (.ref a0)))
    (h1 : K.lookup a0 = some ⟨oc0, od0, .func (PySem.W.fnOf "_law_numbers" "_law_numbers" (defArgs s__law_numbers) (defBody s__law_numbers) (defScope s__law_numbers) .none kV0 dc0 pm0 an0 cd0 ct0), sl0⟩)
    (h2 : PySem.W.codeIn K cd0 "_law_numbers" = true)
    (h3 : PySem.W.keepIn K (.ref a0) = true)
    (h4 : PySem.W.nsIn K mainGlobals "_law_draw" = some (some (.ref a1)))
    (h5 : K.lookup a1 = some ⟨oc1, od1, .func (PySem.W.fnOf "_law_draw" "_law_draw" (defArgs s__law_draw) (defBody s__law_draw) (defScope s__law_draw) .none kV1 dc1 pm1 an1 cd1 ct1), sl1⟩)
    (h6 : PySem.W.codeIn K cd1 "_law_draw" = true)
    (h7 : PySem.W.keepIn K (.ref a1) = true)
    (h8 : PySem.W.nsIn K mainGlobals "_law_big" = some (some (.ref a2)))
    (h9 : K.lookup a2 = some ⟨oc2, od2, .func (PySem.W.fnOf "_law_big" "_law_big" (defArgs s__law_big) (defBody s__law_big) (defScope s__law_big) .none kV2 dc2 pm2 an2 cd2 ct2), sl2⟩)
    (h10 : PySem.W.codeIn K cd2 "_law_big" = true)
    (h11 : PySem.W.keepIn K (.ref a2) = true)
    (h12 : PySem.W.nsIn K mainGlobals "_law_kind" = some (some (.ref a3)))
    (h13 : K.lookup a3 = some ⟨oc3, od3, .func (PySem.W.fnOf "_law_kind" "_law_kind" (defArgs s__law_kind) (defBody s__law_kind) (defScope s__law_kind) .none kV3 dc3 pm3 an3 cd3 ct3), sl3⟩)
    (h14 : PySem.W.codeIn K cd3 "_law_kind" = true)
    (h15 : PySem.W.keepIn K (.ref a3) = true)
    (h16 : PySem.W.nsIn K mainGlobals "_law_put" = some (some (.ref a4)))
    (h17 : K.lookup a4 = some ⟨oc4, od4, .func (PySem.W.fnOf "_law_put" "_law_put" (defArgs s__law_put) (defBody s__law_put) (defScope s__law_put) .none kV4 dc4 pm4 an4 cd4 ct4), sl4⟩)
    (h18 : PySem.W.codeIn K cd4 "_law_put" = true)
    (h19 : PySem.W.keepIn K (.ref a4) = true)
    (h20 : PySem.W.nsIn K mainGlobals "inner" = some (some (.ref a5)))
    (h21 : K.lookup a5 = some ⟨oc5, od5, .func (PySem.W.fnOf "inner" "inner" (defArgs s_inner) (defBody s_inner) (defScope s_inner) .none kV5 dc5 pm5 an5 cd5 ct5), sl5⟩)
    (h22 : PySem.W.codeIn K cd5 "inner" = true)
    (h23 : PySem.W.keepIn K (.ref a5) = true)
    (h24 : PySem.W.nsIn K mainGlobals "replace" = some (some (.ref a6)))
    (h25 : K.lookup a6 = some ⟨oc6, od6, .func (PySem.W.fnOf "replace" "replace" (defArgs s_replace) (defBody s_replace) (defScope s_replace) .none kV6 dc6 pm6 an6 cd6 ct6), sl6⟩)
    (h26 : PySem.W.codeIn K cd6 "replace" = true)
    (h27 : PySem.W.keepIn K (.ref a6) = true)
    (h28 : PySem.W.nsIn K mainGlobals "_law_equal" = some (some (.ref a7)))
    (h29 : K.lookup a7 = some ⟨oc7, od7, .func (PySem.W.fnOf "_law_equal" "_law_equal" (defArgs s__law_equal) (defBody s__law_equal) (defScope s__law_equal) .none kV7 dc7 pm7 an7 cd7 ct7), sl7⟩)
    (h30 : PySem.W.codeIn K cd7 "_law_equal" = true)
    (h31 : PySem.W.keepIn K (.ref a7) = true)
    (h32 : PySem.W.nsIn K mainGlobals "is_instance" = some (some (.ref a8)))
    (h33 : K.lookup a8 = some ⟨oc8, od8, .func (PySem.W.fnOf "is_instance" "is_instance" (defArgs s_is_instance) (defBody s_is_instance) (defScope s_is_instance) .none kV8 dc8 pm8 an8 cd8 ct8), sl8⟩)
    (h34 : PySem.W.codeIn K cd8 "is_instance" = true)
    (h35 : PySem.W.keepIn K (.ref a8) = true)
    (h36 : PySem.W.nsIn K mainGlobals "_law_inner" = some (some (.ref a9)))
    (h37 : K.lookup a9 = some ⟨oc9, od9, .func (PySem.W.fnOf "_law_inner" "_law_inner" (defArgs s__law_inner) (defBody s__law_inner) (defScope s__law_inner) .none kV9 dc9 pm9 an9 cd9 ct9), sl9⟩)
    (h38 : PySem.W.codeIn K cd9 "_law_inner" = true)
    (h39 : PySem.W.keepIn K (.ref a9) = true)
    (h40 : PySem.W.nsIn K mainGlobals "_law_changed" = some (some (.ref a10)))
    (h41 : K.lookup a10 = some ⟨oc10, od10, .func (PySem.W.fnOf "_law_changed" "_law_changed" (defArgs s__law_changed) (defBody s__law_changed) (defScope s__law_changed) .none kV10 dc10 pm10 an10 cd10 ct10), sl10⟩)
    (h42 : PySem.W.codeIn K cd10 "_law_changed" = true)
    (h43 : PySem.W.keepIn K (.ref a10) = true)
    (h44 : PySem.W.nsIn K mainGlobals "kind_size" = some (some (.ref a11)))
    (h45 : K.lookup a11 = some ⟨oc11, od11, .func (PySem.W.fnOf "kind_size" "kind_size" (defArgs s_kind_size) (defBody s_kind_size) (defScope s_kind_size) .none kV11 dc11 pm11 an11 cd11 ct11), sl11⟩)
    (h46 : PySem.W.codeIn K cd11 "kind_size" = true)
    (h47 : PySem.W.keepIn K (.ref a11) = true)
    (h48 : PySem.W.nsIn K mainGlobals "_law_size" = some (some (.ref a12)))
    (h49 : K.lookup a12 = some ⟨oc12, od12, .func (PySem.W.fnOf "_law_size" "_law_size" (defArgs s__law_size) (defBody s__law_size) (defScope s__law_size) .none kV12 dc12 pm12 an12 cd12 ct12), sl12⟩)
    (h50 : PySem.W.codeIn K cd12 "_law_size" = true)
    (h51 : PySem.W.keepIn K (.ref a12) = true)
    (h52 : PySem.W.nsIn K mainGlobals "format_kind" = some (some (.ref a13)))
    (h53 : K.lookup a13 = some ⟨oc13, od13, .func (PySem.W.fnOf "format_kind" "format_kind" (defArgs s_format_kind) (defBody s_format_kind) (defScope s_format_kind) .none kV13 dc13 pm13 an13 cd13 ct13), sl13⟩)
    (h54 : PySem.W.codeIn K cd13 "format_kind" = true)
    (h55 : PySem.W.keepIn K (.ref a13) = true)
    (h56 : PySem.W.nsIn K mainGlobals "_law_format" = some (some (.ref a14)))
    (h57 : K.lookup a14 = some ⟨oc14, od14, .func (PySem.W.fnOf "_law_format" "_law_format" (defArgs s__law_format) (defBody s__law_format) (defScope s__law_format) .none kV14 dc14 pm14 an14 cd14 ct14), sl14⟩)
    (h58 : PySem.W.codeIn K cd14 "_law_format" = true)
    (h59 : PySem.W.keepIn K (.ref a14) = true)
    (h60 : PySem.W.nsIn K mainGlobals "unknowns" = some (some (.ref a15)))
    (h61 : K.lookup a15 = some ⟨oc15, od15, .func (PySem.W.fnOf "unknowns" "unknowns" (defArgs s_unknowns) (defBody s_unknowns) (defScope s_unknowns) .none kV15 dc15 pm15 an15 cd15 ct15), sl15⟩)
    (h62 : PySem.W.codeIn K cd15 "unknowns" = true)
    (h63 : PySem.W.keepIn K (.ref a15) = true)
    (h64 : PySem.W.nsIn K mainGlobals "_law_unknowns" = some (some (.ref a16)))
    (h65 : K.lookup a16 = some ⟨oc16, od16, .func (PySem.W.fnOf "_law_unknowns" "_law_unknowns" (defArgs s__law_unknowns) (defBody s__law_unknowns) (defScope s__law_unknowns) .none kV16 dc16 pm16 an16 cd16 ct16), sl16⟩)
    (h66 : PySem.W.codeIn K cd16 "_law_unknowns" = true)
    (h67 : PySem.W.keepIn K (.ref a16) = true)
    (h68 : PySem.W.nsIn K mainGlobals "_law_looks" = some (some (.ref a17)))
    (h69 : K.lookup a17 = some ⟨oc17, od17, .func (PySem.W.fnOf "_law_looks" "_law_looks" (defArgs s__law_looks) (defBody s__law_looks) (defScope s__law_looks) .none kV17 dc17 pm17 an17 cd17 ct17), sl17⟩)
    (h70 : PySem.W.codeIn K cd17 "_law_looks" = true)
    (h71 : PySem.W.keepIn K (.ref a17) = true)
    (h72 : PySem.W.nsIn K mainGlobals "_law_match" = some (some (.ref a18)))
    (h73 : K.lookup a18 = some ⟨oc18, od18, .func (PySem.W.fnOf "_law_match" "_law_match" (defArgs s__law_match) (defBody s__law_match) (defScope s__law_match) .none kV18 dc18 pm18 an18 cd18 ct18), sl18⟩)
    (h74 : PySem.W.codeIn K cd18 "_law_match" = true)
    (h75 : PySem.W.keepIn K (.ref a18) = true)
    (h76 : PySem.W.nsIn K mainGlobals "law" = some (some (.ref a19)))
    (h77 : K.lookup a19 = some ⟨oc19, od19, .func (PySem.W.fnOf "law" "law" (defArgs s_law) (defBody s_law) (defScope s_law) .none kV19 dc19 pm19 an19 cd19 ct19), sl19⟩)
    (h78 : PySem.W.codeIn K cd19 "law" = true)
    (h79 : PySem.W.keepIn K (.ref a19) = true)
    (h80 : PySem.W.nsIn K mainGlobals "BOOL" = some (some (.ref T20)))
    (h81 : K.lookup T20 = some ⟨.type "tuple", T20d, .seq (#[(.str "bool" tk21)] : Array Value) T20n, T20s⟩)
    (h82 : PySem.W.nsIn K mainGlobals "INT" = some (some (.ref T22)))
    (h83 : K.lookup T22 = some ⟨.type "tuple", T22d, .seq (#[(.str "int" tk23)] : Array Value) T22n, T22s⟩)
    (h84 : PySem.W.nsIn K mainGlobals "MOST_SIZE" = some (some (.int 40 tk24)))
    (h85 : PySem.W.nsIn K mainGlobals "OUTPUT" = some (some (.ref T25)))
    (h86 : K.lookup T25 = some ⟨.type "tuple", T25d, .seq (#[(.str "output" tk26)] : Array Value) T25n, T25s⟩)
    (h87 : PySem.W.nsIn K mainGlobals "abs" = some none)
    (h88 : PySem.W.nsIn K mainGlobals "bool" = some none)
    (h89 : PySem.W.nsIn K mainGlobals "int" = some none)
    (h90 : PySem.W.nsIn K mainGlobals "isinstance" = some none)
    (h91 : PySem.W.nsIn K mainGlobals "len" = some none)
    (h92 : PySem.W.nsIn K mainGlobals "list" = some none)
    (h93 : PySem.W.nsIn K mainGlobals "range" = some none)
    (h94 : PySem.W.nsIn K mainGlobals "str" = some none)
    (h95 : PySem.W.nsIn K mainGlobals "sum" = some none)
    (h96 : PySem.W.nsIn K mainGlobals "tuple" = some none)
    (h97 : PySem.W.nsIn K mainGlobals "zip" = some none)
    : ∃ (fd : FuncData) (A : Unit), True ∧ (∀ (s : Shared) (v : Value), BindsTo s fd ⟨[v], []⟩ [("_law_script", v)]) ∧ ∀ base : Heap, K.In base → base.Ns mainGlobals mg → FnOk l.prog w K mg base (L2.CX l.prog w) 64 fa fd ["_law_script"] (spD ⟨K, l.prog, w, mg⟩ 1 (fA A)) := by
  have e := hfa.symm.trans (PySem.W.mg_of X G h76)
  cases e
  have T : Txt K mg (fun n => (cond (Nat.ble n 9) (cond (Nat.ble n 4) (cond (Nat.ble n 1) (cond (Nat.ble n 0) a0 a1) (cond (Nat.ble n 2) a2 (cond (Nat.ble n 3) a3 a4))) (cond (Nat.ble n 6) (cond (Nat.ble n 5) a5 a6) (cond (Nat.ble n 7) a7 (cond (Nat.ble n 8) a8 a9)))) (cond (Nat.ble n 14) (cond (Nat.ble n 11) (cond (Nat.ble n 10) a10 a11) (cond (Nat.ble n 12) a12 (cond (Nat.ble n 13) a13 a14))) (cond (Nat.ble n 16) (cond (Nat.ble n 15) a15 a16) (cond (Nat.ble n 17) a17 (cond (Nat.ble n 18) a18 fa)))))) (fun n => (cond (Nat.ble n 9) (cond (Nat.ble n 4) (cond (Nat.ble n 1) (cond (Nat.ble n 0) (PySem.W.fnOf "_law_numbers" "_law_numbers" (defArgs s__law_numbers) (defBody s__law_numbers) (defScope s__law_numbers) .none kV0 dc0 pm0 an0 cd0 ct0) (PySem.W.fnOf "_law_draw" "_law_draw" (defArgs s__law_draw) (defBody s__law_draw) (defScope s__law_draw) .none kV1 dc1 pm1 an1 cd1 ct1)) (cond (Nat.ble n 2) (PySem.W.fnOf "_law_big" "_law_big" (defArgs s__law_big) (defBody s__law_big) (defScope s__law_big) .none kV2 dc2 pm2 an2 cd2 ct2) (cond (Nat.ble n 3) (PySem.W.fnOf "_law_kind" "_law_kind" (defArgs s__law_kind) (defBody s__law_kind) (defScope s__law_kind) .none kV3 dc3 pm3 an3 cd3 ct3) (PySem.W.fnOf "_law_put" "_law_put" (defArgs s__law_put) (defBody s__law_put) (defScope s__law_put) .none kV4 dc4 pm4 an4 cd4 ct4)))) (cond (Nat.ble n 6) (cond (Nat.ble n 5) (PySem.W.fnOf "inner" "inner" (defArgs s_inner) (defBody s_inner) (defScope s_inner) .none kV5 dc5 pm5 an5 cd5 ct5) (PySem.W.fnOf "replace" "replace" (defArgs s_replace) (defBody s_replace) (defScope s_replace) .none kV6 dc6 pm6 an6 cd6 ct6)) (cond (Nat.ble n 7) (PySem.W.fnOf "_law_equal" "_law_equal" (defArgs s__law_equal) (defBody s__law_equal) (defScope s__law_equal) .none kV7 dc7 pm7 an7 cd7 ct7) (cond (Nat.ble n 8) (PySem.W.fnOf "is_instance" "is_instance" (defArgs s_is_instance) (defBody s_is_instance) (defScope s_is_instance) .none kV8 dc8 pm8 an8 cd8 ct8) (PySem.W.fnOf "_law_inner" "_law_inner" (defArgs s__law_inner) (defBody s__law_inner) (defScope s__law_inner) .none kV9 dc9 pm9 an9 cd9 ct9))))) (cond (Nat.ble n 14) (cond (Nat.ble n 11) (cond (Nat.ble n 10) (PySem.W.fnOf "_law_changed" "_law_changed" (defArgs s__law_changed) (defBody s__law_changed) (defScope s__law_changed) .none kV10 dc10 pm10 an10 cd10 ct10) (PySem.W.fnOf "kind_size" "kind_size" (defArgs s_kind_size) (defBody s_kind_size) (defScope s_kind_size) .none kV11 dc11 pm11 an11 cd11 ct11)) (cond (Nat.ble n 12) (PySem.W.fnOf "_law_size" "_law_size" (defArgs s__law_size) (defBody s__law_size) (defScope s__law_size) .none kV12 dc12 pm12 an12 cd12 ct12) (cond (Nat.ble n 13) (PySem.W.fnOf "format_kind" "format_kind" (defArgs s_format_kind) (defBody s_format_kind) (defScope s_format_kind) .none kV13 dc13 pm13 an13 cd13 ct13) (PySem.W.fnOf "_law_format" "_law_format" (defArgs s__law_format) (defBody s__law_format) (defScope s__law_format) .none kV14 dc14 pm14 an14 cd14 ct14)))) (cond (Nat.ble n 16) (cond (Nat.ble n 15) (PySem.W.fnOf "unknowns" "unknowns" (defArgs s_unknowns) (defBody s_unknowns) (defScope s_unknowns) .none kV15 dc15 pm15 an15 cd15 ct15) (PySem.W.fnOf "_law_unknowns" "_law_unknowns" (defArgs s__law_unknowns) (defBody s__law_unknowns) (defScope s__law_unknowns) .none kV16 dc16 pm16 an16 cd16 ct16)) (cond (Nat.ble n 17) (PySem.W.fnOf "_law_looks" "_law_looks" (defArgs s__law_looks) (defBody s__law_looks) (defScope s__law_looks) .none kV17 dc17 pm17 an17 cd17 ct17) (cond (Nat.ble n 18) (PySem.W.fnOf "_law_match" "_law_match" (defArgs s__law_match) (defBody s__law_match) (defScope s__law_match) .none kV18 dc18 pm18 an18 cd18 ct18) (PySem.W.fnOf "law" "law" (defArgs s_law) (defBody s_law) (defScope s_law) .none kV19 dc19 pm19 an19 cd19 ct19))))))) := by
    refine ⟨?_, ?_, ?_, ?_, ?_, ?_, ?_, ?_, ?_, ?_, ?_, ?_, ?_, ?_, ?_, ?_, ?_, ?_, ?_, ?_, ?_, ?_, ?_, ?_, ?_, ?_, ?_, ?_, ?_, ?_, ?_, ?_, ?_, ?_, ?_, ?_, ?_, ?_, ?_, ?_, ?_, ?_, ?_, ?_, ?_, ?_, ?_, ?_, ?_, ?_, ?_, ?_, ?_, ?_, ?_, ?_, ?_, ?_, ?_, ?_, ?_, ?_, ?_, ?_, ?_, ?_, ?_, ?_, ?_, ?_, ?_, ?_, ?_⟩
    · exact PySem.W.mg_of X G h0
    · exact df_mk h1 h2 h3
    · exact Binds.all fun us hl => match us, hl with | [_, _], _ => rfl
    · exact PySem.W.mg_of X G h4
    · exact df_mk h5 h6 h7
    · exact Binds.all fun us hl => match us, hl with | [_, _], _ => rfl
    · exact PySem.W.mg_of X G h8
    · exact df_mk h9 h10 h11
    · exact Binds.all fun us hl => match us, hl with | [_], _ => rfl
    · exact PySem.W.mg_of X G h12
    · exact df_mk h13 h14 h15
    · exact Binds.all fun us hl => match us, hl with | [_, _, _], _ => rfl
    · exact PySem.W.mg_of X G h16
    · exact df_mk h17 h18 h19
    · exact Binds.all fun us hl => match us, hl with | [_, _], _ => rfl
    · exact PySem.W.mg_of X G h20
    · exact df_mk h21 h22 h23
    · exact Binds.all fun us hl => match us, hl with | [_], _ => rfl
    · exact PySem.W.mg_of X G h24
    · exact df_mk h25 h26 h27
    · exact Binds.all fun us hl => match us, hl with | [_, _], _ => rfl
    · exact PySem.W.mg_of X G h28
    · exact df_mk h29 h30 h31
    · exact Binds.all fun us hl => match us, hl with | [_, _], _ => rfl
    · exact PySem.W.mg_of X G h32
    · exact df_mk h33 h34 h35
    · exact Binds.all fun us hl => match us, hl with | [_, _], _ => rfl
    · exact PySem.W.mg_of X G h36
    · exact df_mk h37 h38 h39
    · exact Binds.all fun us hl => match us, hl with | [_], _ => rfl
    · exact PySem.W.mg_of X G h40
    · exact df_mk h41 h42 h43
    · exact Binds.all fun us hl => match us, hl with | [_, _, _], _ => rfl
    · exact PySem.W.mg_of X G h44
    · exact df_mk h45 h46 h47
    · exact Binds.all fun us hl => match us, hl with | [_], _ => rfl
    · exact PySem.W.mg_of X G h48
    · exact df_mk h49 h50 h51
    · exact Binds.all fun us hl => match us, hl with | [_], _ => rfl
    · exact PySem.W.mg_of X G h52
    · exact df_mk h53 h54 h55
    · exact Binds.all fun us hl => match us, hl with | [_], _ => rfl
    · exact PySem.W.mg_of X G h56
    · exact df_mk h57 h58 h59
    · exact Binds.all fun us hl => match us, hl with | [_], _ => rfl
    · exact PySem.W.mg_of X G h60
    · exact df_mk h61 h62 h63
    · exact Binds.all fun us hl => match us, hl with | [_], _ => rfl
    · exact PySem.W.mg_of X G h64
    · exact df_mk h65 h66 h67
    · exact Binds.all fun us hl => match us, hl with | [_], _ => rfl
    · exact PySem.W.mg_of X G h68
    · exact df_mk h69 h70 h71
    · exact Binds.all fun us hl => match us, hl with | [_], _ => rfl
    · exact PySem.W.mg_of X G h72
    · exact df_mk h73 h74 h75
    · exact Binds.all fun us hl => match us, hl with | [_], _ => rfl
    · exact df_mk h77 h78 h79
    · exact ⟨_, PySem.W.mg_of X G h80, (WR.tup (us := [(.str "bool" tk21)]) (hz := Nat.le_trans (show 1 ≤ 1000 by decide) (by decide)) h81 (WRs.cons WR.str WRs.nil))⟩
    · exact ⟨_, PySem.W.mg_of X G h82, (WR.tup (us := [(.str "int" tk23)]) (hz := Nat.le_trans (show 1 ≤ 1000 by decide) (by decide)) h83 (WRs.cons WR.str WRs.nil))⟩
    · exact ⟨_, PySem.W.mg_of X G h84⟩
    · exact ⟨_, PySem.W.mg_of X G h85, (WR.tup (us := [(.str "output" tk26)]) (hz := Nat.le_trans (show 1 ≤ 1000 by decide) (by decide)) h86 (WRs.cons WR.str WRs.nil))⟩
    · exact PySem.W.mg_none_of X G h87
    · exact PySem.W.mg_none_of X G h88
    · exact PySem.W.mg_none_of X G h89
    · exact PySem.W.mg_none_of X G h90
    · exact PySem.W.mg_none_of X G h91
    · exact PySem.W.mg_none_of X G h92
    · exact PySem.W.mg_none_of X G h93
    · exact PySem.W.mg_none_of X G h94
    · exact PySem.W.mg_none_of X G h95
    · exact PySem.W.mg_none_of X G h96
    · exact PySem.W.mg_none_of X G h97
  exact ⟨(PySem.W.fnOf "law" "law" (defArgs s_law) (defBody s_law) (defScope s_law) .none kV19 dc19 pm19 an19 cd19 ct19), (), trivial, fun s v => .of_eq rfl, fun base _ _ => ok_law T⟩
end K14

/-! TOK: texts of tokens, plainly. -/
namespace TOK
open PySem DL L2
abbrev S (l : List Nat) : Str := ⟨l.toArray⟩
theorem S_len (l : List Nat) : (S l).length = l.length := by show l.toArray.size = _; simp
theorem S_app (l m : List Nat) : S l ++ S m = S (l ++ m) := by show (⟨l.toArray ++ m.toArray⟩ : Str) = _; simp
theorem S_inj {l m : List Nat} (h : S l = S m) : l = m := by
  have := congrArg (fun x : Str => x.cps.toList) h
  simpa using this
def dig (c : Nat) : Bool := decide (48 ≤ c ∧ c ≤ 57)
def ltr (c : Nat) : Bool := decide (97 ≤ c ∧ c ≤ 122)
/-- signs below 128 -/
def ok (l : List Nat) : Prop := ∀ c ∈ l, c < 128
theorem strOk_S {l : List Nat} (h : ok l) : PyData.strOk (S l) = true := by
  show l.toArray.all (· < 0x110000) = true
  rw [List.all_toArray, List.all_eq_true]
  intro c hc
  have := h c hc
  exact decide_eq_true (by omega)
theorem ok_app {l m : List Nat} (h : ok l) (k : ok m) : ok (l ++ m) := fun c hc => (List.mem_append.mp hc).elim (h c) (k c)
theorem nice_S {l : List Nat} (h : ok l) : nice 0 (.str (S l)) = true := by rw [nice]; exact strOk_S h
theorem op_eqS {l m : List Nat} {P : Bool → Prop} (h : ok l) (k : ok m) (p : P (decide (l = m))) : OP (eqD (.str (S l)) (.str (S m))) P := by
  obtain ⟨b, hb, hiff⟩ := eqD_nice (nice_S h) (nice_S k)
  refine ⟨b, hb, ?_⟩
  have : b = decide (l = m) := by
    rw [Bool.eq_iff_iff, hiff, decide_eq_true_iff]
    constructor
    · intro z; injection z with z; exact S_inj z
    · intro z; rw [z]
  rw [this]
  exact p
/-! ### runs -/
/-! ### tokens -/
def numT (t : List Nat) : Prop := t ≠ [] ∧ (∀ c ∈ t, dig c = true) ∧ (t.head? = some 48 → t.length = 1) ∧ t.length ≤ 16 ∧ ∃ n : Int, intText? (S t) = some n ∧ n ≤ 1000000000000000
def wordT (t : List Nat) : Prop := t ≠ [] ∧ (∀ c ∈ t, ltr c = true) ∧ t.length ≤ 12
def signL : List (List Nat) := [[61, 61], [60, 61], [60], [61], [43], [45], [42], [40], [41], [91], [93], [44], [59]]
def Tok (t : List Nat) : Prop := numT t ∨ wordT t ∨ t ∈ signL
theorem dig_lt {c : Nat} (h : dig c = true) : 48 ≤ c ∧ c ≤ 57 := of_decide_eq_true h
theorem ltr_lt {c : Nat} (h : ltr c = true) : 97 ≤ c ∧ c ≤ 122 := of_decide_eq_true h
theorem Tok.ne {t : List Nat} (h : Tok t) : t ≠ [] := by
  rcases h with h | h | h
  · exact h.1
  · exact h.1
  · intro e; rw [e] at h; exact absurd h (by decide)
theorem Tok.len {t : List Nat} (h : Tok t) : t.length ≤ 16 := by
  rcases h with h | h | h
  · exact h.2.2.2.1
  · exact Nat.le_trans h.2.2 (by omega)
  · exact (by decide : ∀ t ∈ signL, t.length ≤ 16) t h
theorem Tok.ok {t : List Nat} (h : Tok t) : ok t := by
  intro c hc
  rcases h with h | h | h
  · have := dig_lt (h.2.1 c hc); omega
  · have := ltr_lt (h.2.1 c hc); omega
  · exact (by decide : ∀ t ∈ signL, ∀ c ∈ t, c < 128) t h c hc
/-- what a token begins with -/
def hd (t : List Nat) : Nat := t.headD 0
/-- do they read as one -/
def glued (b a : List Nat) : Bool := if dig (hd b) then dig (hd a) else if ltr (hd b) then ltr (hd a) else ((decide (b = [60]) || decide (b = [61])) && decide (hd a = 61))
/-- what may follow t -/
def fol (t r : List Nat) : Prop := (numT t → ∀ c, r.head? = some c → dig c = false) ∧ (wordT t → ∀ c, r.head? = some c → ltr c = false) ∧ (t = [60] ∨ t = [61] → r.head? ≠ some 61)
/-! ### the text -/
abbrev Sg := Nat × List Nat
def txt : List Sg → Nat → List Nat
  | [], f => List.replicate f 32
  | (g, t) :: r, f => List.replicate g 32 ++ (t ++ txt r f)
def ex (p : Nat) : List Sg → List (List Nat × Nat)
  | [] => []
  | (g, t) :: r => (t, p + g) :: ex (p + g + t.length) r
def Good : List Sg → Nat → Prop
  | [], _ => True
  | (_, t) :: r, f => Tok t ∧ fol t (txt r f) ∧ Good r f
def Adj : List Sg → Prop
  | [] => True
  | [x] => Tok x.2
  | x :: y :: r => Tok x.2 ∧ (y.1 > 0 ∨ glued x.2 y.2 = false) ∧ Adj (y :: r)
theorem Adj.snoc : ∀ {l : List Sg} {g : Nat} {t : List Nat}, Adj l → Tok t → (∀ x, l.getLast? = some x → g > 0 ∨ glued x.2 t = false) → Adj (l ++ [(g, t)])
  | [], g, t, _, ht, _ => ht
  | [x], g, t, h, ht, hl => ⟨h, hl x rfl, ht⟩
  | x :: y :: r, g, t, h, ht, hl => ⟨h.1, h.2.1, Adj.snoc h.2.2 ht fun z hz => hl z (by rw [List.getLast?_cons_cons]; exact hz)⟩
/-! ### numbers -/
theorem ok_one {c : Nat} (h : c < 128) : ok [c] := fun d hd => by rw [List.mem_singleton.mp hd]; exact h
theorem Tok.cons {t : List Nat} (h : Tok t) : ∃ r, t = hd t :: r := by
  cases t with
  | nil => exact absurd rfl h.ne
  | cons c r => exact ⟨r, rfl⟩
/-- the next sign is a space, or a token begins -/
theorem step {g : Nat} {l : List Sg} {f : Nat} (hG : Good l f) (hne : List.replicate g 32 ++ txt l f ≠ []) :
    (∃ g2 l2 f2, List.replicate g 32 ++ txt l f = 32 :: (List.replicate g2 32 ++ txt l2 f2) ∧ Good l2 f2 ∧ ∀ p, ex (p + 1 + g2) l2 = ex (p + g) l) ∨ (g = 0 ∧ ∃ t r, l = (0, t) :: r) := by
  cases g with
  | succ n => exact .inl ⟨n, l, f, rfl, hG, fun p => by rw [show p + 1 + n = p + (n + 1) by omega]⟩
  | zero =>
    cases l with
    | nil =>
      cases f with
      | zero => exact absurd rfl hne
      | succ m => exact .inl ⟨0, [], m, rfl, .intro, fun p => rfl⟩
    | cons x r =>
      obtain ⟨h, t⟩ := x
      cases h with
      | zero => exact .inr ⟨rfl, t, r, rfl⟩
      | succ n => exact .inl ⟨0, (n, t) :: r, f, rfl, hG, fun p => by
          show (t, p + 1 + 0 + n) :: ex (p + 1 + 0 + n + t.length) r = (t, p + 0 + (n + 1)) :: ex (p + 0 + (n + 1) + t.length) r
          rw [show p + 1 + 0 + n = p + 0 + (n + 1) by omega]⟩
end TOK

/-! NTN: values as texts, plainly. -/
namespace NTN
open PySem DL L2 TOK
/-- the text of a whole number -/
def tx (k : Int) : List Nat := if k < 0 then 45 :: TL.numL k.natAbs else TL.numL k.natAbs
theorem tx_str (k : Int) : Str.ofString (toString k) = S (tx k) := by
  unfold tx
  cases k with
  | ofNat n =>
    rw [if_neg (by simp)]
    exact TL.ext_tl (TL.tl_num n)
  | negSucc m =>
    rw [if_pos (by omega)]
    refine TL.ext_tl ?_
    have e : toString (Int.negSucc m) = "-" ++ Nat.repr (m + 1) := rfl
    have e2 : (Str.ofString (Nat.repr (m + 1))).cps.toList = TL.numL (m + 1) := TL.tl_num (m + 1)
    rw [e, PySem.Str.ofString_eq_toList, String.toList_append, List.map_append]
    rw [PySem.Str.ofString_eq_toList] at e2
    show _ ++ _ = 45 :: TL.numL (m + 1)
    rw [show (Nat.repr (m + 1)).toList.map Char.toNat = TL.numL (m + 1) from e2]
    rfl
theorem num_dig {n : Nat} : ∀ c ∈ TL.numL n, dig c = true := fun c hc => by
  have := TL.numL_digits n c hc
  exact decide_eq_true (by omega)
theorem num_len {n : Nat} (h : n < 10 ^ 60) : (TL.numL n).length ≤ 60 := TL.numL_len (by decide) h
theorem num_ok' {n : Nat} : ok (TL.numL n) := fun c hc => by
  have := dig_lt (num_dig c hc)
  omega
/-- a value that is no tuple, and its text -/
def leafW (d : D) (w : List Nat) : Prop :=
  (∃ b : Bool, d = .bl b ∧ w = [if b then 84 else 70]) ∨ (∃ k : Int, d = .int k ∧ k.natAbs < 10 ^ 60 ∧ w = tx k) ∨ (∃ l, d = .str (S l) ∧ ok l ∧ l.length ≤ 1000 ∧ w = TL.numL l.length ++ 58 :: l)
/-- values at most n deep, and their texts -/
def Wr : Nat → D → List Nat → Prop
  | 0, d, w => leafW d w
  | n + 1, d, w => leafW d w ∨ ∃ ps : List (D × List Nat), d = .tup (ps.map (·.1)) ∧ w = 40 :: (TL.joinL [32] (ps.map (·.2)) ++ [41]) ∧ ∀ p ∈ ps, Wr n p.1 p.2
theorem Wr.up : ∀ {n : Nat} {d : D} {w : List Nat}, Wr n d w → Wr (n + 1) d w
  | 0, d, w, h => .inl h
  | n + 1, d, w, h => by
    rcases h with h | ⟨ps, h1, h2, h3⟩
    · exact .inl h
    · exact .inr ⟨ps, h1, h2, fun p hp => (h3 p hp).up⟩
theorem Wr.mono {n m : Nat} {d : D} {w : List Nat} (h : Wr n d w) (hm : n ≤ m) : Wr m d w := by
  induction m with
  | zero => rw [show n = 0 by omega] at h; exact h
  | succ m ih =>
    by_cases e : n = m + 1
    · rw [e] at h; exact h
    · exact (ih (by omega)).up
theorem ok_tx (k : Int) : ok (tx k) := by
  unfold tx
  split
  · exact ok_app (l := [45]) (ok_one (by omega)) num_ok'
  · exact num_ok'
theorem ok_joinL {s : Nat} (hs : s < 128) : ∀ {l : List (List Nat)}, (∀ w ∈ l, ok w) → ok (TL.joinL [s] l)
  | [], _ => fun c hc => by cases hc
  | [p], h => h p List.mem_cons_self
  | p :: q :: r, h => ok_app (h p List.mem_cons_self) (ok_app (ok_one hs) (ok_joinL hs fun w hw => h w (List.mem_cons_of_mem _ hw)))
theorem leafW.ok {d : D} {w : List Nat} (h : leafW d w) : TOK.ok w := by
  rcases h with ⟨b, _, rfl⟩ | ⟨k, _, _, rfl⟩ | ⟨l, _, h, _, rfl⟩
  · exact ok_one (by cases b <;> decide)
  · exact ok_tx k
  · exact ok_app num_ok' (ok_app (l := [58]) (ok_one (by omega)) h)
theorem Wr.ok : ∀ {n : Nat} {d : D} {w : List Nat}, Wr n d w → TOK.ok w
  | 0, d, w, h => leafW.ok h
  | n + 1, d, w, h => by
    rcases h with h | ⟨ps, _, rfl, h3⟩
    · exact h.ok
    · refine ok_app (l := [40]) (ok_one (by omega)) (ok_app (ok_joinL (by omega) fun w hw => ?_) (ok_one (by omega)))
      obtain ⟨p, hp, rfl⟩ := List.mem_map.mp hw
      exact (h3 p hp).ok
theorem tx_len {k : Int} (h : k.natAbs < 10 ^ 60) : (tx k).length ≤ 61 := by
  have := num_len h
  unfold tx
  split
  · show (TL.numL k.natAbs).length + 1 ≤ 61
    omega
  · omega
theorem leafW.len {d : D} {w : List Nat} (h : leafW d w) : w.length ≤ 1005 := by
  rcases h with ⟨b, _, rfl⟩ | ⟨k, _, hk, rfl⟩ | ⟨l, _, h, hl, rfl⟩
  · show 1 ≤ 1005; omega
  · exact Nat.le_trans (tx_len hk) (by omega)
  · have : (TL.numL l.length).length ≤ 4 := TL.numL_len (by decide) (by omega)
    rw [List.length_append, List.length_cons]
    omega
end NTN

/-! KND: kinds, plainly. -/
namespace KND
open PySem DL L2 TOK NTN
theorem kg_int : Kg D.int where
  ok := fun l k h => by
    cases l with
    | nil => rfl
    | cons d l =>
      obtain ⟨j, rfl⟩ := h d List.mem_cons_self
      rfl
  inj := fun a b h => by
    have h : some (Sum.inl (Sum.inl a)) = some (Sum.inl (Sum.inl b) : Key ⊕ List Key) := h
    injection h with h
    injection h with h
    injection h
theorem ni_of {n m : Nat} (hnm : n ≤ m) (hh : ∀ d, nice n d = true → nice m d = true) {ds : List D} (h : nices n ds = true) : nices m ds = true := nices_iff.mpr fun d hd => hh d (nices_iff.mp h d hd)
theorem ni_mono1 : ∀ (n : Nat) (d : D), nice n d = true → nice (n + 1) d = true
  | 0, d, h => by cases d <;> first | exact h | cases h
  | n + 1, d, h => by
    cases d with
    | tup ds => rw [nice] at h ⊢; exact ni_of (Nat.le_succ n) (ni_mono1 n) h
    | lst ds => rw [nice] at h ⊢; exact ni_of (Nat.le_succ n) (ni_mono1 n) h
    | _ => first | exact h | cases h
theorem ni_mono {n : Nat} {d : D} (h : nice n d = true) : ∀ {m : Nat}, n ≤ m → nice m d = true := by
  intro m hm
  induction hm with
  | refl => exact h
  | step _ ih => exact ni_mono1 _ _ ih
section
variable {κ β : Type} [DecidableEq κ] {g : κ → D} {h : β → D}
theorem getF (K : Kg g) (l : List (κ × β)) (k : κ) (x : D) : getOX (.im (dcD g h l)) (g k) (.im x) = some (.im (((getA l k).map h).getD x)) := by
  unfold dcD
  show (if okKey _ _ = true then some ((((DL.kix _ _).bind fun n => _).map O.im).getD _) else none) = _
  rw [if_pos (K.okA l k), K.kix, getA_ix h]
  cases getA l k <;> rfl
end
inductive Kd
  | int | bool | out
  | any (n : Int)
  | list (a : Kd)
  | pair (a b : Kd)
deriving DecidableEq
def hdS : Kd → Str
  | .int => Str.ofString "int"
  | .bool => Str.ofString "bool"
  | .out => Str.ofString "output"
  | .any _ => Str.ofString "any"
  | .list _ => Str.ofString "list"
  | .pair _ _ => Str.ofString "pair"
def kdD : Kd → D
  | .int => .tup [.str (Str.ofString "int")]
  | .bool => .tup [.str (Str.ofString "bool")]
  | .out => .tup [.str (Str.ofString "output")]
  | .any n => .tup [.str (Str.ofString "any"), .int n]
  | .list a => .tup [.str (Str.ofString "list"), kdD a]
  | .pair a b => .tup [.str (Str.ofString "pair"), kdD a, kdD b]
def kids : Kd → List Kd
  | .list a => [a]
  | .pair a b => [a, b]
  | _ => []
def dp : Kd → Nat
  | .list a => dp a + 1
  | .pair a b => max (dp a) (dp b) + 1
  | _ => 1
def ksz : Kd → Nat
  | .list a => 1 + ksz a
  | .pair a b => 1 + (ksz a + ksz b)
  | _ => 1
def unk : Kd → List Int
  | .any n => [n]
  | .list a => unk a
  | .pair a b => unk a ++ (unk b).filter fun n => !(decide (n ∈ unk a))
  | _ => []
def put (t : List (Int × Kd)) : Kd → Kd
  | .any n => (getA t n).getD (.any n)
  | .list a => .list (put t a)
  | .pair a b => .pair (put t a) (put t b)
  | k => k
/-- the numbers of unknowns are of moderate size -/
def nok : Kd → Prop
  | .any n => 0 ≤ n ∧ n ≤ 1000000
  | .list a => nok a
  | .pair a b => nok a ∧ nok b
  | _ => True
def fmt : Kd → List Nat
  | .int => [105, 110, 116]
  | .bool => [98, 111, 111, 108]
  | .out => [111, 117, 116, 112, 117, 116]
  | .any n => [97, 110, 121] ++ tx n
  | .list a => [91] ++ fmt a ++ [93]
  | .pair a b => [40] ++ fmt a ++ [44, 32] ++ fmt b ++ [41]
theorem ksz_pos : ∀ k, 1 ≤ ksz k
  | .int => Nat.le_refl _
  | .bool => Nat.le_refl _
  | .out => Nat.le_refl _
  | .any _ => Nat.le_refl _
  | .list a => by show 1 ≤ 1 + ksz a; omega
  | .pair a b => by show 1 ≤ 1 + (ksz a + ksz b); omega
theorem kids_dp {k a : Kd} (h : a ∈ kids k) : dp a + 1 ≤ dp k := by
  cases k with
  | list b => rw [List.mem_singleton.mp h]; exact Nat.le_refl _
  | pair b c =>
    have h : a ∈ [b, c] := h
    rcases List.mem_cons.mp h with rfl | h
    · show dp a + 1 ≤ max (dp a) (dp c) + 1; omega
    · rw [List.mem_singleton.mp h]; show dp c + 1 ≤ max (dp b) (dp c) + 1; omega
  | _ => cases h
theorem sz_kids (k : Kd) : ksz k = 1 + ((kids k).map ksz).sum := by
  cases k <;> first | rfl | (simp [ksz, kids])
theorem fmt_len : ∀ {k : Kd}, nok k → (fmt k).length ≤ 70 * ksz k
  | .int, _ => by show 3 ≤ 70 * 1; omega
  | .bool, _ => by show 4 ≤ 70 * 1; omega
  | .out, _ => by show 6 ≤ 70 * 1; omega
  | .any n, h => by
    have := tx_len (k := n) (by have h1 : 0 ≤ n ∧ n ≤ 1000000 := h; exact Nat.lt_of_le_of_lt (show n.natAbs ≤ 1000000 by omega) (by decide))
    show (([97, 110, 121] : List Nat) ++ tx n).length ≤ 70 * 1
    rw [List.length_append]
    show 3 + _ ≤ _
    omega
  | .list a, h => by
    have ih := fmt_len (k := a) h
    show ([91] ++ fmt a ++ [93]).length ≤ 70 * (1 + ksz a)
    rw [List.length_append, List.length_append]
    show 1 + _ + 1 ≤ _
    omega
  | .pair a b, h => by
    have ih := fmt_len (k := a) h.1
    have ih2 := fmt_len (k := b) h.2
    show ([40] ++ fmt a ++ [44, 32] ++ fmt b ++ [41]).length ≤ 70 * (1 + (ksz a + ksz b))
    rw [List.length_append, List.length_append, List.length_append, List.length_append]
    show 1 + _ + 2 + _ + 1 ≤ _
    omega
theorem fmt_ok : ∀ k : Kd, ok (fmt k)
  | .int => (by decide : ∀ c ∈ [105, 110, 116], c < 128)
  | .bool => (by decide : ∀ c ∈ [98, 111, 111, 108], c < 128)
  | .out => (by decide : ∀ c ∈ [111, 117, 116, 112, 117, 116], c < 128)
  | .any n => ok_app (by decide : ∀ c ∈ [97, 110, 121], c < 128) (ok_tx n)
  | .list a => ok_app (ok_app (by decide : ∀ c ∈ [91], c < 128) (fmt_ok a)) (by decide : ∀ c ∈ [93], c < 128)
  | .pair a b => ok_app (ok_app (ok_app (ok_app (by decide : ∀ c ∈ [40], c < 128) (fmt_ok a)) (by decide : ∀ c ∈ [44, 32], c < 128)) (fmt_ok b)) (by decide : ∀ c ∈ [41], c < 128)
theorem unk_nd : ∀ k : Kd, (unk k).Nodup
  | .int => List.nodup_nil
  | .bool => List.nodup_nil
  | .out => List.nodup_nil
  | .any n => List.nodup_cons.mpr ⟨by simp, List.nodup_nil⟩
  | .list a => unk_nd a
  | .pair a b => by
    show (unk a ++ (unk b).filter _).Nodup
    refine List.nodup_append.mpr ⟨unk_nd a, (unk_nd b).filter _, fun x hx y hy e => ?_⟩
    subst e
    have := (List.mem_filter.mp hy).2
    rw [decide_eq_true hx] at this
    cases this
theorem unk_len : ∀ k : Kd, (unk k).length ≤ ksz k
  | .int => Nat.zero_le _
  | .bool => Nat.zero_le _
  | .out => Nat.zero_le _
  | .any n => Nat.le_refl _
  | .list a => by have := unk_len a; show (unk a).length ≤ 1 + ksz a; omega
  | .pair a b => by
    have h1 := unk_len a
    have h2 := unk_len b
    show (unk a ++ (unk b).filter _).length ≤ 1 + (ksz a + ksz b)
    rw [List.length_append]
    have := List.length_filter_le (fun n => !(decide (n ∈ unk a))) (unk b)
    omega
/-- a table's kinds are at most m deep and w great -/
def tok (t : List (Int × Kd)) (m w : Nat) : Prop := ∀ n k, getA t n = some k → nok k ∧ dp k ≤ m ∧ ksz k ≤ w
theorem put_ok {t : List (Int × Kd)} {m w : Nat} (ht : tok t m w) (hw : 1 ≤ w) : ∀ {k : Kd}, nok k → nok (put t k) ∧ dp (put t k) ≤ dp k + m ∧ ksz (put t k) ≤ ksz k * w
  | .int, _ => ⟨trivial, by show 1 ≤ 1 + m; omega, by show 1 ≤ 1 * w; omega⟩
  | .bool, _ => ⟨trivial, by show 1 ≤ 1 + m; omega, by show 1 ≤ 1 * w; omega⟩
  | .out, _ => ⟨trivial, by show 1 ≤ 1 + m; omega, by show 1 ≤ 1 * w; omega⟩
  | .any n, h => by
    show nok ((getA t n).getD (.any n)) ∧ dp ((getA t n).getD (.any n)) ≤ 1 + m ∧ ksz ((getA t n).getD (.any n)) ≤ 1 * w
    cases e : getA t n with
    | none => exact ⟨h, by show 1 ≤ 1 + m; omega, by show 1 ≤ 1 * w; omega⟩
    | some k =>
      obtain ⟨h1, h2, h3⟩ := ht n k e
      exact ⟨h1, by show dp k ≤ 1 + m; omega, by show ksz k ≤ 1 * w; omega⟩
  | .list a, h => by
    obtain ⟨h1, h2, h3⟩ := put_ok ht hw (k := a) h
    refine ⟨h1, by show dp (put t a) + 1 ≤ dp a + 1 + m; omega, ?_⟩
    show 1 + ksz (put t a) ≤ (1 + ksz a) * w
    rw [Nat.add_mul]
    omega
  | .pair a b, h => by
    obtain ⟨h1, h2, h3⟩ := put_ok ht hw (k := a) h.1
    obtain ⟨k1, k2, k3⟩ := put_ok ht hw (k := b) h.2
    refine ⟨⟨h1, k1⟩, by show max (dp (put t a)) (dp (put t b)) + 1 ≤ max (dp a) (dp b) + 1 + m; omega, ?_⟩
    show 1 + (ksz (put t a) + ksz (put t b)) ≤ (1 + (ksz a + ksz b)) * w
    rw [Nat.add_mul, Nat.add_mul]
    omega
theorem sz_dp : ∀ k : Kd, ksz k + 1 ≤ 2 ^ dp k
  | .int => by show 1 + 1 ≤ 2 ^ 1; decide
  | .bool => by show 1 + 1 ≤ 2 ^ 1; decide
  | .out => by show 1 + 1 ≤ 2 ^ 1; decide
  | .any _ => by show 1 + 1 ≤ 2 ^ 1; decide
  | .list a => by
    have := sz_dp a
    show 1 + ksz a + 1 ≤ 2 ^ (dp a + 1)
    rw [Nat.pow_succ]
    have := ksz_pos a
    omega
  | .pair a b => by
    have h1 := sz_dp a
    have h2 := sz_dp b
    show 1 + (ksz a + ksz b) + 1 ≤ 2 ^ (max (dp a) (dp b) + 1)
    have e1 : 2 ^ dp a ≤ 2 ^ max (dp a) (dp b) := Nat.pow_le_pow_right (by decide) (Nat.le_max_left _ _)
    have e2 : 2 ^ dp b ≤ 2 ^ max (dp a) (dp b) := Nat.pow_le_pow_right (by decide) (Nat.le_max_right _ _)
    rw [Nat.pow_succ]
    omega
theorem nice_kdD : ∀ k : Kd, nice (dp k) (kdD k) = true
  | .int => by decide +kernel
  | .bool => by decide +kernel
  | .out => by decide +kernel
  | .any n => by
    show nice 1 (.tup [.str (Str.ofString "any"), .int n]) = true
    rw [nice, nices, nices, nices]
    have : nice 0 (.str (Str.ofString "any")) = true := by decide +kernel
    rw [this]
    rfl
  | .list a => by
    show nice (dp a + 1) (.tup [.str (Str.ofString "list"), kdD a]) = true
    rw [nice, nices, nices, nices, nice_kdD a, ni_mono (m := dp a) (show nice 0 (.str (Str.ofString "list")) = true by decide +kernel) (Nat.zero_le _)]
    rfl
  | .pair a b => by
    show nice (max (dp a) (dp b) + 1) (.tup [.str (Str.ofString "pair"), kdD a, kdD b]) = true
    rw [nice, nices, nices, nices, nices, ni_mono (nice_kdD a) (Nat.le_max_left _ _), ni_mono (nice_kdD b) (Nat.le_max_right _ _), ni_mono (m := max (dp a) (dp b)) (show nice 0 (.str (Str.ofString "pair")) = true by decide +kernel) (Nat.zero_le _)]
    rfl
theorem hd_kdD (k : Kd) : ∃ r, kdD k = .tup (.str (hdS k) :: r) := by cases k <;> exact ⟨_, rfl⟩
def hc : Kd → Nat
  | .int => 0
  | .bool => 1
  | .out => 2
  | .any _ => 3
  | .list _ => 4
  | .pair _ _ => 5
def nm : Nat → Str
  | 0 => Str.ofString "int"
  | 1 => Str.ofString "bool"
  | 2 => Str.ofString "output"
  | 3 => Str.ofString "any"
  | 4 => Str.ofString "list"
  | _ => Str.ofString "pair"
theorem nm_inj : ∀ i j : Fin 6, nm i.val = nm j.val → i = j := by decide +kernel
theorem hc_lt (k : Kd) : hc k < 6 := by cases k <;> simp [hc]
theorem hdS_nm (k : Kd) : hdS k = nm (hc k) := by cases k <;> rfl
theorem hd_hc {a b : Kd} (h : hdS a = hdS b) : hc a = hc b := by
  rw [hdS_nm, hdS_nm] at h
  exact congrArg Fin.val (nm_inj ⟨hc a, hc_lt a⟩ ⟨hc b, hc_lt b⟩ h)
theorem kdD_hd {a b : Kd} (h : kdD a = kdD b) : hdS a = hdS b := by
  obtain ⟨r, e⟩ := hd_kdD a
  obtain ⟨r', e'⟩ := hd_kdD b
  rw [e, e'] at h
  injection h with h
  injection h with h
  injection h
theorem kdD_inj : ∀ {a b : Kd}, kdD a = kdD b → a = b := by
  intro a
  induction a with
  | any n =>
    intro b h
    have hh := hd_hc (kdD_hd h)
    cases b with
    | any m =>
      have h : D.tup [.str (Str.ofString "any"), .int n] = .tup [.str (Str.ofString "any"), .int m] := h
      injection h with h; injection h with h1 h2; injection h2 with h2; injection h2 with h2; rw [h2]
    | _ => exact absurd hh (by simp [hc])
  | list a ih =>
    intro b h
    have hh := hd_hc (kdD_hd h)
    cases b with
    | list c =>
      have h : D.tup [.str (Str.ofString "list"), kdD a] = .tup [.str (Str.ofString "list"), kdD c] := h
      injection h with h; injection h with h1 h2; injection h2 with h2; rw [ih h2]
    | _ => exact absurd hh (by simp [hc])
  | pair a a2 ih ih2 =>
    intro b h
    have hh := hd_hc (kdD_hd h)
    cases b with
    | pair c d =>
      have h : D.tup [.str (Str.ofString "pair"), kdD a, kdD a2] = .tup [.str (Str.ofString "pair"), kdD c, kdD d] := h
      injection h with h; injection h with h1 h2; injection h2 with h2 h3; injection h3 with h3; rw [ih h2, ih2 h3]
    | _ => exact absurd hh (by simp [hc])
  | _ =>
    intro b h
    have hh := hd_hc (kdD_hd h)
    cases b <;> first | rfl | exact absurd hh (by simp [hc])
theorem op_eqK {a b : Kd} {P : Bool → Prop} (ha : dp a ≤ 60) (hb : dp b ≤ 60) (p : P (decide (a = b))) : OP (eqD (kdD a) (kdD b)) P := by
  obtain ⟨c, hc, hiff⟩ := eqD_nice (ni_mono (nice_kdD a) ha) (ni_mono (nice_kdD b) hb)
  refine ⟨c, hc, ?_⟩
  have : c = decide (a = b) := by
    rw [Bool.eq_iff_iff, hiff, decide_eq_true_iff]
    exact ⟨kdD_inj, fun z => by rw [z]⟩
  rw [this]
  exact p
theorem op_neK {a b : Kd} {P : Bool → Prop} (ha : dp a ≤ 60) (hb : dp b ≤ 60) (p : P (decide (a ≠ b))) : OP (neD (kdD a) (kdD b)) P := by
  obtain ⟨c, hc, q⟩ := op_eqK (P := fun c => c = decide (a = b)) ha hb rfl
  refine ⟨!c, by unfold neD; rw [hc]; rfl, ?_⟩
  rw [q, ← decide_not]
  exact p
theorem nice_nm : ∀ i : Fin 6, nice 0 (.str (nm i.val)) = true := by decide +kernel
theorem nice_hd (k : Kd) : nice 0 (.str (hdS k)) = true := by rw [hdS_nm]; exact nice_nm ⟨hc k, hc_lt k⟩
theorem op_neH {a b : Kd} {P : Bool → Prop} (p : P (decide (hdS a ≠ hdS b))) : OP (neD (.str (hdS a)) (.str (hdS b))) P := by
  obtain ⟨c, hc, hiff⟩ := eqD_nice (nice_hd a) (nice_hd b)
  refine ⟨!c, by unfold neD; rw [hc]; rfl, ?_⟩
  have : c = decide (hdS a = hdS b) := by
    rw [Bool.eq_iff_iff, hiff, decide_eq_true_iff]
    exact ⟨fun z => by injection z, fun z => by rw [z]⟩
  rw [this, ← decide_not]
  exact p
/-! ### is one kind an instance of another -/
def stz (st : List (Kd × Kd)) : Nat := (st.map fun p => ksz p.2).sum
/-- one turn -/
def run : Nat → List (Kd × Kd) → List (Int × Kd) → Bool
  | _, [], _ => true
  | 0, _ :: _, _ => false
  | f + 1, (m, .any n) :: st, t => if getA t n ≠ none ∧ getA t n ≠ some m then false else run f st (putA t n m)
  | f + 1, (m, o) :: st, t => if hdS m ≠ hdS o then false else run f (((kids m).zip (kids o)).reverse ++ st) t
theorem run_any {f : Nat} {m : Kd} {n : Int} {st : List (Kd × Kd)} {t : List (Int × Kd)} : run (f + 1) ((m, .any n) :: st) t = if getA t n ≠ none ∧ getA t n ≠ some m then false else run f st (putA t n m) := rfl
theorem run_other {f : Nat} {m o : Kd} {st : List (Kd × Kd)} {t : List (Int × Kd)} (h : ∀ n, o ≠ .any n) : run (f + 1) ((m, o) :: st) t = if hdS m ≠ hdS o then false else run f (((kids m).zip (kids o)).reverse ++ st) t := by
  cases o <;> first | rfl | exact absurd rfl (h _)
theorem kids_len {a b : Kd} (h : hdS a = hdS b) : (kids a).length = (kids b).length := by
  have hh := hd_hc h
  cases a <;> cases b <;> first | rfl | exact absurd hh (by simp [hc])
theorem stz_kids {m o : Kd} {st : List (Kd × Kd)} (h : hdS m = hdS o) : stz (((kids m).zip (kids o)).reverse ++ st) + 1 = stz ((m, o) :: st) := by
  unfold stz
  rw [List.map_append, List.sum_append, List.map_reverse, List.sum_reverse, List.map_cons, List.sum_cons, sz_kids o]
  have e : (((kids m).zip (kids o)).map fun p => ksz p.2) = (kids o).map ksz := by
    rw [show (fun p : Kd × Kd => ksz p.2) = ksz ∘ Prod.snd from rfl, ← List.map_map, List.map_snd_zip (by rw [kids_len h]; exact Nat.le_refl _)]
  rw [e]
  omega
/-- the rows that the law keeps, beside the table -/
def Cons (T : List (Int × Kd)) (t : List (Int × Kd)) : Prop := ∀ n w, (n, w) ∈ T ↔ getA t n = some w
theorem Cons.add {T t : List (Int × Kd)} {n : Int} {m : Kd} (h : Cons T t) (hn : getA t n = none ∨ getA t n = some m) : Cons (T ++ [(n, m)]) (putA t n m) := by
  intro k w
  rw [getA_put, List.mem_append, List.mem_singleton, h k w]
  by_cases e : n = k
  · subst e
    rw [if_pos rfl]
    constructor
    · rintro (z | z)
      · rcases hn with hn | hn
        · rw [hn] at z; cases z
        · rw [hn] at z; exact z
      · injection z with z1 z2; rw [z2]
    · intro z
      injection z with z
      exact .inr (by rw [z])
  · rw [if_neg e]
    constructor
    · rintro (z | z)
      · exact z
      · injection z with z1 z2; exact absurd z1.symm e
    · exact fun z => .inl z
end KND

namespace K14
open PySem DL TOK NTN KND
local macro_rules
  | `(tactic| trivial) => `(tactic| repeat' with_reducible first
    | refine DL.w_pure ?_ | refine DL.w_dq ?_ | refine DL.w_imR ?_ | refine DL.w_imD ?_ | refine DL.w_fl ?_ | refine DL.w_bin ?_ | refine DL.w_cmp ?_ | refine DL.w_rev ?_ | refine DL.w_cat ?_ | refine DL.w_chain ?_ | refine DL.w_dtB ?_ | refine DL.w_dtru ?_
    | refine DL.w_frzI (by with_unfolding_all rfl) ?_ | refine DL.w_vwI (by with_unfolding_all rfl) ?_ | refine DL.w_owO (by with_unfolding_all rfl) ?_ | refine DL.w_varI (by with_unfolding_all rfl) ?_ | refine DL.w_varL (by with_unfolding_all rfl) ?_ | refine DL.w_varT (by with_unfolding_all rfl) ?_
    | refine DL.w_vwO (by with_unfolding_all rfl) ?_ | (refine DL.w_frzO (by with_unfolding_all rfl) ?_; simp only [List.set_cons_succ, List.set_cons_zero, DL.O.flat])
    | refine DL.w_dcons ?_ | refine DL.w_dconsV ?_ | refine DL.w_darcons ?_ | (refine DL.w_dtup ?_) | refine DL.w_dlst ?_ | refine DL.w_dixO ?_ | refine DL.w_sq ?_ | refine DL.w_dixX ?_ | refine DL.w_listX ?_ | refine DL.w_sorted ?_ | refine DL.w_un ?_ | refine DL.w_sqC ?_ | refine DL.w_forC ?_ | refine DL.op_fldI (by with_unfolding_all rfl) ?_ | refine DL.w_rg ?_ | refine DL.w_rvO ?_ | refine DL.w_dslice ?_ | refine DL.w_dtmc ?_ | refine DL.w_dtupN ?_ | refine DL.w_dlist ?_ | refine DL.w_dtuple ?_ | refine DL.w_tupV ?_ | refine DL.w_listV ?_
    | refine DL.w_bind ?_ | refine DL.w_lift ?_ | refine DL.w_frz ?_ | refine DL.w_vw ?_ | refine DL.w_ow ?_
    | refine DL.w_dand ?_ | refine DL.w_dor ?_ | refine DL.w_dnot ?_ | refine DL.w_dandV ?_ | refine DL.w_dorV ?_ | refine DL.w_dnotV ?_ | refine DL.w_dif ?_
    | refine DL.frzP_im ?_ | refine DL.frzP_new ?_ | refine DL.vwP_im ?_ | refine DL.vwP_new ?_ | refine DL.vwP_bor ?_ | refine DL.owP_im ?_ | refine DL.owP_new ?_ | refine DL.owP_bor ?_
    | (refine DL.setP_im (by with_unfolding_all first | rfl | exact DL.fo_free rfl) ?_; simp only [List.set_cons_succ, List.set_cons_zero, DL.O.flat]) | (refine DL.setP_new (by with_unfolding_all first | rfl | exact DL.fo_free rfl) ?_; simp only [List.set_cons_succ, List.set_cons_zero, DL.O.flat])
    | refine DL.argP_im ?_ | refine DL.argP_new ?_ | refine DL.argP_bor ?_ | refine DL.rvP_im ?_ | refine DL.rvP_new ?_ | refine DL.mvP_im ?_ | refine DL.mvP_new ?_ | (refine DL.mvP_bor (by with_unfolding_all rfl) ?_; simp only [List.set_cons_succ, List.set_cons_zero]) | refine DL.itP_im ?_ | refine DL.itP_new ?_ | refine DL.tuP_lst ?_ | refine DL.blP_of ?_
    | refine DL.op_rng (by with_unfolding_all decide) ?_ | refine DL.op_rngG ?_ | refine DL.op_isiII ?_ | refine DL.op_isiIB ?_ | refine DL.op_isiTT ?_ | refine DL.op_isiLL ?_
    | refine DL.op_eq ?_ | refine DL.op_ne ?_ | refine DL.br_t ?_ | refine DL.br_f ?_ | refine DL.br_not ?_ | refine DL.br_eqT (by with_unfolding_all rfl) ?_ | refine DL.br_eqF (by with_unfolding_all rfl) ?_
    | refine DL.op_mod (by with_unfolding_all decide) ?_ | refine DL.op_div (by with_unfolding_all decide) ?_ | refine DL.op_mul (DL.mul_r (by with_unfolding_all decide)) ?_ | refine DL.op_mul (DL.mul_l (by with_unfolding_all decide)) ?_ | refine DL.op_pow (by with_unfolding_all decide) ?_
    | refine DL.w_seq ?_ | refine DL.w_next ?_ | refine DL.w_if ?_ | refine DL.w_match ?_ | refine DL.pickP_of (by with_unfolding_all decide) ?_ | refine DL.sp_t ?_ | refine DL.sp_f (by with_unfolding_all decide) ?_ | refine DL.sp_n ?_ | refine DL.w_rt ?_ | refine DL.w_set ?_ | refine DL.w_drop ?_ | refine DL.w_app (by with_unfolding_all rfl) ?_ | (refine DL.appP_of (by with_unfolding_all rfl) (by first | assumption | with_unfolding_all exact Nat.le_of_ble_eq_true rfl | (simp only [List.length_append, List.length_map, List.length_cons, List.length_nil]; omega)) ?_; simp only [List.set_cons_succ, List.set_cons_zero, DL.O.flat]) | refine DL.w_forP ?_ | refine DL.w_sforv (by with_unfolding_all rfl) (by with_unfolding_all rfl) ?_ | refine DL.w_asg ?_ | refine DL.w_forV ?_ | refine DL.sqt_if ?_ | refine DL.sqt_rt ?_ | refine DL.sqt_next ?_
    | refine DL.sz (by with_unfolding_all exact Nat.le_of_ble_eq_true rfl) ?_
    | refine DL.outI_im (by with_unfolding_all exact Nat.le_of_ble_eq_true rfl) ?_ | refine DL.outI_new (by with_unfolding_all exact Nat.le_of_ble_eq_true rfl) ?_ | refine DL.outI_bor (by with_unfolding_all exact Nat.le_of_ble_eq_true rfl) (by with_unfolding_all rfl) ?_
    | exact DL.us_next | exact DL.us_bk | exact DL.us_ct | exact DL.us_rtN | refine DL.us_seq ?_ ?_ | refine DL.us_if ?_ ?_ ?_ | refine DL.us_rt ?_ | refine DL.us_drop ?_ | refine DL.us_setI (by decide) ?_
    | exact DL.ud_pure | exact DL.ud_lift | exact DL.ud_xf | exact DL.ud_xi | exact DL.ud_var (by decide) | exact DL.ud_frz (by decide)
    | refine DL.ud_imR ?_ | refine DL.ud_vw ?_ | refine DL.ud_dtup ?_ | refine DL.ud_dlst ?_ | refine DL.ud_dcons ?_ ?_ | refine DL.ud_dconsV ?_ ?_ | refine DL.ud_dbin ?_ ?_ | refine DL.ud_dcmp ?_ ?_ | refine DL.ud_dtB ?_ | refine DL.ud_dtru ?_
    | refine DL.ud_dnot ?_ | refine DL.ud_dand ?_ ?_ | refine DL.ud_dor ?_ ?_ | refine DL.ud_dnotV ?_ | refine DL.ud_dandV ?_ ?_ | refine DL.ud_dorV ?_ ?_ | refine DL.ud_dif ?_ ?_ ?_ | refine DL.ud_imD ?_ | refine DL.ud_fl ?_ | refine DL.ud_dixO ?_ ?_ | refine DL.ud_dixX ?_ ?_ | exact DL.ud_ow (by decide) | exact DL.ud_meth0 (by decide) | (refine DL.ud_bind ?_ fun _ => ?_)
    | refine DL.w_op (by with_unfolding_all rfl) ?_ | rfl)

theorem sz_of {n : Nat} (h : n ≤ 1000) : n < sizeLine := Nat.lt_of_le_of_lt h (by decide)
abbrev dl (ds : List Int) : O := .lst (ds.map fun n => O.im (.int n))
def isT : D → Bool
  | .tup _ => true
  | _ => false
theorem isT_kdD (k : Kd) : isT (kdD k) = true := by
  obtain ⟨r, e⟩ := hd_kdD k
  rw [e]
  rfl
theorem op_isT {k : Kd} {P : D → Prop} (p : P (.bl true)) : OP (isiD [kdD k, .ty "tuple"]) P := by
  obtain ⟨r, e⟩ := hd_kdD k
  rw [e]
  exact ⟨_, rfl, p⟩
theorem inner_ok (k : Kd) : FI f_inner [kdD k] (· = .im (.tup ((kids k).map kdD))) := by
  refine w_fi ?_
  unfold d_inner
  show SW _ [some (false, .im _)] _
  cases k <;> (simp only [kdD, kids, List.map_cons, List.map_nil]; trivial; try rfl)
theorem linner_ok (k : Kd) : FI f__law_inner [kdD k] (· = .new (.lst ((kids k).map fun a => O.im (kdD a)))) := by
  refine w_fi ?_
  unfold d__law_inner
  show SW _ [some (false, .im _), none] _
  cases k with
  | any n =>
    simp only [kdD, kids, List.map_cons, List.map_nil]
    trivial
    refine w_compF [D.int n] (fun d => d) isT O.im ?_
    trivial
    refine ⟨rfl, ⟨rfl, rfl⟩, by show 1 ≤ sizeLine; decide, fun d hd => ?_, ?_⟩
    · rw [List.mem_singleton.mp hd]
      refine ⟨_, rfl, ?_⟩
      trivial
      exact ⟨rfl, rfl⟩
    · trivial
      rfl
  | list a =>
    simp only [kdD, kids, List.map_cons, List.map_nil]
    trivial
    refine w_compF [a] kdD (fun a => isT (kdD a)) (fun a => O.im (kdD a)) ?_
    trivial
    refine ⟨rfl, ⟨rfl, rfl⟩, by show 1 ≤ sizeLine; decide, fun d hd => ?_, ?_⟩
    · refine ⟨_, rfl, ?_⟩
      trivial
      refine op_isT ?_
      trivial
      refine ⟨isT_kdD d, ?_⟩
      trivial
      exact ⟨rfl, rfl⟩
    · rw [show List.filter (fun a => isT (kdD a)) [a] = [a] from by rw [List.filter_cons, if_pos (isT_kdD a)]; rfl]
      trivial
      rfl
  | pair a b =>
    simp only [kdD, kids, List.map_cons, List.map_nil]
    trivial
    refine w_compF [a, b] kdD (fun a => isT (kdD a)) (fun a => O.im (kdD a)) ?_
    trivial
    refine ⟨rfl, ⟨rfl, rfl⟩, by show 2 ≤ sizeLine; decide, fun d hd => ?_, ?_⟩
    · refine ⟨_, rfl, ?_⟩
      trivial
      refine op_isT ?_
      trivial
      refine ⟨isT_kdD d, ?_⟩
      trivial
      exact ⟨rfl, rfl⟩
    · rw [show List.filter (fun a => isT (kdD a)) [a, b] = [a, b] from by rw [List.filter_cons, if_pos (isT_kdD a), List.filter_cons, if_pos (isT_kdD b)]; rfl]
      trivial
      rfl
  | _ =>
    simp only [kdD, kids, List.map_cons, List.map_nil]
    trivial
    refine w_compF [] (fun d => d) isT O.im ?_
    trivial
    refine ⟨rfl, ⟨rfl, rfl⟩, Nat.zero_le _, fun d hd => (by cases hd), ?_⟩
    trivial
    rfl
def rowD (p : Int × Kd) : D := .tup [.int p.1, kdD p.2]
theorem lput_ok {t : List (Int × Kd)} : ∀ (k : Kd) (j : Nat), dp k < j → FI (f__law_put j) [kdD k, .lst (t.map rowD)] (· = .im (kdD (put t k)))
  | k, 0, h => absurd h (Nat.not_lt_zero _)
  | .any n, j + 1, h => by
    refine w_fi ?_
    unfold d__law_put
    show SW _ [some (false, .im _), some (false, .im _), none, none] _
    simp only [kdD]
    trivial
    refine sw_each t rowD (fun i e => ∃ s2 s3, e = [some (false, .im (.tup [.str (Str.ofString "any"), .int n])), some (false, .im (.lst (t.map rowD))), fo s2, fo s3] ∧ getA t n = getA (t.drop i) n) ⟨none, none, rfl, rfl⟩ ?_ ?_
    · rintro i p e hi ⟨s2, s3, rfl, hg⟩
      refine ⟨[some (false, .im (.tup [.str (Str.ofString "any"), .int n])), some (false, .im (.lst (t.map rowD))), some (false, .im (.int p.1)), some (false, .im (kdD p.2))], by cases s2 <;> cases s3 <;> rfl, ?_⟩
      obtain ⟨hlt, rfl⟩ := List.getElem?_eq_some_iff.mp hi
      rw [List.drop_eq_getElem_cons hlt, getA] at hg
      trivial
      refine br_dec (fun h => ?_) (fun h => ?_)
      · rw [if_pos h] at hg
        trivial
        show FRv.im (kdD t[i].2) = FRv.im (kdD ((getA t n).getD (.any n)))
        rw [hg]
        rfl
      · rw [if_neg h] at hg
        trivial
        exact ⟨some (.im (.int t[i].1)), some (.im (kdD t[i].2)), rfl, hg⟩
    · rintro e ⟨s2, s3, rfl, hg⟩
      rw [List.drop_eq_nil_of_le (Nat.le_refl _)] at hg
      trivial
      show FRv.im (.tup [.str (Str.ofString "any"), .int n]) = FRv.im (kdD ((getA t n).getD (.any n)))
      rw [hg]
      rfl
  | .list a, j + 1, h => by
    have ih := lput_ok (t := t) a j (by have : dp a + 1 < j + 1 := h; omega)
    refine w_fi ?_
    unfold d__law_put
    show SW _ [some (false, .im _), some (false, .im _), none, none] _
    simp only [kdD]
    trivial
    refine w_callI (ds := [kdD a, .lst _]) ih rfl ?_
    trivial
    rfl
  | .pair a b, j + 1, h => by
    have hh : max (dp a) (dp b) + 1 < j + 1 := h
    have ih := lput_ok (t := t) a j (by omega)
    have ih2 := lput_ok (t := t) b j (by omega)
    refine w_fi ?_
    unfold d__law_put
    show SW _ [some (false, .im _), some (false, .im _), none, none] _
    simp only [kdD]
    trivial
    refine w_callI (ds := [kdD a, .lst _]) ih rfl ?_
    trivial
    refine w_callI (ds := [kdD b, .lst _]) ih2 rfl ?_
    trivial
    rfl
  | .int, j + 1, h => by
    refine w_fi ?_
    unfold d__law_put
    show SW _ [some (false, .im _), some (false, .im _), none, none] _
    simp only [kdD]
    trivial
    rfl
  | .bool, j + 1, h => by
    refine w_fi ?_
    unfold d__law_put
    show SW _ [some (false, .im _), some (false, .im _), none, none] _
    simp only [kdD]
    trivial
    rfl
  | .out, j + 1, h => by
    refine w_fi ?_
    unfold d__law_put
    show SW _ [some (false, .im _), some (false, .im _), none, none] _
    simp only [kdD]
    trivial
    rfl
end K14

namespace K14
open PySem DL TOK NTN KND
local macro_rules
  | `(tactic| trivial) => `(tactic| repeat' with_reducible first
    | refine DL.w_pure ?_ | refine DL.w_dq ?_ | refine DL.w_imR ?_ | refine DL.w_imD ?_ | refine DL.w_fl ?_ | refine DL.w_bin ?_ | refine DL.w_cmp ?_ | refine DL.w_rev ?_ | refine DL.w_cat ?_ | refine DL.w_chain ?_ | refine DL.w_dtB ?_ | refine DL.w_dtru ?_
    | refine DL.w_frzI (by with_unfolding_all rfl) ?_ | refine DL.w_vwI (by with_unfolding_all rfl) ?_ | refine DL.w_owO (by with_unfolding_all rfl) ?_ | refine DL.w_varI (by with_unfolding_all rfl) ?_ | refine DL.w_varL (by with_unfolding_all rfl) ?_ | refine DL.w_varT (by with_unfolding_all rfl) ?_
    | refine DL.w_vwO (by with_unfolding_all rfl) ?_ | (refine DL.w_frzO (by with_unfolding_all rfl) ?_; simp only [List.set_cons_succ, List.set_cons_zero, DL.O.flat])
    | refine DL.w_dcons ?_ | refine DL.w_dconsV ?_ | refine DL.w_darcons ?_ | (refine DL.w_dtup ?_) | refine DL.w_dlst ?_ | refine DL.w_dixO ?_ | refine DL.w_sq ?_ | refine DL.w_dixX ?_ | refine DL.w_listX ?_ | refine DL.w_sorted ?_ | refine DL.w_un ?_ | refine DL.w_sqC ?_ | refine DL.w_forC ?_ | refine DL.op_fldI (by with_unfolding_all rfl) ?_ | refine DL.w_rg ?_ | refine DL.w_rvO ?_ | refine DL.w_dslice ?_ | refine DL.w_dtmc ?_ | refine DL.w_dtupN ?_ | refine DL.w_dlist ?_ | refine DL.w_dtuple ?_ | refine DL.w_tupV ?_ | refine DL.w_listV ?_
    | refine DL.w_bind ?_ | refine DL.w_lift ?_ | refine DL.w_frz ?_ | refine DL.w_vw ?_ | refine DL.w_ow ?_
    | refine DL.w_dand ?_ | refine DL.w_dor ?_ | refine DL.w_dnot ?_ | refine DL.w_dandV ?_ | refine DL.w_dorV ?_ | refine DL.w_dnotV ?_ | refine DL.w_dif ?_
    | refine DL.frzP_im ?_ | refine DL.frzP_new ?_ | refine DL.vwP_im ?_ | refine DL.vwP_new ?_ | refine DL.vwP_bor ?_ | refine DL.owP_im ?_ | refine DL.owP_new ?_ | refine DL.owP_bor ?_
    | (refine DL.setP_im (by with_unfolding_all first | rfl | exact DL.fo_free rfl) ?_; simp only [List.set_cons_succ, List.set_cons_zero, DL.O.flat]) | (refine DL.setP_new (by with_unfolding_all first | rfl | exact DL.fo_free rfl) ?_; simp only [List.set_cons_succ, List.set_cons_zero, DL.O.flat])
    | refine DL.argP_im ?_ | refine DL.argP_new ?_ | refine DL.argP_bor ?_ | refine DL.rvP_im ?_ | refine DL.rvP_new ?_ | refine DL.mvP_im ?_ | refine DL.mvP_new ?_ | (refine DL.mvP_bor (by with_unfolding_all rfl) ?_; simp only [List.set_cons_succ, List.set_cons_zero]) | refine DL.itP_im ?_ | refine DL.itP_new ?_ | refine DL.tuP_lst ?_ | refine DL.blP_of ?_
    | refine DL.op_rng (by with_unfolding_all decide) ?_ | refine DL.op_rngG ?_ | refine DL.op_isiII ?_ | refine DL.op_isiIB ?_ | refine DL.op_isiTT ?_ | refine DL.op_isiLL ?_
    | refine DL.op_eq ?_ | refine DL.op_ne ?_ | refine DL.br_t ?_ | refine DL.br_f ?_ | refine DL.br_not ?_ | refine DL.br_eqT (by with_unfolding_all rfl) ?_ | refine DL.br_eqF (by with_unfolding_all rfl) ?_
    | refine DL.op_mod (by with_unfolding_all decide) ?_ | refine DL.op_div (by with_unfolding_all decide) ?_ | refine DL.op_mul (DL.mul_r (by with_unfolding_all decide)) ?_ | refine DL.op_mul (DL.mul_l (by with_unfolding_all decide)) ?_ | refine DL.op_pow (by with_unfolding_all decide) ?_
    | refine DL.w_seq ?_ | refine DL.w_next ?_ | refine DL.w_if ?_ | refine DL.w_match ?_ | refine DL.pickP_of (by with_unfolding_all decide) ?_ | refine DL.sp_t ?_ | refine DL.sp_f (by with_unfolding_all decide) ?_ | refine DL.sp_n ?_ | refine DL.w_rt ?_ | refine DL.w_set ?_ | refine DL.w_drop ?_ | refine DL.w_app (by with_unfolding_all rfl) ?_ | (refine DL.appP_of (by with_unfolding_all rfl) (by first | assumption | with_unfolding_all exact Nat.le_of_ble_eq_true rfl | (simp only [List.length_append, List.length_map, List.length_cons, List.length_nil]; omega)) ?_; simp only [List.set_cons_succ, List.set_cons_zero, DL.O.flat]) | refine DL.w_forP ?_ | refine DL.w_sforv (by with_unfolding_all rfl) (by with_unfolding_all rfl) ?_ | refine DL.w_asg ?_ | refine DL.w_forV ?_ | refine DL.sqt_if ?_ | refine DL.sqt_rt ?_ | refine DL.sqt_next ?_
    | refine DL.sz (by with_unfolding_all exact Nat.le_of_ble_eq_true rfl) ?_
    | refine DL.outI_im (by with_unfolding_all exact Nat.le_of_ble_eq_true rfl) ?_ | refine DL.outI_new (by with_unfolding_all exact Nat.le_of_ble_eq_true rfl) ?_ | refine DL.outI_bor (by with_unfolding_all exact Nat.le_of_ble_eq_true rfl) (by with_unfolding_all rfl) ?_
    | exact DL.us_next | exact DL.us_bk | exact DL.us_ct | exact DL.us_rtN | refine DL.us_seq ?_ ?_ | refine DL.us_if ?_ ?_ ?_ | refine DL.us_rt ?_ | refine DL.us_drop ?_ | refine DL.us_setI (by decide) ?_
    | exact DL.ud_pure | exact DL.ud_lift | exact DL.ud_xf | exact DL.ud_xi | exact DL.ud_var (by decide) | exact DL.ud_frz (by decide)
    | refine DL.ud_imR ?_ | refine DL.ud_vw ?_ | refine DL.ud_dtup ?_ | refine DL.ud_dlst ?_ | refine DL.ud_dcons ?_ ?_ | refine DL.ud_dconsV ?_ ?_ | refine DL.ud_dbin ?_ ?_ | refine DL.ud_dcmp ?_ ?_ | refine DL.ud_dtB ?_ | refine DL.ud_dtru ?_
    | refine DL.ud_dnot ?_ | refine DL.ud_dand ?_ ?_ | refine DL.ud_dor ?_ ?_ | refine DL.ud_dnotV ?_ | refine DL.ud_dandV ?_ ?_ | refine DL.ud_dorV ?_ ?_ | refine DL.ud_dif ?_ ?_ ?_ | refine DL.ud_imD ?_ | refine DL.ud_fl ?_ | refine DL.ud_dixO ?_ ?_ | refine DL.ud_dixX ?_ ?_ | exact DL.ud_ow (by decide) | exact DL.ud_meth0 (by decide) | (refine DL.ud_bind ?_ fun _ => ?_)
    | refine DL.w_op (by with_unfolding_all rfl) ?_ | rfl)

abbrev tabD (t : List (Int × Kd)) : D := dcD D.int kdD t
theorem sumZ (k : Kd) : (1 : Int) + ((kids k).map fun a => (ksz a : Int)).sum = (ksz k : Int) := by
  cases k <;> simp [kids, ksz]
theorem kids_le (k : Kd) : (kids k).length ≤ sizeLine := by
  cases k <;> (simp only [kids, List.length_cons, List.length_nil]; decide)
theorem replace_ok {t : List (Int × Kd)} : ∀ (k : Kd) (j : Nat), dp k < j → FI (f_replace j) [kdD k, tabD t] (· = .im (kdD (put t k)))
  | k, 0, h => absurd h (Nat.not_lt_zero _)
  | .any n, j + 1, h => by
    refine w_fi ?_
    unfold d_replace
    show SW _ [some (false, .im _), some (false, .im _), none] _
    simp only [kdD]
    trivial
    refine w_getX ?_
    trivial
    refine ⟨rfl, ?_⟩
    trivial
    refine w_op (getF kg_int t n _) ?_
    trivial
    show FRv.im (((getA t n).map kdD).getD (kdD (.any n))) = FRv.im (kdD ((getA t n).getD (.any n)))
    cases getA t n <;> rfl
  | .int, j + 1, h => by
    refine w_fi ?_
    unfold d_replace
    show SW _ [some (false, .im _), some (false, .im _), none] _
    simp only [kdD]
    trivial
    refine w_compM [] kdD (fun a => O.im (kdD (put t a))) ?_
    trivial
    refine w_callI (ds := [_]) (inner_ok (.int)) rfl ?_
    trivial
    refine ⟨rfl, ⟨rfl, rfl⟩, by show 0 ≤ sizeLine; decide, fun x hx => ?_, ?_⟩
    · refine ⟨_, rfl, ?_⟩
      trivial
      cases hx
    · trivial
      rfl
  | .bool, j + 1, h => by
    refine w_fi ?_
    unfold d_replace
    show SW _ [some (false, .im _), some (false, .im _), none] _
    simp only [kdD]
    trivial
    refine w_compM [] kdD (fun a => O.im (kdD (put t a))) ?_
    trivial
    refine w_callI (ds := [_]) (inner_ok (.bool)) rfl ?_
    trivial
    refine ⟨rfl, ⟨rfl, rfl⟩, by show 0 ≤ sizeLine; decide, fun x hx => ?_, ?_⟩
    · refine ⟨_, rfl, ?_⟩
      trivial
      cases hx
    · trivial
      rfl
  | .out, j + 1, h => by
    refine w_fi ?_
    unfold d_replace
    show SW _ [some (false, .im _), some (false, .im _), none] _
    simp only [kdD]
    trivial
    refine w_compM [] kdD (fun a => O.im (kdD (put t a))) ?_
    trivial
    refine w_callI (ds := [_]) (inner_ok (.out)) rfl ?_
    trivial
    refine ⟨rfl, ⟨rfl, rfl⟩, by show 0 ≤ sizeLine; decide, fun x hx => ?_, ?_⟩
    · refine ⟨_, rfl, ?_⟩
      trivial
      cases hx
    · trivial
      rfl
  | .list a, j + 1, h => by
    have iha := replace_ok (t := t) a j (by have : dp a + 1 < j + 1 := h; omega)
    refine w_fi ?_
    unfold d_replace
    show SW _ [some (false, .im _), some (false, .im _), none] _
    simp only [kdD]
    trivial
    refine w_compM [a] kdD (fun a => O.im (kdD (put t a))) ?_
    trivial
    refine w_callI (ds := [_]) (inner_ok (.list a)) rfl ?_
    trivial
    refine ⟨rfl, ⟨rfl, rfl⟩, by show 1 ≤ sizeLine; decide, fun x hx => ?_, ?_⟩
    · refine ⟨_, rfl, ?_⟩
      trivial
      rcases List.mem_cons.mp hx with rfl | hx
      · refine w_callI (ds := [_, _]) iha rfl ?_
        trivial
        exact ⟨rfl, rfl⟩
      cases hx
    · trivial
      rfl
  | .pair a b, j + 1, h => by
    have iha := replace_ok (t := t) a j (by have : max (dp a) (dp b) + 1 < j + 1 := h; omega)
    have ihb := replace_ok (t := t) b j (by have : max (dp a) (dp b) + 1 < j + 1 := h; omega)
    refine w_fi ?_
    unfold d_replace
    show SW _ [some (false, .im _), some (false, .im _), none] _
    simp only [kdD]
    trivial
    refine w_compM [a, b] kdD (fun a => O.im (kdD (put t a))) ?_
    trivial
    refine w_callI (ds := [_]) (inner_ok (.pair a b)) rfl ?_
    trivial
    refine ⟨rfl, ⟨rfl, rfl⟩, by show 2 ≤ sizeLine; decide, fun x hx => ?_, ?_⟩
    · refine ⟨_, rfl, ?_⟩
      trivial
      rcases List.mem_cons.mp hx with rfl | hx
      · refine w_callI (ds := [_, _]) iha rfl ?_
        trivial
        exact ⟨rfl, rfl⟩
      rcases List.mem_cons.mp hx with rfl | hx
      · refine w_callI (ds := [_, _]) ihb rfl ?_
        trivial
        exact ⟨rfl, rfl⟩
      cases hx
    · trivial
      rfl
theorem size_ok : ∀ (j : Nat) (k : Kd), dp k < j → FI (f_kind_size j) [kdD k] (· = .im (.int (ksz k)))
  | 0, k, h => absurd h (Nat.not_lt_zero _)
  | j + 1, k, h => by
    refine w_fi ?_
    unfold d_kind_size
    show SW _ [some (false, .im _), none] _
    trivial
    refine w_compM (kids k) kdD (fun a => O.im (.int (ksz a : Int))) ?_
    trivial
    refine w_callI (ds := [_]) (inner_ok k) rfl ?_
    trivial
    refine ⟨rfl, ⟨rfl, rfl⟩, kids_le k, fun x hx => ?_, ?_⟩
    · refine ⟨_, rfl, ?_⟩
      trivial
      refine w_callI (ds := [_]) (size_ok j x (by have := kids_dp hx; omega)) rfl ?_
      trivial
      exact ⟨rfl, rfl⟩
    · trivial
      rw [flat_map (g := fun a : Kd => D.int (ksz a : Int)), show (kids k).map (fun a : Kd => D.int (ksz a : Int)) = ((kids k).map fun a : Kd => (ksz a : Int)).map D.int from by rw [List.map_map]; rfl]
      refine op_sum ?_
      trivial
      rw [sumZ]
theorem lsize_ok : ∀ (j : Nat) (k : Kd), dp k < j → FI (f__law_size j) [kdD k] (· = .im (.int (ksz k)))
  | 0, k, h => absurd h (Nat.not_lt_zero _)
  | j + 1, k, h => by
    refine w_fi ?_
    unfold d__law_size
    show SW _ [some (false, .im _), none] _
    trivial
    refine w_compM (kids k) kdD (fun a => O.im (.int (ksz a : Int))) ?_
    trivial
    refine w_call (ds := [_]) (linner_ok k) rfl ?_
    rintro v rfl
    dsimp only [rvF]
    trivial
    refine ⟨by rw [flats_map (g := kdD)], ⟨rfl, rfl⟩, kids_le k, fun x hx => ?_, ?_⟩
    · refine ⟨_, rfl, ?_⟩
      trivial
      refine w_callI (ds := [_]) (lsize_ok j x (by have := kids_dp hx; omega)) rfl ?_
      trivial
      exact ⟨rfl, rfl⟩
    · trivial
      rw [flat_map (g := fun a : Kd => D.int (ksz a : Int)), show (kids k).map (fun a : Kd => D.int (ksz a : Int)) = ((kids k).map fun a : Kd => (ksz a : Int)).map D.int from by rw [List.map_map]; rfl]
      refine op_sum ?_
      trivial
      rw [sumZ]
end K14

namespace K14
open PySem DL TOK NTN KND
local macro_rules
  | `(tactic| trivial) => `(tactic| repeat' with_reducible first
    | refine DL.w_pure ?_ | refine DL.w_dq ?_ | refine DL.w_imR ?_ | refine DL.w_imD ?_ | refine DL.w_fl ?_ | refine DL.w_bin ?_ | refine DL.w_cmp ?_ | refine DL.w_rev ?_ | refine DL.w_cat ?_ | refine DL.w_chain ?_ | refine DL.w_dtB ?_ | refine DL.w_dtru ?_
    | refine DL.w_frzI (by with_unfolding_all rfl) ?_ | refine DL.w_vwI (by with_unfolding_all rfl) ?_ | refine DL.w_owO (by with_unfolding_all rfl) ?_ | refine DL.w_varI (by with_unfolding_all rfl) ?_ | refine DL.w_varL (by with_unfolding_all rfl) ?_ | refine DL.w_varT (by with_unfolding_all rfl) ?_
    | refine DL.w_vwO (by with_unfolding_all rfl) ?_ | (refine DL.w_frzO (by with_unfolding_all rfl) ?_; simp only [List.set_cons_succ, List.set_cons_zero, DL.O.flat])
    | refine DL.w_dcons ?_ | refine DL.w_dconsV ?_ | refine DL.w_darcons ?_ | (refine DL.w_dtup ?_) | refine DL.w_dlst ?_ | refine DL.w_dixO ?_ | refine DL.w_sq ?_ | refine DL.w_dixX ?_ | refine DL.w_listX ?_ | refine DL.w_sorted ?_ | refine DL.w_un ?_ | refine DL.w_sqC ?_ | refine DL.w_forC ?_ | refine DL.op_fldI (by with_unfolding_all rfl) ?_ | refine DL.w_rg ?_ | refine DL.w_rvO ?_ | refine DL.w_dslice ?_ | refine DL.w_dtmc ?_ | refine DL.w_dtupN ?_ | refine DL.w_dlist ?_ | refine DL.w_dtuple ?_ | refine DL.w_tupV ?_ | refine DL.w_listV ?_
    | refine DL.w_bind ?_ | refine DL.w_lift ?_ | refine DL.w_frz ?_ | refine DL.w_vw ?_ | refine DL.w_ow ?_
    | refine DL.w_dand ?_ | refine DL.w_dor ?_ | refine DL.w_dnot ?_ | refine DL.w_dandV ?_ | refine DL.w_dorV ?_ | refine DL.w_dnotV ?_ | refine DL.w_dif ?_
    | refine DL.frzP_im ?_ | refine DL.frzP_new ?_ | refine DL.vwP_im ?_ | refine DL.vwP_new ?_ | refine DL.vwP_bor ?_ | refine DL.owP_im ?_ | refine DL.owP_new ?_ | refine DL.owP_bor ?_
    | (refine DL.setP_im (by with_unfolding_all first | rfl | exact DL.fo_free rfl) ?_; simp only [List.set_cons_succ, List.set_cons_zero, DL.O.flat]) | (refine DL.setP_new (by with_unfolding_all first | rfl | exact DL.fo_free rfl) ?_; simp only [List.set_cons_succ, List.set_cons_zero, DL.O.flat])
    | refine DL.argP_im ?_ | refine DL.argP_new ?_ | refine DL.argP_bor ?_ | refine DL.rvP_im ?_ | refine DL.rvP_new ?_ | refine DL.mvP_im ?_ | refine DL.mvP_new ?_ | (refine DL.mvP_bor (by with_unfolding_all rfl) ?_; simp only [List.set_cons_succ, List.set_cons_zero]) | refine DL.itP_im ?_ | refine DL.itP_new ?_ | refine DL.tuP_lst ?_ | refine DL.blP_of ?_
    | refine DL.op_rng (by with_unfolding_all decide) ?_ | refine DL.op_rngG ?_ | refine DL.op_isiII ?_ | refine DL.op_isiIB ?_ | refine DL.op_isiTT ?_ | refine DL.op_isiLL ?_
    | refine DL.op_eq ?_ | refine DL.op_ne ?_ | refine DL.br_t ?_ | refine DL.br_f ?_ | refine DL.br_not ?_ | refine DL.br_eqT (by with_unfolding_all rfl) ?_ | refine DL.br_eqF (by with_unfolding_all rfl) ?_
    | refine DL.op_mod (by with_unfolding_all decide) ?_ | refine DL.op_div (by with_unfolding_all decide) ?_ | refine DL.op_mul (DL.mul_r (by with_unfolding_all decide)) ?_ | refine DL.op_mul (DL.mul_l (by with_unfolding_all decide)) ?_ | refine DL.op_pow (by with_unfolding_all decide) ?_
    | refine DL.w_seq ?_ | refine DL.w_next ?_ | refine DL.w_if ?_ | refine DL.w_match ?_ | refine DL.pickP_of (by with_unfolding_all decide) ?_ | refine DL.sp_t ?_ | refine DL.sp_f (by with_unfolding_all decide) ?_ | refine DL.sp_n ?_ | refine DL.w_rt ?_ | refine DL.w_set ?_ | refine DL.w_drop ?_ | refine DL.w_app (by with_unfolding_all rfl) ?_ | (refine DL.appP_of (by with_unfolding_all rfl) (by first | assumption | with_unfolding_all exact Nat.le_of_ble_eq_true rfl | (simp only [List.length_append, List.length_map, List.length_cons, List.length_nil]; omega)) ?_; simp only [List.set_cons_succ, List.set_cons_zero, DL.O.flat]) | refine DL.w_forP ?_ | refine DL.w_sforv (by with_unfolding_all rfl) (by with_unfolding_all rfl) ?_ | refine DL.w_asg ?_ | refine DL.w_forV ?_ | refine DL.sqt_if ?_ | refine DL.sqt_rt ?_ | refine DL.sqt_next ?_
    | refine DL.sz (by with_unfolding_all exact Nat.le_of_ble_eq_true rfl) ?_
    | refine DL.outI_im (by with_unfolding_all exact Nat.le_of_ble_eq_true rfl) ?_ | refine DL.outI_new (by with_unfolding_all exact Nat.le_of_ble_eq_true rfl) ?_ | refine DL.outI_bor (by with_unfolding_all exact Nat.le_of_ble_eq_true rfl) (by with_unfolding_all rfl) ?_
    | exact DL.us_next | exact DL.us_bk | exact DL.us_ct | exact DL.us_rtN | refine DL.us_seq ?_ ?_ | refine DL.us_if ?_ ?_ ?_ | refine DL.us_rt ?_ | refine DL.us_drop ?_ | refine DL.us_setI (by decide) ?_
    | exact DL.ud_pure | exact DL.ud_lift | exact DL.ud_xf | exact DL.ud_xi | exact DL.ud_var (by decide) | exact DL.ud_frz (by decide)
    | refine DL.ud_imR ?_ | refine DL.ud_vw ?_ | refine DL.ud_dtup ?_ | refine DL.ud_dlst ?_ | refine DL.ud_dcons ?_ ?_ | refine DL.ud_dconsV ?_ ?_ | refine DL.ud_dbin ?_ ?_ | refine DL.ud_dcmp ?_ ?_ | refine DL.ud_dtB ?_ | refine DL.ud_dtru ?_
    | refine DL.ud_dnot ?_ | refine DL.ud_dand ?_ ?_ | refine DL.ud_dor ?_ ?_ | refine DL.ud_dnotV ?_ | refine DL.ud_dandV ?_ ?_ | refine DL.ud_dorV ?_ ?_ | refine DL.ud_dif ?_ ?_ ?_ | refine DL.ud_imD ?_ | refine DL.ud_fl ?_ | refine DL.ud_dixO ?_ ?_ | refine DL.ud_dixX ?_ ?_ | exact DL.ud_ow (by decide) | exact DL.ud_meth0 (by decide) | (refine DL.ud_bind ?_ fun _ => ?_)
    | refine DL.w_op (by with_unfolding_all rfl) ?_ | rfl)

theorem op_strI {k : Int} {P : D → Prop} (h : k.natAbs < 10 ^ 60) (p : P (.str (S (tx k)))) : OP (strD [.int k]) P :=
  ⟨.str (S (tx k)), by
    have hl : k.natAbs.log2 < 1920 := by
      by_cases h0 : k.natAbs = 0
      · rw [h0]; decide
      · exact (Nat.log2_lt h0).mpr (Nat.lt_of_lt_of_le h (by decide))
    show (if k.natAbs.log2 < 1920 then some (D.str (Str.ofString (toString k))) else none) = _
    rw [if_pos hl, tx_str], p⟩
theorem op_cat {l m : List Nat} {P : D → Prop} (h : l.length + m.length ≤ 1000000) (p : P (.str (S (l ++ m)))) : OP (addD (.str (S l)) (.str (S m))) P :=
  ⟨_, by
    show (if (S l).length + (S m).length ≤ sizeLine then some (D.str (S l ++ S m)) else none) = _
    rw [S_len, S_len, if_pos (Nat.le_trans h (by decide)), S_app], p⟩
theorem op_catZ {a b : Str} {l m : List Nat} {P : D → Prop} (ha : a = S l) (hb : b = S m) (h : l.length + m.length ≤ 1000000) (p : P (.str (S (l ++ m)))) : OP (addD (.str a) (.str b)) P := by
  subst ha hb
  exact op_cat h p
theorem join_K (l : List Kd) : Txt.join (Str.ofString ", ") (l.map fun a => S (fmt a)) = S (TL.joinL [44, 32] (l.map fmt)) := by
  refine TL.ext_tl ?_
  rw [TL.join_eq, TL.tl_join, List.map_map]
  rw [show TL.tl (Str.ofString ", ") = [44, 32] by decide +kernel]
  congr 1
theorem nok_abs {n : Int} (h : 0 ≤ n ∧ n ≤ 1000000) : n.natAbs < 10 ^ 60 := Nat.lt_of_le_of_lt (show n.natAbs ≤ 1000000 by omega) (by decide)
theorem nok_kids {k a : Kd} (h : nok k) (ha : a ∈ kids k) : nok a := by
  cases k with
  | list b => rw [List.mem_singleton.mp ha]; exact h
  | pair b c =>
    have ha : a ∈ [b, c] := ha
    rcases List.mem_cons.mp ha with rfl | ha
    · exact h.1
    · rw [List.mem_singleton.mp ha]; exact h.2
  | _ => cases ha
theorem ksz_kids {k a : Kd} (ha : a ∈ kids k) : ksz a ≤ ksz k := by
  cases k with
  | list b => rw [List.mem_singleton.mp ha]; show ksz b ≤ 1 + ksz b; omega
  | pair b c =>
    have ha : a ∈ [b, c] := ha
    rcases List.mem_cons.mp ha with rfl | ha
    · show ksz a ≤ 1 + (ksz a + ksz c); omega
    · rw [List.mem_singleton.mp ha]; show ksz c ≤ 1 + (ksz b + ksz c); omega
  | _ => cases ha
theorem fmt_sum {k : Kd} (h : nok k) (hz : ksz k ≤ 10000) : (((kids k).map fun a => S (fmt a)).map (·.length)).sum + ((kids k).map fun a => S (fmt a)).length * (Str.ofString ", ").length ≤ 16777216 := by
  have e : (Str.ofString ", ").length = 2 := by decide +kernel
  rw [e]
  cases k with
  | list b =>
    have := fmt_len (k := b) h
    have hz : 1 + ksz b ≤ 10000 := hz
    show (S (fmt b)).length + 0 + 1 * 2 ≤ _
    rw [S_len]
    omega
  | pair b c =>
    have h1 := fmt_len (k := b) h.1
    have h2 := fmt_len (k := c) h.2
    have hz : 1 + (ksz b + ksz c) ≤ 10000 := hz
    show (S (fmt b)).length + ((S (fmt c)).length + 0) + 2 * 2 ≤ _
    rw [S_len, S_len]
    omega
  | _ => exact Nat.zero_le _
theorem format_ok : ∀ (j : Nat) (k : Kd), nok k → ksz k ≤ 10000 → dp k < j → FI (f_format_kind j) [kdD k] (· = .im (.str (S (fmt k))))
  | 0, k, _, _, h => absurd h (Nat.not_lt_zero _)
  | j + 1, .any n, hn, hz, h => by
    refine w_fi ?_
    unfold d_format_kind
    show SW _ [some (false, .im _), none, none] _
    simp only [kdD]
    trivial
    refine op_strI (nok_abs hn) ?_
    have tl := tx_len (nok_abs hn)
    trivial
    refine op_catZ (l := [97, 110, 121]) (by decide +kernel) rfl (by show 3 + _ ≤ _; omega) ?_
    trivial
    rfl
  | j + 1, .int, hn, hz, h => by
    have ih := fun x hx => format_ok j x (nok_kids (k := .int) hn hx) (Nat.le_trans (ksz_kids (k := .int) hx) hz) (by have := kids_dp hx; omega)
    refine w_fi ?_
    unfold d_format_kind
    show SW _ [some (false, .im _), none, none] _
    simp only [kdD]
    trivial
    refine w_join (a := Str.ofString ", ") ?_
    trivial
    refine ⟨rfl, ?_⟩
    trivial
    refine w_compM (kids (.int)) kdD (fun a => O.im (.str (S (fmt a)))) ?_
    trivial
    refine w_callI (ds := [_]) (inner_ok (.int)) rfl ?_
    trivial
    refine ⟨rfl, ⟨rfl, rfl⟩, kids_le _, fun x hx => ?_, ?_⟩
    · refine ⟨_, rfl, ?_⟩
      trivial
      refine w_callI (ds := [_]) (ih x hx) rfl ?_
      trivial
      exact ⟨rfl, rfl⟩
    trivial
    rw [show Str.ofString "int" = S (fmt .int) by decide +kernel]
  | j + 1, .bool, hn, hz, h => by
    have ih := fun x hx => format_ok j x (nok_kids (k := .bool) hn hx) (Nat.le_trans (ksz_kids (k := .bool) hx) hz) (by have := kids_dp hx; omega)
    refine w_fi ?_
    unfold d_format_kind
    show SW _ [some (false, .im _), none, none] _
    simp only [kdD]
    trivial
    refine w_join (a := Str.ofString ", ") ?_
    trivial
    refine ⟨rfl, ?_⟩
    trivial
    refine w_compM (kids (.bool)) kdD (fun a => O.im (.str (S (fmt a)))) ?_
    trivial
    refine w_callI (ds := [_]) (inner_ok (.bool)) rfl ?_
    trivial
    refine ⟨rfl, ⟨rfl, rfl⟩, kids_le _, fun x hx => ?_, ?_⟩
    · refine ⟨_, rfl, ?_⟩
      trivial
      refine w_callI (ds := [_]) (ih x hx) rfl ?_
      trivial
      exact ⟨rfl, rfl⟩
    trivial
    rw [show Str.ofString "bool" = S (fmt .bool) by decide +kernel]
  | j + 1, .out, hn, hz, h => by
    have ih := fun x hx => format_ok j x (nok_kids (k := .out) hn hx) (Nat.le_trans (ksz_kids (k := .out) hx) hz) (by have := kids_dp hx; omega)
    refine w_fi ?_
    unfold d_format_kind
    show SW _ [some (false, .im _), none, none] _
    simp only [kdD]
    trivial
    refine w_join (a := Str.ofString ", ") ?_
    trivial
    refine ⟨rfl, ?_⟩
    trivial
    refine w_compM (kids (.out)) kdD (fun a => O.im (.str (S (fmt a)))) ?_
    trivial
    refine w_callI (ds := [_]) (inner_ok (.out)) rfl ?_
    trivial
    refine ⟨rfl, ⟨rfl, rfl⟩, kids_le _, fun x hx => ?_, ?_⟩
    · refine ⟨_, rfl, ?_⟩
      trivial
      refine w_callI (ds := [_]) (ih x hx) rfl ?_
      trivial
      exact ⟨rfl, rfl⟩
    trivial
    rw [show Str.ofString "output" = S (fmt .out) by decide +kernel]
  | j + 1, .list a, hn, hz, h => by
    have ih := fun x hx => format_ok j x (nok_kids (k := .list a) hn hx) (Nat.le_trans (ksz_kids (k := .list a) hx) hz) (by have := kids_dp hx; omega)
    have la := fmt_len (k := a) hn
    have hz2 : 1 + ksz a ≤ 10000 := hz
    refine w_fi ?_
    unfold d_format_kind
    show SW _ [some (false, .im _), none, none] _
    simp only [kdD]
    trivial
    refine w_join (a := Str.ofString ", ") ?_
    trivial
    refine ⟨rfl, ?_⟩
    trivial
    refine w_compM (kids (.list a)) kdD (fun a => O.im (.str (S (fmt a)))) ?_
    trivial
    refine w_callI (ds := [_]) (inner_ok (.list a)) rfl ?_
    trivial
    refine ⟨rfl, ⟨rfl, rfl⟩, kids_le _, fun x hx => ?_, ?_⟩
    · refine ⟨_, rfl, ?_⟩
      trivial
      refine w_callI (ds := [_]) (ih x hx) rfl ?_
      trivial
      exact ⟨rfl, rfl⟩
    trivial
    rw [flat_map (g := fun a : Kd => D.str (S (fmt a)))]
    refine op_join (g := fun a : Kd => S (fmt a)) (l := kids (.list a)) (fmt_sum hn hz) ?_
    rw [join_K, show S (TL.joinL [44, 32] ((kids (.list a)).map fmt)) = S (fmt a) from rfl]
    trivial
    refine op_catZ (l := [91]) (by decide +kernel) rfl (by show 1 + _ ≤ _; omega) ?_
    trivial
    refine op_catZ (m := [93]) rfl (by decide +kernel) (by rw [List.length_append]; show 1 + _ + 1 ≤ _; omega) ?_
    trivial
    rfl
  | j + 1, .pair a b, hn, hz, h => by
    have ih := fun x hx => format_ok j x (nok_kids (k := .pair a b) hn hx) (Nat.le_trans (ksz_kids (k := .pair a b) hx) hz) (by have := kids_dp hx; omega)
    have la := fmt_len (k := a) hn.1
    have lb := fmt_len (k := b) hn.2
    have hz2 : 1 + (ksz a + ksz b) ≤ 10000 := hz
    refine w_fi ?_
    unfold d_format_kind
    show SW _ [some (false, .im _), none, none] _
    simp only [kdD]
    trivial
    refine w_join (a := Str.ofString ", ") ?_
    trivial
    refine ⟨rfl, ?_⟩
    trivial
    refine w_compM (kids (.pair a b)) kdD (fun a => O.im (.str (S (fmt a)))) ?_
    trivial
    refine w_callI (ds := [_]) (inner_ok (.pair a b)) rfl ?_
    trivial
    refine ⟨rfl, ⟨rfl, rfl⟩, kids_le _, fun x hx => ?_, ?_⟩
    · refine ⟨_, rfl, ?_⟩
      trivial
      refine w_callI (ds := [_]) (ih x hx) rfl ?_
      trivial
      exact ⟨rfl, rfl⟩
    trivial
    rw [flat_map (g := fun a : Kd => D.str (S (fmt a)))]
    refine op_join (g := fun a : Kd => S (fmt a)) (l := kids (.pair a b)) (fmt_sum hn hz) ?_
    rw [join_K, show S (TL.joinL [44, 32] ((kids (.pair a b)).map fmt)) = S (fmt a ++ ([44, 32] ++ fmt b)) from rfl]
    trivial
    refine op_catZ (l := [40]) (by decide +kernel) rfl (by rw [List.length_append, List.length_append]; show 1 + (_ + (2 + _)) ≤ _; omega) ?_
    trivial
    refine op_catZ (m := [41]) rfl (by decide +kernel) (by rw [List.length_append, List.length_append, List.length_append]; show 1 + (_ + (2 + _)) + 1 ≤ _; omega) ?_
    trivial
    show FRv.im (.str (S ([40] ++ (fmt a ++ ([44, 32] ++ fmt b)) ++ [41]))) = FRv.im (.str (S ([40] ++ fmt a ++ [44, 32] ++ fmt b ++ [41])))
    simp only [List.append_assoc]
theorem lformat_ok : ∀ (j : Nat) (k : Kd), nok k → ksz k ≤ 10000 → dp k < j → FI (f__law_format j) [kdD k] (· = .im (.str (S (fmt k))))
  | 0, k, _, _, h => absurd h (Nat.not_lt_zero _)
  | j + 1, .any n, hn, hz, h => by
    refine w_fi ?_
    unfold d__law_format
    show SW _ [some (false, .im _)] _
    simp only [kdD]
    trivial
    refine op_strI (nok_abs hn) ?_
    have tl := tx_len (nok_abs hn)
    trivial
    refine op_catZ (l := [97, 110, 121]) (by decide +kernel) rfl (by show 3 + _ ≤ _; omega) ?_
    trivial
    rfl
  | j + 1, .int, hn, hz, h => by
    have ih := fun x hx => lformat_ok j x (nok_kids (k := .int) hn hx) (Nat.le_trans (ksz_kids (k := .int) hx) hz) (by have := kids_dp hx; omega)
    refine w_fi ?_
    unfold d__law_format
    show SW _ [some (false, .im _)] _
    simp only [kdD]
    trivial
    rw [show Str.ofString "int" = S (fmt .int) by decide +kernel]
  | j + 1, .bool, hn, hz, h => by
    have ih := fun x hx => lformat_ok j x (nok_kids (k := .bool) hn hx) (Nat.le_trans (ksz_kids (k := .bool) hx) hz) (by have := kids_dp hx; omega)
    refine w_fi ?_
    unfold d__law_format
    show SW _ [some (false, .im _)] _
    simp only [kdD]
    trivial
    rw [show Str.ofString "bool" = S (fmt .bool) by decide +kernel]
  | j + 1, .out, hn, hz, h => by
    have ih := fun x hx => lformat_ok j x (nok_kids (k := .out) hn hx) (Nat.le_trans (ksz_kids (k := .out) hx) hz) (by have := kids_dp hx; omega)
    refine w_fi ?_
    unfold d__law_format
    show SW _ [some (false, .im _)] _
    simp only [kdD]
    trivial
    rw [show Str.ofString "output" = S (fmt .out) by decide +kernel]
  | j + 1, .list a, hn, hz, h => by
    have ih := fun x hx => lformat_ok j x (nok_kids (k := .list a) hn hx) (Nat.le_trans (ksz_kids (k := .list a) hx) hz) (by have := kids_dp hx; omega)
    have la := fmt_len (k := a) hn
    have hz2 : 1 + ksz a ≤ 10000 := hz
    refine w_fi ?_
    unfold d__law_format
    show SW _ [some (false, .im _)] _
    simp only [kdD]
    trivial
    refine w_callI (ds := [_]) (ih a (by simp [kids])) rfl ?_
    trivial
    refine op_catZ (l := [91]) (by decide +kernel) rfl (by show 1 + _ ≤ _; omega) ?_
    trivial
    refine op_catZ (m := [93]) rfl (by decide +kernel) (by rw [List.length_append]; show 1 + _ + 1 ≤ _; omega) ?_
    trivial
    rfl
  | j + 1, .pair a b, hn, hz, h => by
    have ih := fun x hx => lformat_ok j x (nok_kids (k := .pair a b) hn hx) (Nat.le_trans (ksz_kids (k := .pair a b) hx) hz) (by have := kids_dp hx; omega)
    have la := fmt_len (k := a) hn.1
    have lb := fmt_len (k := b) hn.2
    have hz2 : 1 + (ksz a + ksz b) ≤ 10000 := hz
    refine w_fi ?_
    unfold d__law_format
    show SW _ [some (false, .im _)] _
    simp only [kdD]
    trivial
    refine w_callI (ds := [_]) (ih a (by simp [kids])) rfl ?_
    trivial
    refine op_catZ (l := [40]) (by decide +kernel) rfl (by show 1 + _ ≤ _; omega) ?_
    trivial
    refine op_catZ (m := [44, 32]) rfl (by decide +kernel) (by rw [List.length_append]; show 1 + _ + 2 ≤ _; omega) ?_
    trivial
    refine w_callI (ds := [_]) (ih b (by simp [kids])) rfl ?_
    trivial
    refine op_cat (by rw [List.length_append, List.length_append]; show 1 + _ + 2 + _ ≤ _; omega) ?_
    trivial
    refine op_catZ (m := [41]) rfl (by decide +kernel) (by rw [List.length_append, List.length_append, List.length_append]; show 1 + _ + 2 + _ + 1 ≤ _; omega) ?_
    trivial
    rfl
end K14

namespace K14
open PySem DL TOK NTN KND
local macro_rules
  | `(tactic| trivial) => `(tactic| repeat' with_reducible first
    | refine DL.w_pure ?_ | refine DL.w_dq ?_ | refine DL.w_imR ?_ | refine DL.w_imD ?_ | refine DL.w_fl ?_ | refine DL.w_bin ?_ | refine DL.w_cmp ?_ | refine DL.w_rev ?_ | refine DL.w_cat ?_ | refine DL.w_chain ?_ | refine DL.w_dtB ?_ | refine DL.w_dtru ?_
    | refine DL.w_frzI (by with_unfolding_all rfl) ?_ | refine DL.w_vwI (by with_unfolding_all rfl) ?_ | refine DL.w_owO (by with_unfolding_all rfl) ?_ | refine DL.w_varI (by with_unfolding_all rfl) ?_ | refine DL.w_varL (by with_unfolding_all rfl) ?_ | refine DL.w_varT (by with_unfolding_all rfl) ?_
    | refine DL.w_vwO (by with_unfolding_all rfl) ?_ | (refine DL.w_frzO (by with_unfolding_all rfl) ?_; simp only [List.set_cons_succ, List.set_cons_zero, DL.O.flat])
    | refine DL.w_dcons ?_ | refine DL.w_dconsV ?_ | refine DL.w_darcons ?_ | (refine DL.w_dtup ?_) | refine DL.w_dlst ?_ | refine DL.w_dixO ?_ | refine DL.w_sq ?_ | refine DL.w_dixX ?_ | refine DL.w_listX ?_ | refine DL.w_sorted ?_ | refine DL.w_un ?_ | refine DL.w_sqC ?_ | refine DL.w_forC ?_ | refine DL.op_fldI (by with_unfolding_all rfl) ?_ | refine DL.w_rg ?_ | refine DL.w_rvO ?_ | refine DL.w_dslice ?_ | refine DL.w_dtmc ?_ | refine DL.w_dtupN ?_ | refine DL.w_dlist ?_ | refine DL.w_dtuple ?_ | refine DL.w_tupV ?_ | refine DL.w_listV ?_
    | refine DL.w_bind ?_ | refine DL.w_lift ?_ | refine DL.w_frz ?_ | refine DL.w_vw ?_ | refine DL.w_ow ?_
    | refine DL.w_dand ?_ | refine DL.w_dor ?_ | refine DL.w_dnot ?_ | refine DL.w_dandV ?_ | refine DL.w_dorV ?_ | refine DL.w_dnotV ?_ | refine DL.w_dif ?_
    | refine DL.frzP_im ?_ | refine DL.frzP_new ?_ | refine DL.vwP_im ?_ | refine DL.vwP_new ?_ | refine DL.vwP_bor ?_ | refine DL.owP_im ?_ | refine DL.owP_new ?_ | refine DL.owP_bor ?_
    | (refine DL.setP_im (by with_unfolding_all first | rfl | exact DL.fo_free rfl) ?_; simp only [List.set_cons_succ, List.set_cons_zero, DL.O.flat]) | (refine DL.setP_new (by with_unfolding_all first | rfl | exact DL.fo_free rfl) ?_; simp only [List.set_cons_succ, List.set_cons_zero, DL.O.flat])
    | refine DL.argP_im ?_ | refine DL.argP_new ?_ | refine DL.argP_bor ?_ | refine DL.rvP_im ?_ | refine DL.rvP_new ?_ | refine DL.mvP_im ?_ | refine DL.mvP_new ?_ | (refine DL.mvP_bor (by with_unfolding_all rfl) ?_; simp only [List.set_cons_succ, List.set_cons_zero]) | refine DL.itP_im ?_ | refine DL.itP_new ?_ | refine DL.tuP_lst ?_ | refine DL.blP_of ?_
    | refine DL.op_rng (by with_unfolding_all decide) ?_ | refine DL.op_rngG ?_ | refine DL.op_isiII ?_ | refine DL.op_isiIB ?_ | refine DL.op_isiTT ?_ | refine DL.op_isiLL ?_
    | refine DL.op_eq ?_ | refine DL.op_ne ?_ | refine DL.br_t ?_ | refine DL.br_f ?_ | refine DL.br_not ?_ | refine DL.br_eqT (by with_unfolding_all rfl) ?_ | refine DL.br_eqF (by with_unfolding_all rfl) ?_
    | refine DL.op_mod (by with_unfolding_all decide) ?_ | refine DL.op_div (by with_unfolding_all decide) ?_ | refine DL.op_mul (DL.mul_r (by with_unfolding_all decide)) ?_ | refine DL.op_mul (DL.mul_l (by with_unfolding_all decide)) ?_ | refine DL.op_pow (by with_unfolding_all decide) ?_
    | refine DL.w_seq ?_ | refine DL.w_next ?_ | refine DL.w_if ?_ | refine DL.w_match ?_ | refine DL.pickP_of (by with_unfolding_all decide) ?_ | refine DL.sp_t ?_ | refine DL.sp_f (by with_unfolding_all decide) ?_ | refine DL.sp_n ?_ | refine DL.w_rt ?_ | refine DL.w_set ?_ | refine DL.w_drop ?_ | refine DL.w_app (by with_unfolding_all rfl) ?_ | (refine DL.appP_of (by with_unfolding_all rfl) (by first | assumption | with_unfolding_all exact Nat.le_of_ble_eq_true rfl | (simp only [List.length_append, List.length_map, List.length_cons, List.length_nil]; omega)) ?_; simp only [List.set_cons_succ, List.set_cons_zero, DL.O.flat]) | refine DL.w_forP ?_ | refine DL.w_sforv (by with_unfolding_all rfl) (by with_unfolding_all rfl) ?_ | refine DL.w_asg ?_ | refine DL.w_forV ?_ | refine DL.sqt_if ?_ | refine DL.sqt_rt ?_ | refine DL.sqt_next ?_
    | refine DL.sz (by with_unfolding_all exact Nat.le_of_ble_eq_true rfl) ?_
    | refine DL.outI_im (by with_unfolding_all exact Nat.le_of_ble_eq_true rfl) ?_ | refine DL.outI_new (by with_unfolding_all exact Nat.le_of_ble_eq_true rfl) ?_ | refine DL.outI_bor (by with_unfolding_all exact Nat.le_of_ble_eq_true rfl) (by with_unfolding_all rfl) ?_
    | exact DL.us_next | exact DL.us_bk | exact DL.us_ct | exact DL.us_rtN | refine DL.us_seq ?_ ?_ | refine DL.us_if ?_ ?_ ?_ | refine DL.us_rt ?_ | refine DL.us_drop ?_ | refine DL.us_setI (by decide) ?_
    | exact DL.ud_pure | exact DL.ud_lift | exact DL.ud_xf | exact DL.ud_xi | exact DL.ud_var (by decide) | exact DL.ud_frz (by decide)
    | refine DL.ud_imR ?_ | refine DL.ud_vw ?_ | refine DL.ud_dtup ?_ | refine DL.ud_dlst ?_ | refine DL.ud_dcons ?_ ?_ | refine DL.ud_dconsV ?_ ?_ | refine DL.ud_dbin ?_ ?_ | refine DL.ud_dcmp ?_ ?_ | refine DL.ud_dtB ?_ | refine DL.ud_dtru ?_
    | refine DL.ud_dnot ?_ | refine DL.ud_dand ?_ ?_ | refine DL.ud_dor ?_ ?_ | refine DL.ud_dnotV ?_ | refine DL.ud_dandV ?_ ?_ | refine DL.ud_dorV ?_ ?_ | refine DL.ud_dif ?_ ?_ ?_ | refine DL.ud_imD ?_ | refine DL.ud_fl ?_ | refine DL.ud_dixO ?_ ?_ | refine DL.ud_dixX ?_ ?_ | exact DL.ud_ow (by decide) | exact DL.ud_meth0 (by decide) | (refine DL.ud_bind ?_ fun _ => ?_)
    | refine DL.w_op (by with_unfolding_all rfl) ?_ | rfl)

theorem int_mem {n : Int} {K : List Int} : D.int n ∈ K.map D.int ↔ n ∈ K := ⟨fun h => by
  obtain ⟨x, hx, e⟩ := List.mem_map.mp h
  cases e
  exact hx, fun h => List.mem_map_of_mem h⟩
theorem op_notinI {n : Int} {K : List Int} {P : Bool → Prop} (p : P (decide (n ∉ K))) : OP (notinD (.int n) (.lst (K.map D.int))) P := by
  obtain ⟨b, hb, hiff⟩ := notinD_nice (n := 0) (x := .int n) (ds := K.map D.int) (by rfl) (nices_iff.mpr fun d m => by
    obtain ⟨a, _, rfl⟩ := List.mem_map.mp m
    rfl)
  refine ⟨b, hb, ?_⟩
  have : b = decide (n ∉ K) := by rw [Bool.eq_iff_iff, hiff, decide_eq_true_iff, int_mem]
  rw [this]
  exact p
def fnd (F : List Int) (l : List Kd) : List Int := l.foldl (fun F a => F ++ (unk a).filter fun n => !(decide (n ∈ F))) F
theorem fnd_snoc (F : List Int) (l : List Kd) (a : Kd) : fnd F (l ++ [a]) = fnd F l ++ (unk a).filter fun n => !(decide (n ∈ fnd F l)) := by
  unfold fnd
  rw [List.foldl_append]
  rfl
theorem fnd_kids {k : Kd} (h : ∀ n, k ≠ .any n) : fnd [] (kids k) = unk k := by
  have e : ∀ a : Kd, (unk a).filter (fun n => !(decide (n ∈ ([] : List Int)))) = unk a := fun a => List.filter_eq_self.mpr fun n _ => rfl
  cases k with
  | any n => exact absurd rfl (h n)
  | list a => show [] ++ _ = _; rw [e, List.nil_append]; rfl
  | pair a b =>
    show ([] ++ (unk a).filter (fun n => !(decide (n ∈ ([] : List Int))))) ++ (unk b).filter (fun n => !(decide (n ∈ [] ++ (unk a).filter fun n => !(decide (n ∈ ([] : List Int)))))) = _
    rw [e, List.nil_append]
    rfl
  | _ => rfl
theorem fnd_len (F : List Int) : ∀ l : List Kd, (fnd F l).length ≤ F.length + (l.map ksz).sum := by
  intro l
  induction l generalizing F with
  | nil => exact Nat.le_refl _
  | cons a l ih =>
    have := ih (F ++ (unk a).filter fun n => !(decide (n ∈ F)))
    have h2 := List.length_filter_le (fun n => !(decide (n ∈ F))) (unk a)
    have h3 := unk_len a
    rw [List.length_append] at this
    show (fnd (F ++ (unk a).filter fun n => !(decide (n ∈ F))) l).length ≤ _
    rw [List.map_cons, List.sum_cons]
    omega
theorem take_snoc {γ : Type} {l : List γ} {i : Nat} {a : γ} (h : l[i]? = some a) : l.take (i + 1) = l.take i ++ [a] := by
  rw [List.take_add_one, h]
  rfl
theorem kids_tk (k : Kd) (i : Nat) : (((kids k).take i).map ksz).sum ≤ ksz k := by
  have h : ((kids k).map ksz).sum ≤ ksz k := by rw [sz_kids k]; omega
  have e : (kids k).map ksz = ((kids k).take i).map ksz ++ ((kids k).drop i).map ksz := by rw [← List.map_append, List.take_append_drop]
  rw [e, List.sum_append] at h
  omega
theorem unk_ok : ∀ (j : Nat) (k : Kd), ksz k ≤ 10000 → dp k < j → FI (f_unknowns j) [kdD k] (· = .new (dl (unk k)))
  | 0, k, _, h => absurd h (Nat.not_lt_zero _)
  | j + 1, .any n, hz, h => by
    refine w_fi ?_
    unfold d_unknowns
    show SW _ [some (false, .im _), none, none, none] _
    simp only [kdD]
    trivial
    rfl
  | j + 1, .int, hz, h => by
    have ih := fun x (hx : x ∈ kids (.int)) => unk_ok j x (Nat.le_trans (ksz_kids hx) hz) (by have := kids_dp hx; omega)
    refine w_fi ?_
    unfold d_unknowns
    show SW _ [some (false, .im _), none, none, none] _
    simp only [kdD]
    trivial
    refine w_callI (ds := [_]) (inner_ok (.int)) rfl ?_
    trivial
    refine sw_each (kids (.int)) kdD (fun i e => ∃ s2 s3, e = [some (false, .im (.tup [.str (Str.ofString "int")])), some (false, dl (fnd [] ((kids (.int)).take i))), fo s2, fo s3]) ⟨none, none, rfl⟩ ?_ ?_
    · rintro i x e hi ⟨s2, s3, rfl⟩
      have hx : x ∈ kids (.int) := List.mem_of_getElem? hi
      have hl := fnd_len [] ((kids (.int)).take i)
      have hk := kids_tk (.int) i
      have hu := unk_len x
      have hux := unk_nd x
      have hzx := ksz_kids hx
      rw [List.length_nil] at hl
      rw [take_snoc hi, fnd_snoc]
      generalize fnd [] ((kids (.int)).take i) = F at hl
      refine ⟨[some (false, .im (.tup [.str (Str.ofString "int")])), some (false, dl F), some (false, .im (kdD x)), fo s3], by cases s2 <;> rfl, ?_⟩
      trivial
      refine w_call (ds := [_]) (ih x hx) rfl ?_
      rintro v rfl
      dsimp only [rvF]
      trivial
      rw [flats_map (g := D.int)]
      refine sw_each (unk x) D.int (fun m e => ∃ s3, e = [some (false, .im (.tup [.str (Str.ofString "int")])), some (false, dl (F ++ ((unk x).take m).filter fun n => !(decide (n ∈ F)))), some (false, .im (kdD x)), fo s3]) ⟨s3, by rw [List.take_zero, List.filter_nil, List.append_nil]⟩ ?_ ?_
      · rintro m n e hm ⟨s3, rfl⟩
        obtain ⟨hml, rfl⟩ := List.getElem?_eq_some_iff.mp hm
        refine ⟨[some (false, .im (.tup [.str (Str.ofString "int")])), some (false, dl (F ++ ((unk x).take m).filter fun n => !(decide (n ∈ F)))), some (false, .im (kdD x)), some (false, .im (.int (unk x)[m]))], by cases s3 <;> rfl, ?_⟩
        have hnt : (unk x)[m] ∉ (unk x).take m := fun z => by
          have h2 := List.nodup_append.mp (by rw [List.take_append_drop]; exact hux : ((unk x).take m ++ (unk x).drop m).Nodup)
          exact h2.2.2 _ z _ (by rw [List.drop_eq_getElem_cons hml]; exact List.mem_cons_self) rfl
        have hlen : (F ++ ((unk x).take m).filter fun n => !(decide (n ∈ F))).length < 1000000 := by
          rw [List.length_append]
          have h3 := List.length_filter_le (fun n => !(decide (n ∈ F))) ((unk x).take m)
          rw [List.length_take] at h3
          omega
        have len : ((F ++ ((unk x).take m).filter fun n => !(decide (n ∈ F))).map fun n => O.im (.int n)).length < sizeLine := by
          rw [List.length_map]
          exact Nat.lt_of_lt_of_le hlen (by decide)
        trivial
        rw [flat_map (g := D.int)]
        refine op_notinI ?_
        rw [take_snoc hm, List.filter_append]
        refine br_dec (fun hni => ?_) (fun hni => ?_)
        · have hF : (unk x)[m] ∉ F := fun z => hni (List.mem_append_left _ z)
          trivial
          exact ⟨some (.im (.int (unk x)[m])), by rw [List.filter_cons, if_pos (by rw [decide_eq_false hF]; rfl)]; unfold dl; rw [← List.append_assoc, List.map_append (l₁ := F ++ _)]; rfl⟩
        · have hF : (unk x)[m] ∈ F := by
            have := Classical.not_not.mp hni
            rcases List.mem_append.mp this with z | z
            · exact z
            · exact absurd (List.mem_filter.mp z).1 hnt
          trivial
          exact ⟨some (.im (.int (unk x)[m])), by rw [List.filter_cons, if_neg (by rw [decide_eq_true hF]; decide)]; rw [List.filter_nil, List.append_nil]; rfl⟩
      · rintro e ⟨s3, rfl⟩
        rw [List.take_length]
        exact ⟨some (.im (kdD x)), s3, rfl⟩
    · rintro e ⟨s2, s3, rfl⟩
      rw [List.take_length, fnd_kids (fun n z => by cases z)]
      trivial
  | j + 1, .bool, hz, h => by
    have ih := fun x (hx : x ∈ kids (.bool)) => unk_ok j x (Nat.le_trans (ksz_kids hx) hz) (by have := kids_dp hx; omega)
    refine w_fi ?_
    unfold d_unknowns
    show SW _ [some (false, .im _), none, none, none] _
    simp only [kdD]
    trivial
    refine w_callI (ds := [_]) (inner_ok (.bool)) rfl ?_
    trivial
    refine sw_each (kids (.bool)) kdD (fun i e => ∃ s2 s3, e = [some (false, .im (.tup [.str (Str.ofString "bool")])), some (false, dl (fnd [] ((kids (.bool)).take i))), fo s2, fo s3]) ⟨none, none, rfl⟩ ?_ ?_
    · rintro i x e hi ⟨s2, s3, rfl⟩
      have hx : x ∈ kids (.bool) := List.mem_of_getElem? hi
      have hl := fnd_len [] ((kids (.bool)).take i)
      have hk := kids_tk (.bool) i
      have hu := unk_len x
      have hux := unk_nd x
      have hzx := ksz_kids hx
      rw [List.length_nil] at hl
      rw [take_snoc hi, fnd_snoc]
      generalize fnd [] ((kids (.bool)).take i) = F at hl
      refine ⟨[some (false, .im (.tup [.str (Str.ofString "bool")])), some (false, dl F), some (false, .im (kdD x)), fo s3], by cases s2 <;> rfl, ?_⟩
      trivial
      refine w_call (ds := [_]) (ih x hx) rfl ?_
      rintro v rfl
      dsimp only [rvF]
      trivial
      rw [flats_map (g := D.int)]
      refine sw_each (unk x) D.int (fun m e => ∃ s3, e = [some (false, .im (.tup [.str (Str.ofString "bool")])), some (false, dl (F ++ ((unk x).take m).filter fun n => !(decide (n ∈ F)))), some (false, .im (kdD x)), fo s3]) ⟨s3, by rw [List.take_zero, List.filter_nil, List.append_nil]⟩ ?_ ?_
      · rintro m n e hm ⟨s3, rfl⟩
        obtain ⟨hml, rfl⟩ := List.getElem?_eq_some_iff.mp hm
        refine ⟨[some (false, .im (.tup [.str (Str.ofString "bool")])), some (false, dl (F ++ ((unk x).take m).filter fun n => !(decide (n ∈ F)))), some (false, .im (kdD x)), some (false, .im (.int (unk x)[m]))], by cases s3 <;> rfl, ?_⟩
        have hnt : (unk x)[m] ∉ (unk x).take m := fun z => by
          have h2 := List.nodup_append.mp (by rw [List.take_append_drop]; exact hux : ((unk x).take m ++ (unk x).drop m).Nodup)
          exact h2.2.2 _ z _ (by rw [List.drop_eq_getElem_cons hml]; exact List.mem_cons_self) rfl
        have hlen : (F ++ ((unk x).take m).filter fun n => !(decide (n ∈ F))).length < 1000000 := by
          rw [List.length_append]
          have h3 := List.length_filter_le (fun n => !(decide (n ∈ F))) ((unk x).take m)
          rw [List.length_take] at h3
          omega
        have len : ((F ++ ((unk x).take m).filter fun n => !(decide (n ∈ F))).map fun n => O.im (.int n)).length < sizeLine := by
          rw [List.length_map]
          exact Nat.lt_of_lt_of_le hlen (by decide)
        trivial
        rw [flat_map (g := D.int)]
        refine op_notinI ?_
        rw [take_snoc hm, List.filter_append]
        refine br_dec (fun hni => ?_) (fun hni => ?_)
        · have hF : (unk x)[m] ∉ F := fun z => hni (List.mem_append_left _ z)
          trivial
          exact ⟨some (.im (.int (unk x)[m])), by rw [List.filter_cons, if_pos (by rw [decide_eq_false hF]; rfl)]; unfold dl; rw [← List.append_assoc, List.map_append (l₁ := F ++ _)]; rfl⟩
        · have hF : (unk x)[m] ∈ F := by
            have := Classical.not_not.mp hni
            rcases List.mem_append.mp this with z | z
            · exact z
            · exact absurd (List.mem_filter.mp z).1 hnt
          trivial
          exact ⟨some (.im (.int (unk x)[m])), by rw [List.filter_cons, if_neg (by rw [decide_eq_true hF]; decide)]; rw [List.filter_nil, List.append_nil]; rfl⟩
      · rintro e ⟨s3, rfl⟩
        rw [List.take_length]
        exact ⟨some (.im (kdD x)), s3, rfl⟩
    · rintro e ⟨s2, s3, rfl⟩
      rw [List.take_length, fnd_kids (fun n z => by cases z)]
      trivial
  | j + 1, .out, hz, h => by
    have ih := fun x (hx : x ∈ kids (.out)) => unk_ok j x (Nat.le_trans (ksz_kids hx) hz) (by have := kids_dp hx; omega)
    refine w_fi ?_
    unfold d_unknowns
    show SW _ [some (false, .im _), none, none, none] _
    simp only [kdD]
    trivial
    refine w_callI (ds := [_]) (inner_ok (.out)) rfl ?_
    trivial
    refine sw_each (kids (.out)) kdD (fun i e => ∃ s2 s3, e = [some (false, .im (.tup [.str (Str.ofString "output")])), some (false, dl (fnd [] ((kids (.out)).take i))), fo s2, fo s3]) ⟨none, none, rfl⟩ ?_ ?_
    · rintro i x e hi ⟨s2, s3, rfl⟩
      have hx : x ∈ kids (.out) := List.mem_of_getElem? hi
      have hl := fnd_len [] ((kids (.out)).take i)
      have hk := kids_tk (.out) i
      have hu := unk_len x
      have hux := unk_nd x
      have hzx := ksz_kids hx
      rw [List.length_nil] at hl
      rw [take_snoc hi, fnd_snoc]
      generalize fnd [] ((kids (.out)).take i) = F at hl
      refine ⟨[some (false, .im (.tup [.str (Str.ofString "output")])), some (false, dl F), some (false, .im (kdD x)), fo s3], by cases s2 <;> rfl, ?_⟩
      trivial
      refine w_call (ds := [_]) (ih x hx) rfl ?_
      rintro v rfl
      dsimp only [rvF]
      trivial
      rw [flats_map (g := D.int)]
      refine sw_each (unk x) D.int (fun m e => ∃ s3, e = [some (false, .im (.tup [.str (Str.ofString "output")])), some (false, dl (F ++ ((unk x).take m).filter fun n => !(decide (n ∈ F)))), some (false, .im (kdD x)), fo s3]) ⟨s3, by rw [List.take_zero, List.filter_nil, List.append_nil]⟩ ?_ ?_
      · rintro m n e hm ⟨s3, rfl⟩
        obtain ⟨hml, rfl⟩ := List.getElem?_eq_some_iff.mp hm
        refine ⟨[some (false, .im (.tup [.str (Str.ofString "output")])), some (false, dl (F ++ ((unk x).take m).filter fun n => !(decide (n ∈ F)))), some (false, .im (kdD x)), some (false, .im (.int (unk x)[m]))], by cases s3 <;> rfl, ?_⟩
        have hnt : (unk x)[m] ∉ (unk x).take m := fun z => by
          have h2 := List.nodup_append.mp (by rw [List.take_append_drop]; exact hux : ((unk x).take m ++ (unk x).drop m).Nodup)
          exact h2.2.2 _ z _ (by rw [List.drop_eq_getElem_cons hml]; exact List.mem_cons_self) rfl
        have hlen : (F ++ ((unk x).take m).filter fun n => !(decide (n ∈ F))).length < 1000000 := by
          rw [List.length_append]
          have h3 := List.length_filter_le (fun n => !(decide (n ∈ F))) ((unk x).take m)
          rw [List.length_take] at h3
          omega
        have len : ((F ++ ((unk x).take m).filter fun n => !(decide (n ∈ F))).map fun n => O.im (.int n)).length < sizeLine := by
          rw [List.length_map]
          exact Nat.lt_of_lt_of_le hlen (by decide)
        trivial
        rw [flat_map (g := D.int)]
        refine op_notinI ?_
        rw [take_snoc hm, List.filter_append]
        refine br_dec (fun hni => ?_) (fun hni => ?_)
        · have hF : (unk x)[m] ∉ F := fun z => hni (List.mem_append_left _ z)
          trivial
          exact ⟨some (.im (.int (unk x)[m])), by rw [List.filter_cons, if_pos (by rw [decide_eq_false hF]; rfl)]; unfold dl; rw [← List.append_assoc, List.map_append (l₁ := F ++ _)]; rfl⟩
        · have hF : (unk x)[m] ∈ F := by
            have := Classical.not_not.mp hni
            rcases List.mem_append.mp this with z | z
            · exact z
            · exact absurd (List.mem_filter.mp z).1 hnt
          trivial
          exact ⟨some (.im (.int (unk x)[m])), by rw [List.filter_cons, if_neg (by rw [decide_eq_true hF]; decide)]; rw [List.filter_nil, List.append_nil]; rfl⟩
      · rintro e ⟨s3, rfl⟩
        rw [List.take_length]
        exact ⟨some (.im (kdD x)), s3, rfl⟩
    · rintro e ⟨s2, s3, rfl⟩
      rw [List.take_length, fnd_kids (fun n z => by cases z)]
      trivial
  | j + 1, .list a, hz, h => by
    have ih := fun x (hx : x ∈ kids (.list a)) => unk_ok j x (Nat.le_trans (ksz_kids hx) hz) (by have := kids_dp hx; omega)
    refine w_fi ?_
    unfold d_unknowns
    show SW _ [some (false, .im _), none, none, none] _
    simp only [kdD]
    trivial
    refine w_callI (ds := [_]) (inner_ok (.list a)) rfl ?_
    trivial
    refine sw_each (kids (.list a)) kdD (fun i e => ∃ s2 s3, e = [some (false, .im (.tup [.str (Str.ofString "list"), kdD a])), some (false, dl (fnd [] ((kids (.list a)).take i))), fo s2, fo s3]) ⟨none, none, rfl⟩ ?_ ?_
    · rintro i x e hi ⟨s2, s3, rfl⟩
      have hx : x ∈ kids (.list a) := List.mem_of_getElem? hi
      have hl := fnd_len [] ((kids (.list a)).take i)
      have hk := kids_tk (.list a) i
      have hu := unk_len x
      have hux := unk_nd x
      have hzx := ksz_kids hx
      rw [List.length_nil] at hl
      rw [take_snoc hi, fnd_snoc]
      generalize fnd [] ((kids (.list a)).take i) = F at hl
      refine ⟨[some (false, .im (.tup [.str (Str.ofString "list"), kdD a])), some (false, dl F), some (false, .im (kdD x)), fo s3], by cases s2 <;> rfl, ?_⟩
      trivial
      refine w_call (ds := [_]) (ih x hx) rfl ?_
      rintro v rfl
      dsimp only [rvF]
      trivial
      rw [flats_map (g := D.int)]
      refine sw_each (unk x) D.int (fun m e => ∃ s3, e = [some (false, .im (.tup [.str (Str.ofString "list"), kdD a])), some (false, dl (F ++ ((unk x).take m).filter fun n => !(decide (n ∈ F)))), some (false, .im (kdD x)), fo s3]) ⟨s3, by rw [List.take_zero, List.filter_nil, List.append_nil]⟩ ?_ ?_
      · rintro m n e hm ⟨s3, rfl⟩
        obtain ⟨hml, rfl⟩ := List.getElem?_eq_some_iff.mp hm
        refine ⟨[some (false, .im (.tup [.str (Str.ofString "list"), kdD a])), some (false, dl (F ++ ((unk x).take m).filter fun n => !(decide (n ∈ F)))), some (false, .im (kdD x)), some (false, .im (.int (unk x)[m]))], by cases s3 <;> rfl, ?_⟩
        have hnt : (unk x)[m] ∉ (unk x).take m := fun z => by
          have h2 := List.nodup_append.mp (by rw [List.take_append_drop]; exact hux : ((unk x).take m ++ (unk x).drop m).Nodup)
          exact h2.2.2 _ z _ (by rw [List.drop_eq_getElem_cons hml]; exact List.mem_cons_self) rfl
        have hlen : (F ++ ((unk x).take m).filter fun n => !(decide (n ∈ F))).length < 1000000 := by
          rw [List.length_append]
          have h3 := List.length_filter_le (fun n => !(decide (n ∈ F))) ((unk x).take m)
          rw [List.length_take] at h3
          omega
        have len : ((F ++ ((unk x).take m).filter fun n => !(decide (n ∈ F))).map fun n => O.im (.int n)).length < sizeLine := by
          rw [List.length_map]
          exact Nat.lt_of_lt_of_le hlen (by decide)
        trivial
        rw [flat_map (g := D.int)]
        refine op_notinI ?_
        rw [take_snoc hm, List.filter_append]
        refine br_dec (fun hni => ?_) (fun hni => ?_)
        · have hF : (unk x)[m] ∉ F := fun z => hni (List.mem_append_left _ z)
          trivial
          exact ⟨some (.im (.int (unk x)[m])), by rw [List.filter_cons, if_pos (by rw [decide_eq_false hF]; rfl)]; unfold dl; rw [← List.append_assoc, List.map_append (l₁ := F ++ _)]; rfl⟩
        · have hF : (unk x)[m] ∈ F := by
            have := Classical.not_not.mp hni
            rcases List.mem_append.mp this with z | z
            · exact z
            · exact absurd (List.mem_filter.mp z).1 hnt
          trivial
          exact ⟨some (.im (.int (unk x)[m])), by rw [List.filter_cons, if_neg (by rw [decide_eq_true hF]; decide)]; rw [List.filter_nil, List.append_nil]; rfl⟩
      · rintro e ⟨s3, rfl⟩
        rw [List.take_length]
        exact ⟨some (.im (kdD x)), s3, rfl⟩
    · rintro e ⟨s2, s3, rfl⟩
      rw [List.take_length, fnd_kids (fun n z => by cases z)]
      trivial
  | j + 1, .pair a b, hz, h => by
    have ih := fun x (hx : x ∈ kids (.pair a b)) => unk_ok j x (Nat.le_trans (ksz_kids hx) hz) (by have := kids_dp hx; omega)
    refine w_fi ?_
    unfold d_unknowns
    show SW _ [some (false, .im _), none, none, none] _
    simp only [kdD]
    trivial
    refine w_callI (ds := [_]) (inner_ok (.pair a b)) rfl ?_
    trivial
    refine sw_each (kids (.pair a b)) kdD (fun i e => ∃ s2 s3, e = [some (false, .im (.tup [.str (Str.ofString "pair"), kdD a, kdD b])), some (false, dl (fnd [] ((kids (.pair a b)).take i))), fo s2, fo s3]) ⟨none, none, rfl⟩ ?_ ?_
    · rintro i x e hi ⟨s2, s3, rfl⟩
      have hx : x ∈ kids (.pair a b) := List.mem_of_getElem? hi
      have hl := fnd_len [] ((kids (.pair a b)).take i)
      have hk := kids_tk (.pair a b) i
      have hu := unk_len x
      have hux := unk_nd x
      have hzx := ksz_kids hx
      rw [List.length_nil] at hl
      rw [take_snoc hi, fnd_snoc]
      generalize fnd [] ((kids (.pair a b)).take i) = F at hl
      refine ⟨[some (false, .im (.tup [.str (Str.ofString "pair"), kdD a, kdD b])), some (false, dl F), some (false, .im (kdD x)), fo s3], by cases s2 <;> rfl, ?_⟩
      trivial
      refine w_call (ds := [_]) (ih x hx) rfl ?_
      rintro v rfl
      dsimp only [rvF]
      trivial
      rw [flats_map (g := D.int)]
      refine sw_each (unk x) D.int (fun m e => ∃ s3, e = [some (false, .im (.tup [.str (Str.ofString "pair"), kdD a, kdD b])), some (false, dl (F ++ ((unk x).take m).filter fun n => !(decide (n ∈ F)))), some (false, .im (kdD x)), fo s3]) ⟨s3, by rw [List.take_zero, List.filter_nil, List.append_nil]⟩ ?_ ?_
      · rintro m n e hm ⟨s3, rfl⟩
        obtain ⟨hml, rfl⟩ := List.getElem?_eq_some_iff.mp hm
        refine ⟨[some (false, .im (.tup [.str (Str.ofString "pair"), kdD a, kdD b])), some (false, dl (F ++ ((unk x).take m).filter fun n => !(decide (n ∈ F)))), some (false, .im (kdD x)), some (false, .im (.int (unk x)[m]))], by cases s3 <;> rfl, ?_⟩
        have hnt : (unk x)[m] ∉ (unk x).take m := fun z => by
          have h2 := List.nodup_append.mp (by rw [List.take_append_drop]; exact hux : ((unk x).take m ++ (unk x).drop m).Nodup)
          exact h2.2.2 _ z _ (by rw [List.drop_eq_getElem_cons hml]; exact List.mem_cons_self) rfl
        have hlen : (F ++ ((unk x).take m).filter fun n => !(decide (n ∈ F))).length < 1000000 := by
          rw [List.length_append]
          have h3 := List.length_filter_le (fun n => !(decide (n ∈ F))) ((unk x).take m)
          rw [List.length_take] at h3
          omega
        have len : ((F ++ ((unk x).take m).filter fun n => !(decide (n ∈ F))).map fun n => O.im (.int n)).length < sizeLine := by
          rw [List.length_map]
          exact Nat.lt_of_lt_of_le hlen (by decide)
        trivial
        rw [flat_map (g := D.int)]
        refine op_notinI ?_
        rw [take_snoc hm, List.filter_append]
        refine br_dec (fun hni => ?_) (fun hni => ?_)
        · have hF : (unk x)[m] ∉ F := fun z => hni (List.mem_append_left _ z)
          trivial
          exact ⟨some (.im (.int (unk x)[m])), by rw [List.filter_cons, if_pos (by rw [decide_eq_false hF]; rfl)]; unfold dl; rw [← List.append_assoc, List.map_append (l₁ := F ++ _)]; rfl⟩
        · have hF : (unk x)[m] ∈ F := by
            have := Classical.not_not.mp hni
            rcases List.mem_append.mp this with z | z
            · exact z
            · exact absurd (List.mem_filter.mp z).1 hnt
          trivial
          exact ⟨some (.im (.int (unk x)[m])), by rw [List.filter_cons, if_neg (by rw [decide_eq_true hF]; decide)]; rw [List.filter_nil, List.append_nil]; rfl⟩
      · rintro e ⟨s3, rfl⟩
        rw [List.take_length]
        exact ⟨some (.im (kdD x)), s3, rfl⟩
    · rintro e ⟨s2, s3, rfl⟩
      rw [List.take_length, fnd_kids (fun n z => by cases z)]
      trivial
end K14

namespace K14
open PySem DL TOK NTN KND
local macro_rules
  | `(tactic| trivial) => `(tactic| repeat' with_reducible first
    | refine DL.w_pure ?_ | refine DL.w_dq ?_ | refine DL.w_imR ?_ | refine DL.w_imD ?_ | refine DL.w_fl ?_ | refine DL.w_bin ?_ | refine DL.w_cmp ?_ | refine DL.w_rev ?_ | refine DL.w_cat ?_ | refine DL.w_chain ?_ | refine DL.w_dtB ?_ | refine DL.w_dtru ?_
    | refine DL.w_frzI (by with_unfolding_all rfl) ?_ | refine DL.w_vwI (by with_unfolding_all rfl) ?_ | refine DL.w_owO (by with_unfolding_all rfl) ?_ | refine DL.w_varI (by with_unfolding_all rfl) ?_ | refine DL.w_varL (by with_unfolding_all rfl) ?_ | refine DL.w_varT (by with_unfolding_all rfl) ?_
    | refine DL.w_vwO (by with_unfolding_all rfl) ?_ | (refine DL.w_frzO (by with_unfolding_all rfl) ?_; simp only [List.set_cons_succ, List.set_cons_zero, DL.O.flat])
    | refine DL.w_dcons ?_ | refine DL.w_dconsV ?_ | refine DL.w_darcons ?_ | (refine DL.w_dtup ?_) | refine DL.w_dlst ?_ | refine DL.w_dixO ?_ | refine DL.w_sq ?_ | refine DL.w_dixX ?_ | refine DL.w_listX ?_ | refine DL.w_sorted ?_ | refine DL.w_un ?_ | refine DL.w_sqC ?_ | refine DL.w_forC ?_ | refine DL.op_fldI (by with_unfolding_all rfl) ?_ | refine DL.w_rg ?_ | refine DL.w_rvO ?_ | refine DL.w_dslice ?_ | refine DL.w_dtmc ?_ | refine DL.w_dtupN ?_ | refine DL.w_dlist ?_ | refine DL.w_dtuple ?_ | refine DL.w_tupV ?_ | refine DL.w_listV ?_
    | refine DL.w_bind ?_ | refine DL.w_lift ?_ | refine DL.w_frz ?_ | refine DL.w_vw ?_ | refine DL.w_ow ?_
    | refine DL.w_dand ?_ | refine DL.w_dor ?_ | refine DL.w_dnot ?_ | refine DL.w_dandV ?_ | refine DL.w_dorV ?_ | refine DL.w_dnotV ?_ | refine DL.w_dif ?_
    | refine DL.frzP_im ?_ | refine DL.frzP_new ?_ | refine DL.vwP_im ?_ | refine DL.vwP_new ?_ | refine DL.vwP_bor ?_ | refine DL.owP_im ?_ | refine DL.owP_new ?_ | refine DL.owP_bor ?_
    | (refine DL.setP_im (by with_unfolding_all first | rfl | exact DL.fo_free rfl) ?_; simp only [List.set_cons_succ, List.set_cons_zero, DL.O.flat]) | (refine DL.setP_new (by with_unfolding_all first | rfl | exact DL.fo_free rfl) ?_; simp only [List.set_cons_succ, List.set_cons_zero, DL.O.flat])
    | refine DL.argP_im ?_ | refine DL.argP_new ?_ | refine DL.argP_bor ?_ | refine DL.rvP_im ?_ | refine DL.rvP_new ?_ | refine DL.mvP_im ?_ | refine DL.mvP_new ?_ | (refine DL.mvP_bor (by with_unfolding_all rfl) ?_; simp only [List.set_cons_succ, List.set_cons_zero]) | refine DL.itP_im ?_ | refine DL.itP_new ?_ | refine DL.tuP_lst ?_ | refine DL.blP_of ?_
    | refine DL.op_rng (by with_unfolding_all decide) ?_ | refine DL.op_rngG ?_ | refine DL.op_isiII ?_ | refine DL.op_isiIB ?_ | refine DL.op_isiTT ?_ | refine DL.op_isiLL ?_
    | refine DL.op_eq ?_ | refine DL.op_ne ?_ | refine DL.br_t ?_ | refine DL.br_f ?_ | refine DL.br_not ?_ | refine DL.br_eqT (by with_unfolding_all rfl) ?_ | refine DL.br_eqF (by with_unfolding_all rfl) ?_
    | refine DL.op_mod (by with_unfolding_all decide) ?_ | refine DL.op_div (by with_unfolding_all decide) ?_ | refine DL.op_mul (DL.mul_r (by with_unfolding_all decide)) ?_ | refine DL.op_mul (DL.mul_l (by with_unfolding_all decide)) ?_ | refine DL.op_pow (by with_unfolding_all decide) ?_
    | refine DL.w_seq ?_ | refine DL.w_next ?_ | refine DL.w_if ?_ | refine DL.w_match ?_ | refine DL.pickP_of (by with_unfolding_all decide) ?_ | refine DL.sp_t ?_ | refine DL.sp_f (by with_unfolding_all decide) ?_ | refine DL.sp_n ?_ | refine DL.w_rt ?_ | refine DL.w_set ?_ | refine DL.w_drop ?_ | refine DL.w_app (by with_unfolding_all rfl) ?_ | (refine DL.appP_of (by with_unfolding_all rfl) (by first | assumption | with_unfolding_all exact Nat.le_of_ble_eq_true rfl | (simp only [List.length_append, List.length_map, List.length_cons, List.length_nil]; omega)) ?_; simp only [List.set_cons_succ, List.set_cons_zero, DL.O.flat]) | refine DL.w_forP ?_ | refine DL.w_sforv (by with_unfolding_all rfl) (by with_unfolding_all rfl) ?_ | refine DL.w_asg ?_ | refine DL.w_forV ?_ | refine DL.sqt_if ?_ | refine DL.sqt_rt ?_ | refine DL.sqt_next ?_
    | refine DL.sz (by with_unfolding_all exact Nat.le_of_ble_eq_true rfl) ?_
    | refine DL.outI_im (by with_unfolding_all exact Nat.le_of_ble_eq_true rfl) ?_ | refine DL.outI_new (by with_unfolding_all exact Nat.le_of_ble_eq_true rfl) ?_ | refine DL.outI_bor (by with_unfolding_all exact Nat.le_of_ble_eq_true rfl) (by with_unfolding_all rfl) ?_
    | exact DL.us_next | exact DL.us_bk | exact DL.us_ct | exact DL.us_rtN | refine DL.us_seq ?_ ?_ | refine DL.us_if ?_ ?_ ?_ | refine DL.us_rt ?_ | refine DL.us_drop ?_ | refine DL.us_setI (by decide) ?_
    | exact DL.ud_pure | exact DL.ud_lift | exact DL.ud_xf | exact DL.ud_xi | exact DL.ud_var (by decide) | exact DL.ud_frz (by decide)
    | refine DL.ud_imR ?_ | refine DL.ud_vw ?_ | refine DL.ud_dtup ?_ | refine DL.ud_dlst ?_ | refine DL.ud_dcons ?_ ?_ | refine DL.ud_dconsV ?_ ?_ | refine DL.ud_dbin ?_ ?_ | refine DL.ud_dcmp ?_ ?_ | refine DL.ud_dtB ?_ | refine DL.ud_dtru ?_
    | refine DL.ud_dnot ?_ | refine DL.ud_dand ?_ ?_ | refine DL.ud_dor ?_ ?_ | refine DL.ud_dnotV ?_ | refine DL.ud_dandV ?_ ?_ | refine DL.ud_dorV ?_ ?_ | refine DL.ud_dif ?_ ?_ ?_ | refine DL.ud_imD ?_ | refine DL.ud_fl ?_ | refine DL.ud_dixO ?_ ?_ | refine DL.ud_dixX ?_ ?_ | exact DL.ud_ow (by decide) | exact DL.ud_meth0 (by decide) | (refine DL.ud_bind ?_ fun _ => ?_)
    | refine DL.w_op (by with_unfolding_all rfl) ?_ | rfl)

theorem op_catI {l m : List D} {P : Rv → Prop} (h : l.length + m.length ≤ 1000000) (p : P (.new (.lst ((l ++ m).map O.im)))) : OP (catV (.im (.lst l)) (.im (.lst m))) P := ⟨_, by
  show (if l.length + m.length ≤ sizeLine then some (Rv.new (.lst ((l ++ m).map O.im))) else none) = _
  rw [if_pos (Nat.le_trans h (by decide))], p⟩
abbrev liD (ns : List Int) : D := .lst (ns.map D.int)
theorem lunk_ok : ∀ (j : Nat) (k : Kd), ksz k ≤ 10000 → dp k < j → FI (f__law_unknowns j) [kdD k] (fun r => r = .new (dl (unk k)) ∨ r = .im (liD (unk k)))
  | 0, k, _, h => absurd h (Nat.not_lt_zero _)
  | j + 1, .any n, hz, h => by
    refine w_fi ?_
    unfold d__law_unknowns
    show SW _ [some (false, .im _), none, none, none] _
    simp only [kdD]
    trivial
    exact .inl rfl
  | j + 1, .int, hz, h => by
    have ih := fun x (hx : x ∈ kids (.int)) => lunk_ok j x (Nat.le_trans (ksz_kids hx) hz) (by have := kids_dp hx; omega)
    refine w_fi ?_
    unfold d__law_unknowns
    show SW _ [some (false, .im _), none, none, none] _
    simp only [kdD]
    trivial
    refine w_call (ds := [_]) (linner_ok (.int)) rfl ?_
    rintro v rfl
    dsimp only [rvF]
    trivial
    rw [flats_map (g := kdD)]
    refine sw_each (kids (.int)) kdD (fun i e => ∃ s2, e = [some (false, .im (.tup [.str (Str.ofString "int")])), some (false, .im (liD (fnd [] ((kids (.int)).take i)))), fo s2, none]) ⟨none, rfl⟩ ?_ ?_
    · rintro i x e hi ⟨s2, rfl⟩
      have hx : x ∈ kids (.int) := List.mem_of_getElem? hi
      have hl := fnd_len [] ((kids (.int)).take i)
      have hk := kids_tk (.int) i
      have hu := unk_len x
      have hzx := ksz_kids hx
      rw [List.length_nil] at hl
      rw [take_snoc hi, fnd_snoc]
      generalize fnd [] ((kids (.int)).take i) = F at hl
      refine ⟨[some (false, .im (.tup [.str (Str.ofString "int")])), some (false, .im (liD F)), some (false, .im (kdD x)), none], by cases s2 <;> rfl, ?_⟩
      trivial
      refine w_compF (unk x) D.int (fun n => !(decide (n ∈ F))) (fun n => O.im (.int n)) ?_
      trivial
      refine w_call (ds := [_]) (ih x hx) rfl ?_
      have fin : ∀ ds : List D, ds = (unk x).map D.int → ds = (unk x).map D.int := fun _ h => h
      have hlf := List.length_filter_le (fun n => !(decide (n ∈ F))) (unk x)
      rintro v (rfl | rfl)
      all_goals
        dsimp only [rvF]
        trivial
        refine ⟨?_, ⟨rfl, rfl⟩, Nat.le_trans (show (unk x).length ≤ 10000 by omega) (by decide), fun n hn => ?_, ?_⟩
      · rw [flats_map (g := D.int)]
      · refine ⟨_, rfl, ?_⟩
        trivial
        refine op_notinI ?_
        refine br_dec (fun h => ?_) (fun h => ?_)
        · refine ⟨by rw [decide_eq_false h]; rfl, ?_⟩
          trivial
          exact ⟨rfl, rfl⟩
        · exact ⟨by rw [decide_eq_true (Classical.not_not.mp h)]; rfl, rfl⟩
      · trivial
        rw [flat_map (g := D.int)]
        refine op_catI (by rw [List.length_map, List.length_map]; omega) ?_
        trivial
        rw [← List.map_append, flats_im]
        exact ⟨some (.im (kdD x)), rfl⟩
      · rfl
      · refine ⟨_, rfl, ?_⟩
        trivial
        refine op_notinI ?_
        refine br_dec (fun h => ?_) (fun h => ?_)
        · refine ⟨by rw [decide_eq_false h]; rfl, ?_⟩
          trivial
          exact ⟨rfl, rfl⟩
        · exact ⟨by rw [decide_eq_true (Classical.not_not.mp h)]; rfl, rfl⟩
      · trivial
        rw [flat_map (g := D.int)]
        refine op_catI (by rw [List.length_map, List.length_map]; omega) ?_
        trivial
        rw [← List.map_append, flats_im]
        exact ⟨some (.im (kdD x)), rfl⟩
    · rintro e ⟨s2, rfl⟩
      rw [List.take_length, fnd_kids (fun n z => by cases z)]
      trivial
      exact .inr rfl
  | j + 1, .bool, hz, h => by
    have ih := fun x (hx : x ∈ kids (.bool)) => lunk_ok j x (Nat.le_trans (ksz_kids hx) hz) (by have := kids_dp hx; omega)
    refine w_fi ?_
    unfold d__law_unknowns
    show SW _ [some (false, .im _), none, none, none] _
    simp only [kdD]
    trivial
    refine w_call (ds := [_]) (linner_ok (.bool)) rfl ?_
    rintro v rfl
    dsimp only [rvF]
    trivial
    rw [flats_map (g := kdD)]
    refine sw_each (kids (.bool)) kdD (fun i e => ∃ s2, e = [some (false, .im (.tup [.str (Str.ofString "bool")])), some (false, .im (liD (fnd [] ((kids (.bool)).take i)))), fo s2, none]) ⟨none, rfl⟩ ?_ ?_
    · rintro i x e hi ⟨s2, rfl⟩
      have hx : x ∈ kids (.bool) := List.mem_of_getElem? hi
      have hl := fnd_len [] ((kids (.bool)).take i)
      have hk := kids_tk (.bool) i
      have hu := unk_len x
      have hzx := ksz_kids hx
      rw [List.length_nil] at hl
      rw [take_snoc hi, fnd_snoc]
      generalize fnd [] ((kids (.bool)).take i) = F at hl
      refine ⟨[some (false, .im (.tup [.str (Str.ofString "bool")])), some (false, .im (liD F)), some (false, .im (kdD x)), none], by cases s2 <;> rfl, ?_⟩
      trivial
      refine w_compF (unk x) D.int (fun n => !(decide (n ∈ F))) (fun n => O.im (.int n)) ?_
      trivial
      refine w_call (ds := [_]) (ih x hx) rfl ?_
      have fin : ∀ ds : List D, ds = (unk x).map D.int → ds = (unk x).map D.int := fun _ h => h
      have hlf := List.length_filter_le (fun n => !(decide (n ∈ F))) (unk x)
      rintro v (rfl | rfl)
      all_goals
        dsimp only [rvF]
        trivial
        refine ⟨?_, ⟨rfl, rfl⟩, Nat.le_trans (show (unk x).length ≤ 10000 by omega) (by decide), fun n hn => ?_, ?_⟩
      · rw [flats_map (g := D.int)]
      · refine ⟨_, rfl, ?_⟩
        trivial
        refine op_notinI ?_
        refine br_dec (fun h => ?_) (fun h => ?_)
        · refine ⟨by rw [decide_eq_false h]; rfl, ?_⟩
          trivial
          exact ⟨rfl, rfl⟩
        · exact ⟨by rw [decide_eq_true (Classical.not_not.mp h)]; rfl, rfl⟩
      · trivial
        rw [flat_map (g := D.int)]
        refine op_catI (by rw [List.length_map, List.length_map]; omega) ?_
        trivial
        rw [← List.map_append, flats_im]
        exact ⟨some (.im (kdD x)), rfl⟩
      · rfl
      · refine ⟨_, rfl, ?_⟩
        trivial
        refine op_notinI ?_
        refine br_dec (fun h => ?_) (fun h => ?_)
        · refine ⟨by rw [decide_eq_false h]; rfl, ?_⟩
          trivial
          exact ⟨rfl, rfl⟩
        · exact ⟨by rw [decide_eq_true (Classical.not_not.mp h)]; rfl, rfl⟩
      · trivial
        rw [flat_map (g := D.int)]
        refine op_catI (by rw [List.length_map, List.length_map]; omega) ?_
        trivial
        rw [← List.map_append, flats_im]
        exact ⟨some (.im (kdD x)), rfl⟩
    · rintro e ⟨s2, rfl⟩
      rw [List.take_length, fnd_kids (fun n z => by cases z)]
      trivial
      exact .inr rfl
  | j + 1, .out, hz, h => by
    have ih := fun x (hx : x ∈ kids (.out)) => lunk_ok j x (Nat.le_trans (ksz_kids hx) hz) (by have := kids_dp hx; omega)
    refine w_fi ?_
    unfold d__law_unknowns
    show SW _ [some (false, .im _), none, none, none] _
    simp only [kdD]
    trivial
    refine w_call (ds := [_]) (linner_ok (.out)) rfl ?_
    rintro v rfl
    dsimp only [rvF]
    trivial
    rw [flats_map (g := kdD)]
    refine sw_each (kids (.out)) kdD (fun i e => ∃ s2, e = [some (false, .im (.tup [.str (Str.ofString "output")])), some (false, .im (liD (fnd [] ((kids (.out)).take i)))), fo s2, none]) ⟨none, rfl⟩ ?_ ?_
    · rintro i x e hi ⟨s2, rfl⟩
      have hx : x ∈ kids (.out) := List.mem_of_getElem? hi
      have hl := fnd_len [] ((kids (.out)).take i)
      have hk := kids_tk (.out) i
      have hu := unk_len x
      have hzx := ksz_kids hx
      rw [List.length_nil] at hl
      rw [take_snoc hi, fnd_snoc]
      generalize fnd [] ((kids (.out)).take i) = F at hl
      refine ⟨[some (false, .im (.tup [.str (Str.ofString "output")])), some (false, .im (liD F)), some (false, .im (kdD x)), none], by cases s2 <;> rfl, ?_⟩
      trivial
      refine w_compF (unk x) D.int (fun n => !(decide (n ∈ F))) (fun n => O.im (.int n)) ?_
      trivial
      refine w_call (ds := [_]) (ih x hx) rfl ?_
      have fin : ∀ ds : List D, ds = (unk x).map D.int → ds = (unk x).map D.int := fun _ h => h
      have hlf := List.length_filter_le (fun n => !(decide (n ∈ F))) (unk x)
      rintro v (rfl | rfl)
      all_goals
        dsimp only [rvF]
        trivial
        refine ⟨?_, ⟨rfl, rfl⟩, Nat.le_trans (show (unk x).length ≤ 10000 by omega) (by decide), fun n hn => ?_, ?_⟩
      · rw [flats_map (g := D.int)]
      · refine ⟨_, rfl, ?_⟩
        trivial
        refine op_notinI ?_
        refine br_dec (fun h => ?_) (fun h => ?_)
        · refine ⟨by rw [decide_eq_false h]; rfl, ?_⟩
          trivial
          exact ⟨rfl, rfl⟩
        · exact ⟨by rw [decide_eq_true (Classical.not_not.mp h)]; rfl, rfl⟩
      · trivial
        rw [flat_map (g := D.int)]
        refine op_catI (by rw [List.length_map, List.length_map]; omega) ?_
        trivial
        rw [← List.map_append, flats_im]
        exact ⟨some (.im (kdD x)), rfl⟩
      · rfl
      · refine ⟨_, rfl, ?_⟩
        trivial
        refine op_notinI ?_
        refine br_dec (fun h => ?_) (fun h => ?_)
        · refine ⟨by rw [decide_eq_false h]; rfl, ?_⟩
          trivial
          exact ⟨rfl, rfl⟩
        · exact ⟨by rw [decide_eq_true (Classical.not_not.mp h)]; rfl, rfl⟩
      · trivial
        rw [flat_map (g := D.int)]
        refine op_catI (by rw [List.length_map, List.length_map]; omega) ?_
        trivial
        rw [← List.map_append, flats_im]
        exact ⟨some (.im (kdD x)), rfl⟩
    · rintro e ⟨s2, rfl⟩
      rw [List.take_length, fnd_kids (fun n z => by cases z)]
      trivial
      exact .inr rfl
  | j + 1, .list a, hz, h => by
    have ih := fun x (hx : x ∈ kids (.list a)) => lunk_ok j x (Nat.le_trans (ksz_kids hx) hz) (by have := kids_dp hx; omega)
    refine w_fi ?_
    unfold d__law_unknowns
    show SW _ [some (false, .im _), none, none, none] _
    simp only [kdD]
    trivial
    refine w_call (ds := [_]) (linner_ok (.list a)) rfl ?_
    rintro v rfl
    dsimp only [rvF]
    trivial
    rw [flats_map (g := kdD)]
    refine sw_each (kids (.list a)) kdD (fun i e => ∃ s2, e = [some (false, .im (.tup [.str (Str.ofString "list"), kdD a])), some (false, .im (liD (fnd [] ((kids (.list a)).take i)))), fo s2, none]) ⟨none, rfl⟩ ?_ ?_
    · rintro i x e hi ⟨s2, rfl⟩
      have hx : x ∈ kids (.list a) := List.mem_of_getElem? hi
      have hl := fnd_len [] ((kids (.list a)).take i)
      have hk := kids_tk (.list a) i
      have hu := unk_len x
      have hzx := ksz_kids hx
      rw [List.length_nil] at hl
      rw [take_snoc hi, fnd_snoc]
      generalize fnd [] ((kids (.list a)).take i) = F at hl
      refine ⟨[some (false, .im (.tup [.str (Str.ofString "list"), kdD a])), some (false, .im (liD F)), some (false, .im (kdD x)), none], by cases s2 <;> rfl, ?_⟩
      trivial
      refine w_compF (unk x) D.int (fun n => !(decide (n ∈ F))) (fun n => O.im (.int n)) ?_
      trivial
      refine w_call (ds := [_]) (ih x hx) rfl ?_
      have fin : ∀ ds : List D, ds = (unk x).map D.int → ds = (unk x).map D.int := fun _ h => h
      have hlf := List.length_filter_le (fun n => !(decide (n ∈ F))) (unk x)
      rintro v (rfl | rfl)
      all_goals
        dsimp only [rvF]
        trivial
        refine ⟨?_, ⟨rfl, rfl⟩, Nat.le_trans (show (unk x).length ≤ 10000 by omega) (by decide), fun n hn => ?_, ?_⟩
      · rw [flats_map (g := D.int)]
      · refine ⟨_, rfl, ?_⟩
        trivial
        refine op_notinI ?_
        refine br_dec (fun h => ?_) (fun h => ?_)
        · refine ⟨by rw [decide_eq_false h]; rfl, ?_⟩
          trivial
          exact ⟨rfl, rfl⟩
        · exact ⟨by rw [decide_eq_true (Classical.not_not.mp h)]; rfl, rfl⟩
      · trivial
        rw [flat_map (g := D.int)]
        refine op_catI (by rw [List.length_map, List.length_map]; omega) ?_
        trivial
        rw [← List.map_append, flats_im]
        exact ⟨some (.im (kdD x)), rfl⟩
      · rfl
      · refine ⟨_, rfl, ?_⟩
        trivial
        refine op_notinI ?_
        refine br_dec (fun h => ?_) (fun h => ?_)
        · refine ⟨by rw [decide_eq_false h]; rfl, ?_⟩
          trivial
          exact ⟨rfl, rfl⟩
        · exact ⟨by rw [decide_eq_true (Classical.not_not.mp h)]; rfl, rfl⟩
      · trivial
        rw [flat_map (g := D.int)]
        refine op_catI (by rw [List.length_map, List.length_map]; omega) ?_
        trivial
        rw [← List.map_append, flats_im]
        exact ⟨some (.im (kdD x)), rfl⟩
    · rintro e ⟨s2, rfl⟩
      rw [List.take_length, fnd_kids (fun n z => by cases z)]
      trivial
      exact .inr rfl
  | j + 1, .pair a b, hz, h => by
    have ih := fun x (hx : x ∈ kids (.pair a b)) => lunk_ok j x (Nat.le_trans (ksz_kids hx) hz) (by have := kids_dp hx; omega)
    refine w_fi ?_
    unfold d__law_unknowns
    show SW _ [some (false, .im _), none, none, none] _
    simp only [kdD]
    trivial
    refine w_call (ds := [_]) (linner_ok (.pair a b)) rfl ?_
    rintro v rfl
    dsimp only [rvF]
    trivial
    rw [flats_map (g := kdD)]
    refine sw_each (kids (.pair a b)) kdD (fun i e => ∃ s2, e = [some (false, .im (.tup [.str (Str.ofString "pair"), kdD a, kdD b])), some (false, .im (liD (fnd [] ((kids (.pair a b)).take i)))), fo s2, none]) ⟨none, rfl⟩ ?_ ?_
    · rintro i x e hi ⟨s2, rfl⟩
      have hx : x ∈ kids (.pair a b) := List.mem_of_getElem? hi
      have hl := fnd_len [] ((kids (.pair a b)).take i)
      have hk := kids_tk (.pair a b) i
      have hu := unk_len x
      have hzx := ksz_kids hx
      rw [List.length_nil] at hl
      rw [take_snoc hi, fnd_snoc]
      generalize fnd [] ((kids (.pair a b)).take i) = F at hl
      refine ⟨[some (false, .im (.tup [.str (Str.ofString "pair"), kdD a, kdD b])), some (false, .im (liD F)), some (false, .im (kdD x)), none], by cases s2 <;> rfl, ?_⟩
      trivial
      refine w_compF (unk x) D.int (fun n => !(decide (n ∈ F))) (fun n => O.im (.int n)) ?_
      trivial
      refine w_call (ds := [_]) (ih x hx) rfl ?_
      have fin : ∀ ds : List D, ds = (unk x).map D.int → ds = (unk x).map D.int := fun _ h => h
      have hlf := List.length_filter_le (fun n => !(decide (n ∈ F))) (unk x)
      rintro v (rfl | rfl)
      all_goals
        dsimp only [rvF]
        trivial
        refine ⟨?_, ⟨rfl, rfl⟩, Nat.le_trans (show (unk x).length ≤ 10000 by omega) (by decide), fun n hn => ?_, ?_⟩
      · rw [flats_map (g := D.int)]
      · refine ⟨_, rfl, ?_⟩
        trivial
        refine op_notinI ?_
        refine br_dec (fun h => ?_) (fun h => ?_)
        · refine ⟨by rw [decide_eq_false h]; rfl, ?_⟩
          trivial
          exact ⟨rfl, rfl⟩
        · exact ⟨by rw [decide_eq_true (Classical.not_not.mp h)]; rfl, rfl⟩
      · trivial
        rw [flat_map (g := D.int)]
        refine op_catI (by rw [List.length_map, List.length_map]; omega) ?_
        trivial
        rw [← List.map_append, flats_im]
        exact ⟨some (.im (kdD x)), rfl⟩
      · rfl
      · refine ⟨_, rfl, ?_⟩
        trivial
        refine op_notinI ?_
        refine br_dec (fun h => ?_) (fun h => ?_)
        · refine ⟨by rw [decide_eq_false h]; rfl, ?_⟩
          trivial
          exact ⟨rfl, rfl⟩
        · exact ⟨by rw [decide_eq_true (Classical.not_not.mp h)]; rfl, rfl⟩
      · trivial
        rw [flat_map (g := D.int)]
        refine op_catI (by rw [List.length_map, List.length_map]; omega) ?_
        trivial
        rw [← List.map_append, flats_im]
        exact ⟨some (.im (kdD x)), rfl⟩
    · rintro e ⟨s2, rfl⟩
      rw [List.take_length, fnd_kids (fun n z => by cases z)]
      trivial
      exact .inr rfl
/-! ### the law's own comparison -/
abbrev EqT (j : Nat) (d : D) : Prop := FI (f__law_equal j) [d, d] (· = .im (.bl true))
theorem eq_int (j : Nat) (n : Int) : EqT (j + 1) (.int n) := by
  refine w_fi ?_
  unfold d__law_equal
  show SW _ [some (false, .im _), some (false, .im _), none] _
  trivial
  rw [decide_eq_true rfl]
theorem eq_bl (j : Nat) (b : Bool) : EqT (j + 1) (.bl b) := by
  refine w_fi ?_
  unfold d__law_equal
  show SW _ [some (false, .im _), some (false, .im _), none] _
  cases b
  · trivial
    rw [show (PyData.bool false).eqv (PyData.bool false) = true from by decide +kernel]
  · trivial
    rw [show (PyData.bool true).eqv (PyData.bool true) = true from by decide +kernel]
theorem eq_str (j : Nat) {l : List Nat} (h : ok l) : EqT (j + 1) (.str (S l)) := by
  refine w_fi ?_
  unfold d__law_equal
  show SW _ [some (false, .im _), some (false, .im _), none] _
  trivial
  refine op_eqS h h ?_
  trivial
  rw [decide_eq_true rfl]
theorem op_elT {ds : List D} {i : Nat} {P : O → Prop} (h : i < ds.length) (p : P (.im ds[i])) : OP (elemOO (.im (.tup ds)) (.int (i : Int))) P := ⟨_, by
  show (L2.atI ds (i : Int)).map O.im = _
  rw [atI_nn _ _ (Int.natCast_nonneg i), Int.toNat_natCast, List.getElem?_eq_getElem h]
  rfl, p⟩
theorem op_elL {ds : List D} {i : Nat} {P : O → Prop} (h : i < ds.length) (p : P (.im ds[i])) : OP (elemOO (.im (.lst ds)) (.int (i : Int))) P := ⟨_, by
  show (L2.atI ds (i : Int)).map O.im = _
  rw [atI_nn _ _ (Int.natCast_nonneg i), Int.toNat_natCast, List.getElem?_eq_getElem h]
  rfl, p⟩
theorem op_elO {ns : List Int} {i : Nat} {P : O → Prop} (h : i < ns.length) (p : P (.im (.int ns[i]))) : OP (elemOO (dl ns) (.int (i : Int))) P := ⟨_, by
  show (L2.atI (ns.map fun n => O.im (.int n)) (i : Int)) = _
  rw [atI_nn _ _ (Int.natCast_nonneg i), Int.toNat_natCast, List.getElem?_map, List.getElem?_eq_getElem h]
  rfl, p⟩
theorem eq_tup {j : Nat} {ds : List D} (hl : ds.length ≤ 100000) (h : ∀ d ∈ ds, EqT j d) : EqT (j + 1) (.tup ds) := by
  refine w_fi ?_
  unfold d__law_equal
  show SW _ [some (false, .im _), some (false, .im _), none] _
  trivial
  refine br_dec (fun _ => ?_) (fun h => absurd rfl h)
  trivial
  refine ⟨⟨by omega, by omega⟩, ?_⟩
  refine sw_range (fun i e => ∃ s2, e = [some (false, .im (.tup ds)), some (false, .im (.tup ds)), fo s2]) ⟨none, rfl⟩ ?_ ?_
  · rintro i e hi ⟨s2, rfl⟩
    have hi : i < ds.length := by omega
    refine ⟨[some (false, .im (.tup ds)), some (false, .im (.tup ds)), some (false, .im (.int i))], by cases s2 <;> rfl, ?_⟩
    trivial
    refine op_elT hi ?_
    trivial
    refine op_elT hi ?_
    trivial
    refine w_callI (ds := [_, _]) (h _ (List.getElem_mem hi)) rfl ?_
    trivial
    exact ⟨some (.im (.int i)), rfl⟩
  · rintro e ⟨s2, rfl⟩
    trivial
theorem eq_lst {j : Nat} {ds : List D} (hl : ds.length ≤ 100000) (h : ∀ d ∈ ds, EqT j d) : EqT (j + 1) (.lst ds) := by
  refine w_fi ?_
  unfold d__law_equal
  show SW _ [some (false, .im _), some (false, .im _), none] _
  trivial
  refine br_dec (fun _ => ?_) (fun h => absurd rfl h)
  trivial
  refine ⟨⟨by omega, by omega⟩, ?_⟩
  refine sw_range (fun i e => ∃ s2, e = [some (false, .im (.lst ds)), some (false, .im (.lst ds)), fo s2]) ⟨none, rfl⟩ ?_ ?_
  · rintro i e hi ⟨s2, rfl⟩
    have hi : i < ds.length := by omega
    refine ⟨[some (false, .im (.lst ds)), some (false, .im (.lst ds)), some (false, .im (.int i))], by cases s2 <;> rfl, ?_⟩
    trivial
    refine op_elL hi ?_
    trivial
    refine op_elL hi ?_
    trivial
    refine w_callI (ds := [_, _]) (h _ (List.getElem_mem hi)) rfl ?_
    trivial
    exact ⟨some (.im (.int i)), rfl⟩
  · rintro e ⟨s2, rfl⟩
    trivial
theorem eq_lent {j : Nat} {ns : List Int} (hl : ns.length ≤ 100000) : FO (f__law_equal (j + 2)) [dl ns, .im (liD ns)] fun os' r => os' = [dl ns, .im (liD ns)] ∧ r = .im (.bl true) := by
  refine w_fun ?_
  unfold d__law_equal
  show SW _ [some (true, _), some (false, _), none] _
  trivial
  rw [flats_map (g := D.int), List.length_map]
  refine br_dec (fun _ => ?_) (fun h => absurd rfl h)
  trivial
  rw [List.length_map]
  refine ⟨⟨by omega, by omega⟩, ?_⟩
  refine sw_range (fun i e => ∃ s2, e = [some (true, dl ns), some (false, .im (liD ns)), fo s2]) ⟨none, rfl⟩ ?_ ?_
  · rintro i e hi ⟨s2, rfl⟩
    have hi : i < ns.length := by omega
    refine ⟨[some (true, dl ns), some (false, .im (liD ns)), some (false, .im (.int i))], by cases s2 <;> rfl, ?_⟩
    trivial
    refine op_elO hi ?_
    trivial
    refine op_elL (by rw [List.length_map]; exact hi) ?_
    rw [List.getElem_map]
    trivial
    refine w_callI (ds := [_, _]) (eq_int j _) rfl ?_
    trivial
    exact ⟨some (.im (.int i)), rfl⟩
  · rintro e ⟨s2, rfl⟩
    trivial
    exact ⟨_, rfl, rfl, rfl⟩
theorem eq_ints {j : Nat} {ns : List Int} (hl : ns.length ≤ 100000) : EqT (j + 2) (liD ns) := eq_lst (by rw [List.length_map]; exact hl) fun d hd => by
  obtain ⟨n, _, rfl⟩ := List.mem_map.mp hd
  exact eq_int j n
theorem ok_hd : ∀ k : Kd, ∃ l, hdS k = S l ∧ ok l := fun k => ⟨(hdS k).cps.toList, by
  cases hdS k
  show Str.mk _ = Str.mk _
  simp, by
  have : ∀ i : Fin 6, ∀ c ∈ (nm i.val).cps.toList, c < 128 := by decide +kernel
  rw [hdS_nm]
  exact this ⟨hc k, hc_lt k⟩⟩
theorem eq_hd (j : Nat) (k : Kd) : EqT (j + 1) (.str (hdS k)) := by
  obtain ⟨l, e, h⟩ := ok_hd k
  rw [e]
  exact eq_str j h
theorem eq_kd : ∀ (k : Kd) (j : Nat), dp k < j → EqT j (kdD k)
  | k, 0, h => absurd h (Nat.not_lt_zero _)
  | .any n, j + 1, h => by
    have h : 1 < j + 1 := h
    obtain ⟨i, rfl⟩ : ∃ i, j = i + 1 := ⟨j - 1, by omega⟩
    refine eq_tup (ds := [.str (hdS (.any n)), .int n]) (by show 2 ≤ _; omega) fun d hd => ?_
    rcases List.mem_cons.mp hd with rfl | hd
    · exact eq_hd i (.any n)
    · rw [List.mem_singleton.mp hd]; exact eq_int i n
  | .int, j + 1, h => by
    have h : 1 < j + 1 := h
    obtain ⟨i, rfl⟩ : ∃ i, j = i + 1 := ⟨j - 1, by omega⟩
    refine eq_tup (ds := [.str (hdS (.int))]) (by show 1 ≤ _; omega) fun d hd => ?_
    rcases List.mem_cons.mp hd with rfl | hd
    · exact eq_hd i (.int)
    cases hd
  | .bool, j + 1, h => by
    have h : 1 < j + 1 := h
    obtain ⟨i, rfl⟩ : ∃ i, j = i + 1 := ⟨j - 1, by omega⟩
    refine eq_tup (ds := [.str (hdS (.bool))]) (by show 1 ≤ _; omega) fun d hd => ?_
    rcases List.mem_cons.mp hd with rfl | hd
    · exact eq_hd i (.bool)
    cases hd
  | .out, j + 1, h => by
    have h : 1 < j + 1 := h
    obtain ⟨i, rfl⟩ : ∃ i, j = i + 1 := ⟨j - 1, by omega⟩
    refine eq_tup (ds := [.str (hdS (.out))]) (by show 1 ≤ _; omega) fun d hd => ?_
    rcases List.mem_cons.mp hd with rfl | hd
    · exact eq_hd i (.out)
    cases hd
  | .list a, j + 1, h => by
    have h : dp a + 1 < j + 1 := h
    obtain ⟨i, rfl⟩ : ∃ i, j = i + 1 := ⟨j - 1, by omega⟩
    have iha := eq_kd a (i + 1) (by omega)
    refine eq_tup (ds := [.str (hdS (.list a)), kdD a]) (by show 2 ≤ _; omega) fun d hd => ?_
    rcases List.mem_cons.mp hd with rfl | hd
    · exact eq_hd i (.list a)
    rcases List.mem_cons.mp hd with rfl | hd
    · exact iha
    cases hd
  | .pair a b, j + 1, h => by
    have h : max (dp a) (dp b) + 1 < j + 1 := h
    obtain ⟨i, rfl⟩ : ∃ i, j = i + 1 := ⟨j - 1, by omega⟩
    have iha := eq_kd a (i + 1) (by omega)
    have ihb := eq_kd b (i + 1) (by omega)
    refine eq_tup (ds := [.str (hdS (.pair a b)), kdD a, kdD b]) (by show 3 ≤ _; omega) fun d hd => ?_
    rcases List.mem_cons.mp hd with rfl | hd
    · exact eq_hd i (.pair a b)
    rcases List.mem_cons.mp hd with rfl | hd
    · exact iha
    rcases List.mem_cons.mp hd with rfl | hd
    · exact ihb
    cases hd
theorem looks_ok {k : Kd} (hn : nok k) (hz : ksz k ≤ 10000) (hd : dp k < 60) : FI f__law_looks [kdD k] (· = .im (.bl true)) := by
  have hul := unk_len k
  refine w_fi ?_
  unfold d__law_looks
  show SW _ [some (false, .im _), none] _
  trivial
  refine w_callI (ds := [_]) (size_ok 60 k hd) rfl ?_
  trivial
  refine w_callI (ds := [_]) (lsize_ok 60 k hd) rfl ?_
  trivial
  refine w_callI (ds := [_, _]) (eq_int 59 _) rfl ?_
  trivial
  refine w_callI (ds := [_]) (format_ok 60 k hn hz hd) rfl ?_
  trivial
  refine w_callI (ds := [_]) (lformat_ok 60 k hn hz hd) rfl ?_
  trivial
  refine w_callI (ds := [_, _]) (eq_str 59 (fmt_ok k)) rfl ?_
  trivial
  refine w_call (ds := [_]) (unk_ok 60 k hz hd) rfl ?_
  rintro v rfl
  dsimp only [rvF]
  trivial
  have len : ((unk k).map fun n => O.im (.int n)).length < sizeLine := by
    rw [List.length_map]
    exact Nat.lt_of_lt_of_le (show (unk k).length < 100000 by omega) (by decide)
  refine w_call (ds := [_]) (lunk_ok 60 k hz hd) rfl ?_
  rintro v (rfl | rfl)
  all_goals
    dsimp only [rvF]
    trivial
    try simp only [flat_map (g := D.int)]
    refine w_fo (eq_lent (j := 58) (ns := unk k) (by omega)) rfl rfl (.inl rfl) ?_
    rintro os' r ⟨rfl, rfl⟩
    refine ⟨_, rfl, ?_⟩
    simp only [List.set_cons_succ, List.set_cons_zero, rvF]
    trivial
    refine w_call (ds := [_]) (unk_ok 60 k hz hd) rfl ?_
    rintro v rfl
    dsimp only [rvF]
    trivial
    refine w_call (ds := [_]) (lunk_ok 60 k hz hd) rfl ?_
    rintro v (rfl | rfl)
    all_goals
      dsimp only [rvF]
      trivial
      try simp only [flat_map (g := D.int)]
      refine w_callI (ds := [_, _]) (eq_ints (j := 58) (ns := unk k) (by omega)) rfl ?_
      trivial
end K14

namespace K14
open PySem DL TOK NTN KND
local macro_rules
  | `(tactic| trivial) => `(tactic| repeat' with_reducible first
    | refine DL.w_pure ?_ | refine DL.w_dq ?_ | refine DL.w_imR ?_ | refine DL.w_imD ?_ | refine DL.w_fl ?_ | refine DL.w_bin ?_ | refine DL.w_cmp ?_ | refine DL.w_rev ?_ | refine DL.w_cat ?_ | refine DL.w_chain ?_ | refine DL.w_dtB ?_ | refine DL.w_dtru ?_
    | refine DL.w_frzI (by with_unfolding_all rfl) ?_ | refine DL.w_vwI (by with_unfolding_all rfl) ?_ | refine DL.w_owO (by with_unfolding_all rfl) ?_ | refine DL.w_varI (by with_unfolding_all rfl) ?_ | refine DL.w_varL (by with_unfolding_all rfl) ?_ | refine DL.w_varT (by with_unfolding_all rfl) ?_
    | refine DL.w_vwO (by with_unfolding_all rfl) ?_ | (refine DL.w_frzO (by with_unfolding_all rfl) ?_; simp only [List.set_cons_succ, List.set_cons_zero, DL.O.flat])
    | refine DL.w_dcons ?_ | refine DL.w_dconsV ?_ | refine DL.w_darcons ?_ | (refine DL.w_dtup ?_) | refine DL.w_dlst ?_ | refine DL.w_dixO ?_ | refine DL.w_sq ?_ | refine DL.w_dixX ?_ | refine DL.w_listX ?_ | refine DL.w_sorted ?_ | refine DL.w_un ?_ | refine DL.w_sqC ?_ | refine DL.w_forC ?_ | refine DL.op_fldI (by with_unfolding_all rfl) ?_ | refine DL.w_rg ?_ | refine DL.w_rvO ?_ | refine DL.w_dslice ?_ | refine DL.w_dtmc ?_ | refine DL.w_dtupN ?_ | refine DL.w_dlist ?_ | refine DL.w_dtuple ?_ | refine DL.w_tupV ?_ | refine DL.w_listV ?_
    | refine DL.w_bind ?_ | refine DL.w_lift ?_ | refine DL.w_frz ?_ | refine DL.w_vw ?_ | refine DL.w_ow ?_
    | refine DL.w_dand ?_ | refine DL.w_dor ?_ | refine DL.w_dnot ?_ | refine DL.w_dandV ?_ | refine DL.w_dorV ?_ | refine DL.w_dnotV ?_ | refine DL.w_dif ?_
    | refine DL.frzP_im ?_ | refine DL.frzP_new ?_ | refine DL.vwP_im ?_ | refine DL.vwP_new ?_ | refine DL.vwP_bor ?_ | refine DL.owP_im ?_ | refine DL.owP_new ?_ | refine DL.owP_bor ?_
    | (refine DL.setP_im (by with_unfolding_all first | rfl | exact DL.fo_free rfl) ?_; simp only [List.set_cons_succ, List.set_cons_zero, DL.O.flat]) | (refine DL.setP_new (by with_unfolding_all first | rfl | exact DL.fo_free rfl) ?_; simp only [List.set_cons_succ, List.set_cons_zero, DL.O.flat])
    | refine DL.argP_im ?_ | refine DL.argP_new ?_ | refine DL.argP_bor ?_ | refine DL.rvP_im ?_ | refine DL.rvP_new ?_ | refine DL.mvP_im ?_ | refine DL.mvP_new ?_ | (refine DL.mvP_bor (by with_unfolding_all rfl) ?_; simp only [List.set_cons_succ, List.set_cons_zero]) | refine DL.itP_im ?_ | refine DL.itP_new ?_ | refine DL.tuP_lst ?_ | refine DL.blP_of ?_
    | refine DL.op_rng (by with_unfolding_all decide) ?_ | refine DL.op_rngG ?_ | refine DL.op_isiII ?_ | refine DL.op_isiIB ?_ | refine DL.op_isiTT ?_ | refine DL.op_isiLL ?_
    | refine DL.op_eq ?_ | refine DL.op_ne ?_ | refine DL.br_t ?_ | refine DL.br_f ?_ | refine DL.br_not ?_ | refine DL.br_eqT (by with_unfolding_all rfl) ?_ | refine DL.br_eqF (by with_unfolding_all rfl) ?_
    | refine DL.op_mod (by with_unfolding_all decide) ?_ | refine DL.op_div (by with_unfolding_all decide) ?_ | refine DL.op_mul (DL.mul_r (by with_unfolding_all decide)) ?_ | refine DL.op_mul (DL.mul_l (by with_unfolding_all decide)) ?_ | refine DL.op_pow (by with_unfolding_all decide) ?_
    | refine DL.w_seq ?_ | refine DL.w_next ?_ | refine DL.w_if ?_ | refine DL.w_match ?_ | refine DL.pickP_of (by with_unfolding_all decide) ?_ | refine DL.sp_t ?_ | refine DL.sp_f (by with_unfolding_all decide) ?_ | refine DL.sp_n ?_ | refine DL.w_rt ?_ | refine DL.w_set ?_ | refine DL.w_drop ?_ | refine DL.w_app (by with_unfolding_all rfl) ?_ | (refine DL.appP_of (by with_unfolding_all rfl) (by first | assumption | with_unfolding_all exact Nat.le_of_ble_eq_true rfl | (simp only [List.length_append, List.length_map, List.length_cons, List.length_nil]; omega)) ?_; simp only [List.set_cons_succ, List.set_cons_zero, DL.O.flat]) | refine DL.w_forP ?_ | refine DL.w_sforv (by with_unfolding_all rfl) (by with_unfolding_all rfl) ?_ | refine DL.w_asg ?_ | refine DL.w_forV ?_ | refine DL.sqt_if ?_ | refine DL.sqt_rt ?_ | refine DL.sqt_next ?_
    | refine DL.sz (by with_unfolding_all exact Nat.le_of_ble_eq_true rfl) ?_
    | refine DL.outI_im (by with_unfolding_all exact Nat.le_of_ble_eq_true rfl) ?_ | refine DL.outI_new (by with_unfolding_all exact Nat.le_of_ble_eq_true rfl) ?_ | refine DL.outI_bor (by with_unfolding_all exact Nat.le_of_ble_eq_true rfl) (by with_unfolding_all rfl) ?_
    | exact DL.us_next | exact DL.us_bk | exact DL.us_ct | exact DL.us_rtN | refine DL.us_seq ?_ ?_ | refine DL.us_if ?_ ?_ ?_ | refine DL.us_rt ?_ | refine DL.us_drop ?_ | refine DL.us_setI (by decide) ?_
    | exact DL.ud_pure | exact DL.ud_lift | exact DL.ud_xf | exact DL.ud_xi | exact DL.ud_var (by decide) | exact DL.ud_frz (by decide)
    | refine DL.ud_imR ?_ | refine DL.ud_vw ?_ | refine DL.ud_dtup ?_ | refine DL.ud_dlst ?_ | refine DL.ud_dcons ?_ ?_ | refine DL.ud_dconsV ?_ ?_ | refine DL.ud_dbin ?_ ?_ | refine DL.ud_dcmp ?_ ?_ | refine DL.ud_dtB ?_ | refine DL.ud_dtru ?_
    | refine DL.ud_dnot ?_ | refine DL.ud_dand ?_ ?_ | refine DL.ud_dor ?_ ?_ | refine DL.ud_dnotV ?_ | refine DL.ud_dandV ?_ ?_ | refine DL.ud_dorV ?_ ?_ | refine DL.ud_dif ?_ ?_ ?_ | refine DL.ud_imD ?_ | refine DL.ud_fl ?_ | refine DL.ud_dixO ?_ ?_ | refine DL.ud_dixX ?_ ?_ | exact DL.ud_ow (by decide) | exact DL.ud_meth0 (by decide) | (refine DL.ud_bind ?_ fun _ => ?_)
    | refine DL.w_op (by with_unfolding_all rfl) ?_ | rfl)

theorem op_b2 {i j : Nat} {x y : D} {e : DL.Env} {P : DL.Env → Prop} (h1 : e.free i = true) (h2 : DL.Env.free (e.set i (some (false, .im x))) j = true) (p : P ((e.set i (some (false, .im x))).set j (some (false, .im y)))) : OP (bTup 2 (bCons (bName i) (bCons (bName j) bNil)) (.tup [x, y]) e) P := ⟨_, by
  show (if 2 = 2 then ((bName i x e).bind fun e' => (bName j y e').bind fun e' => some e') else none) = _
  unfold bName
  rw [if_pos rfl, if_pos h1, Option.bind_some, if_pos h2]
  rfl, p⟩
theorem w_sforL {γ : Type} {i : Nat} {b : Bool} {l : List γ} {g : γ → D} {bind : D → DL.Env → Option DL.Env} {body : SDen} {e : DL.Env} {N : DL.Env → Prop} {R : Rv → DL.Env → Prop} {B C : DL.Env → Prop} (h : lk e i = some (b, .lst (l.map fun a => O.im (g a))))
    (p : SW (sloop bind body (l.map g)) (e.set i (some (true, .im .any))) ⟨fun e' => pins e' = pins (e.set i (some (true, .im .any))) ∧ (∃ z, lk e' i = some (true, z)) ∧ N (e'.set i (some (b, .lst (l.map fun a => O.im (g a))))),
      fun r e' => pins e' = pins (e.set i (some (true, .im .any))) ∧ (∃ z, lk e' i = some (true, z)) ∧ match r with
        | .bor j x => j ≠ i ∧ R r (e'.set i (some (b, .lst (l.map fun a => O.im (g a)))))
        | _ => R r (e'.set i (some (b, .lst (l.map fun a => O.im (g a))))), fun _ => False, fun _ => False⟩) : SW (sfor (dvar i) bind body) e ⟨N, R, B, C⟩ :=
  w_sforI (w_varL h (by
    show match lk e i with
      | some (b, o) => OP (seqO o) fun ds => SW (slend i (sloop bind body ds)) e ⟨N, R, B, C⟩
      | none => False
    rw [h]
    exact ⟨_, seqO_map g l, w_slend h p⟩))
def prD (p : Kd × Kd) : D := .tup [kdD p.1, kdD p.2]
theorem op_hd {k : Kd} {P : O → Prop} (p : P (.im (.str (hdS k)))) : OP (elemOO (.im (kdD k)) (.int 0)) P := by
  obtain ⟨r, e⟩ := hd_kdD k
  rw [e]
  have := op_elT (ds := .str (hdS k) :: r) (i := 0) (P := P) (by simp) p
  exact this
theorem op_zipK {m o : Kd} {P : Rv → Prop} (p : P (.new (.lst (((kids m).zip (kids o)).map fun p => O.im (prD p))))) : OP (zipD [.tup ((kids m).map kdD), .tup ((kids o).map kdD)]) P := by
  refine ⟨_, ?_, p⟩
  show (if ((kids m).map kdD).length ≤ 1000000 then some (Rv.new (.lst (((((kids m).map kdD).zip ((kids o).map kdD)).map fun p => D.tup [p.1, p.2]).map O.im))) else none) = _
  have h : (kids m).length ≤ 2 := by cases m <;> simp [kids]
  rw [if_pos (by rw [List.length_map]; omega), List.zip_map, List.map_map, List.map_map]
  rfl
theorem op_eqAny {o : Kd} {P : Bool → Prop} (p : P (decide (hdS o = Str.ofString "any"))) : OP (eqD (.str (hdS o)) (.str (Str.ofString "any"))) P := by
  obtain ⟨c, hc, hiff⟩ := eqD_nice (nice_hd o) (nice_hd (.any 0))
  refine ⟨c, hc, ?_⟩
  have : c = decide (hdS o = Str.ofString "any") := by
    rw [Bool.eq_iff_iff, hiff, decide_eq_true_iff]
    exact ⟨fun z => by injection z, fun z => by rw [z]; rfl⟩
  rw [this]
  exact p
theorem any_of {o : Kd} (h : hdS o = Str.ofString "any") : ∃ n, o = .any n := by
  have hh : hc o = 3 := hd_hc (a := o) (b := .any 0) h
  cases o <;> first | exact ⟨_, rfl⟩ | exact absurd hh (by simp [hc])
/-- kinds of the pairs are not too deep -/
def dps (st : List (Kd × Kd)) : Prop := ∀ p ∈ st, dp p.1 ≤ 60 ∧ dp p.2 ≤ 60
theorem dps_kids {m o : Kd} {st : List (Kd × Kd)} (h : dps ((m, o) :: st)) : dps (((kids m).zip (kids o)).reverse ++ st) := fun p hp => by
  obtain ⟨h1, h2⟩ := h (m, o) List.mem_cons_self
  rcases List.mem_append.mp hp with hp | hp
  · have hz := List.mem_reverse.mp hp
    obtain ⟨a, b⟩ := p
    obtain ⟨k1, k2⟩ := List.of_mem_zip hz
    have e1 := kids_dp k1
    have e2 := kids_dp k2
    exact ⟨by show dp a ≤ 60; have : dp m ≤ 60 := h1; omega, by show dp b ≤ 60; have : dp o ≤ 60 := h2; omega⟩
  · exact h p (List.mem_cons_of_mem _ hp)
def tdp (t : List (Int × Kd)) : Prop := ∀ n w, getA t n = some w → dp w ≤ 60
theorem tdp_put {t : List (Int × Kd)} {n : Int} {m : Kd} (h : tdp t) (hm : dp m ≤ 60) : tdp (putA t n m) := fun k w hw => by
  rw [getA_put] at hw
  split at hw
  · cases hw; exact hm
  · exact h k w hw
abbrev plO (st : List (Kd × Kd)) : O := .lst (st.reverse.map fun p => O.im (prD p))
abbrev tbO (t : List (Int × Kd)) : O := dcA D.int (fun k => O.im (kdD k)) t
theorem pl_last {p : Kd × Kd} {st : List (Kd × Kd)} : ((p :: st).reverse.map fun p => O.im (prD p))[((p :: st).reverse.map fun p => O.im (prD p)).length - 1]? = some (.im (prD p)) := by
  rw [List.reverse_cons, List.map_append, List.length_append]
  show (_ ++ [O.im (prD p)])[_ + 1 - 1]? = _
  rw [Nat.add_sub_cancel, List.getElem?_append_right (Nat.le_refl _), Nat.sub_self]
  rfl
theorem pl_drop {p : Kd × Kd} {st : List (Kd × Kd)} : ((p :: st).reverse.map fun p => O.im (prD p)).dropLast = st.reverse.map fun p => O.im (prD p) := by
  rw [List.reverse_cons, List.map_append]
  exact List.dropLast_concat
theorem pl_add {m o : Kd} {st : List (Kd × Kd)} : (st.reverse.map fun p => O.im (prD p)) ++ (((kids m).zip (kids o)).map prD).map O.im = (((kids m).zip (kids o)).reverse ++ st).reverse.map fun p => O.im (prD p) := by
  rw [List.reverse_append, List.reverse_reverse, List.map_append, List.map_map]
  rfl
theorem stz_len : ∀ st : List (Kd × Kd), st.length ≤ stz st
  | [] => Nat.le_refl _
  | p :: st => by
    have := stz_len st
    have h := ksz_pos p.2
    unfold stz at this ⊢
    rw [List.map_cons, List.sum_cons, List.length_cons]
    omega
theorem inst_ok {K G : Kd} (hK : dp K ≤ 60) (hG : dp G ≤ 60) (hz : ksz G ≤ 1000) : FI f_is_instance [kdD K, kdD G] (· = .im (.bl (run (ksz G) [(K, G)] []))) := by
  refine w_fi ?_
  unfold d_is_instance
  show SW _ [some (false, .im _), some (false, .im _), none, none, none, none] _
  refine w_seqM (fun e => e = [some (false, .im (kdD K)), some (false, .im (kdD G)), some (false, tbO []), none, none, none]) ?_ ?_
  · trivial
    rfl
  rintro e rfl
  refine w_seqM (fun e => e = [some (false, .im (kdD K)), some (false, .im (kdD G)), some (false, tbO []), some (false, plO [(K, G)]), none, none]) ?_ ?_
  · trivial
    rfl
  rintro e rfl
  generalize hB : run (ksz G) [(K, G)] [] = B
  refine w_seq ?_
  refine sw_while (fun k e => ∃ st t s4 s5, e = [some (false, .im (kdD K)), some (false, .im (kdD G)), some (false, tbO t), some (false, plO st), fo s4, fo s5] ∧ stz st ≤ k ∧ run k st t = B ∧ dps st ∧ tdp t ∧ t.length + k ≤ 1000) ?_ 1000000 (ksz G) _ (by omega) ⟨[(K, G)], [], none, none, rfl, by show ksz G + 0 ≤ _; omega, hB, fun p hp => (by rw [List.mem_singleton.mp hp]; exact ⟨hK, hG⟩), fun n w h => (by cases h), by show 0 + ksz G ≤ _; omega⟩
  rintro k e ⟨st, t, s4, s5, rfl, hk, hr, hd, ht, hl⟩
  trivial
  rw [flats_map (g := prD), List.length_map, List.length_reverse]
  cases st with
  | nil =>
    refine br_dec (fun h => absurd h (by decide)) (fun _ => ?_)
    have : B = true := by rw [← hr]; cases k <;> rfl
    subst this
    trivial
  | cons p st =>
    obtain ⟨m, o⟩ := p
    have hs : stz ((m, o) :: st) = ksz o + stz st := by unfold stz; rw [List.map_cons, List.sum_cons]
    have ho := ksz_pos o
    obtain ⟨f, rfl⟩ : ∃ f, k = f + 1 := ⟨k - 1, by omega⟩
    obtain ⟨dm, do_⟩ := hd (m, o) List.mem_cons_self
    have dm : dp m ≤ 60 := dm
    have do_ : dp o ≤ 60 := do_
    have hd' : dps st := fun p hp => hd p (List.mem_cons_of_mem _ hp)
    refine br_dec (fun _ => ?_) (fun h => absurd (show ((((m, o) :: st).length : Nat) : Int) > 0 from by rw [List.length_cons]; omega) h)
    refine ⟨f, by omega, ?_⟩
    refine w_seqM (fun e => e = [some (false, .im (kdD K)), some (false, .im (kdD G)), some (false, tbO t), some (false, plO st), some (false, .im (kdD m)), some (false, .im (kdD o))]) ?_ ?_
    · trivial
      refine w_pop rfl pl_last ?_
      rw [pl_drop]
      trivial
      refine op_b2 (fo_free rfl) (fo_free rfl) ?_
      rfl
    rintro e rfl
    trivial
    refine op_hd ?_
    trivial
    refine op_eqAny ?_
    refine br_dec (fun h => ?_) (fun h => ?_)
    · obtain ⟨n, rfl⟩ := any_of h
      rw [run_any] at hr
      trivial
      refine w_getX ?_
      trivial
      refine ⟨rfl, ?_⟩
      trivial
      refine w_op (kg_int.get t n _) ?_
      trivial
      have nx : ∀ {R' : Rv → DL.Env → Prop} {B' C' : DL.Env → Prop}, (getA t n = none ∨ getA t n = some m) → SW (sstP (dvar 4) (dplVar 2) (imD (dixO (ow (dvar 5)) (dpure (.int 1))))) [some (false, .im (kdD K)), some (false, .im (kdD G)), some (false, tbO t), some (false, plO st), some (false, .im (kdD m)), some (false, .im (kdD (.any n)))] ⟨fun e => ∃ st t s4 s5, e = [some (false, .im (kdD K)), some (false, .im (kdD G)), some (false, tbO t), some (false, plO st), fo s4, fo s5] ∧ stz st ≤ f ∧ run f st t = B ∧ dps st ∧ tdp t ∧ t.length + f ≤ 1000, R', B', C'⟩ := fun {_ _ _} hg => by
        rw [if_neg (fun z => by rcases hg with hg | hg; exact z.1 hg; exact z.2 hg)] at hr
        refine w_stD kg_int (h := fun k => O.im (kdD k)) ?_
        trivial
        refine w_pVar rfl rfl fun pl h1 h2 => ?_
        trivial
        refine ⟨t, n, m, rfl, rfl, h1, Nat.lt_of_lt_of_le (show t.length < 1000 by omega) (by decide), ?_⟩
        have := putA_len t n m
        rw [h2]
        exact ⟨st, putA t n m, some (.im (kdD m)), some (.im (kdD (.any n))), rfl, by have : stz ((m, Kd.any n) :: st) = 1 + stz st := hs; omega, hr, hd', tdp_put ht dm, by omega⟩
      cases hg : getA t n with
      | none =>
        show OP (neD (kdD m) (kdD m)) _
        refine op_neK dm dm ?_
        refine br_dec (fun h => absurd rfl h) (fun _ => ?_)
        trivial
        exact nx (.inl hg)
      | some w =>
        show OP (neD (kdD w) (kdD m)) _
        refine op_neK (ht n w hg) dm ?_
        refine br_dec (fun h => ?_) (fun h => ?_)
        · rw [if_pos ⟨by rw [hg]; simp, by rw [hg]; simpa using h⟩] at hr
          subst hr
          trivial
        · trivial
          exact nx (.inr (by rw [hg, Classical.not_not.mp h]))
    · have hna : ∀ n, o ≠ .any n := fun n z => h (by rw [z]; rfl)
      rw [run_other hna] at hr
      trivial
      refine op_hd ?_
      trivial
      refine op_hd ?_
      trivial
      refine op_neH ?_
      refine br_dec (fun h2 => ?_) (fun h2 => ?_)
      · rw [if_pos h2] at hr
        subst hr
        trivial
      · rw [if_neg h2] at hr
        have h2 := Classical.not_not.mp h2
        have hk2 := stz_kids (st := st) h2
        have hzl : ((kids m).zip (kids o)).length ≤ 2 := by
          rw [List.length_zip]
          have : (kids m).length ≤ 2 := by cases m <;> simp [kids]
          omega
        have hsl := stz_len ((m, o) :: st)
        rw [List.length_cons] at hsl
        trivial
        refine w_ext ⟨_, _, rfl⟩ ?_
        trivial
        refine w_callI (ds := [_]) (inner_ok m) rfl ?_
        trivial
        refine w_callI (ds := [_]) (inner_ok o) rfl ?_
        trivial
        refine op_zipK ?_
        trivial
        rw [flat_map (g := prD)]
        refine ⟨_, _, _, rfl, rfl, Nat.le_trans (show _ ≤ 10000 by rw [List.length_map, List.length_map, List.length_reverse]; omega) (by decide), ?_⟩
        refine ⟨((kids m).zip (kids o)).reverse ++ st, t, some (.im (kdD m)), some (.im (kdD o)), ?_, by omega, hr, dps_kids hd, ht, by omega⟩
        rw [pl_add]
        rfl
end K14

namespace K14
open PySem DL TOK NTN KND
local macro_rules
  | `(tactic| trivial) => `(tactic| repeat' with_reducible first
    | refine DL.w_pure ?_ | refine DL.w_dq ?_ | refine DL.w_imR ?_ | refine DL.w_imD ?_ | refine DL.w_fl ?_ | refine DL.w_bin ?_ | refine DL.w_cmp ?_ | refine DL.w_rev ?_ | refine DL.w_cat ?_ | refine DL.w_chain ?_ | refine DL.w_dtB ?_ | refine DL.w_dtru ?_
    | refine DL.w_frzI (by with_unfolding_all rfl) ?_ | refine DL.w_vwI (by with_unfolding_all rfl) ?_ | refine DL.w_owO (by with_unfolding_all rfl) ?_ | refine DL.w_varI (by with_unfolding_all rfl) ?_ | refine DL.w_varL (by with_unfolding_all rfl) ?_ | refine DL.w_varT (by with_unfolding_all rfl) ?_
    | refine DL.w_vwO (by with_unfolding_all rfl) ?_ | (refine DL.w_frzO (by with_unfolding_all rfl) ?_; simp only [List.set_cons_succ, List.set_cons_zero, DL.O.flat])
    | refine DL.w_dcons ?_ | refine DL.w_dconsV ?_ | refine DL.w_darcons ?_ | (refine DL.w_dtup ?_) | refine DL.w_dlst ?_ | refine DL.w_dixO ?_ | refine DL.w_sq ?_ | refine DL.w_dixX ?_ | refine DL.w_listX ?_ | refine DL.w_sorted ?_ | refine DL.w_un ?_ | refine DL.w_sqC ?_ | refine DL.w_forC ?_ | refine DL.op_fldI (by with_unfolding_all rfl) ?_ | refine DL.w_rg ?_ | refine DL.w_rvO ?_ | refine DL.w_dslice ?_ | refine DL.w_dtmc ?_ | refine DL.w_dtupN ?_ | refine DL.w_dlist ?_ | refine DL.w_dtuple ?_ | refine DL.w_tupV ?_ | refine DL.w_listV ?_
    | refine DL.w_bind ?_ | refine DL.w_lift ?_ | refine DL.w_frz ?_ | refine DL.w_vw ?_ | refine DL.w_ow ?_
    | refine DL.w_dand ?_ | refine DL.w_dor ?_ | refine DL.w_dnot ?_ | refine DL.w_dandV ?_ | refine DL.w_dorV ?_ | refine DL.w_dnotV ?_ | refine DL.w_dif ?_
    | refine DL.frzP_im ?_ | refine DL.frzP_new ?_ | refine DL.vwP_im ?_ | refine DL.vwP_new ?_ | refine DL.vwP_bor ?_ | refine DL.owP_im ?_ | refine DL.owP_new ?_ | refine DL.owP_bor ?_
    | (refine DL.setP_im (by with_unfolding_all first | rfl | exact DL.fo_free rfl) ?_; simp only [List.set_cons_succ, List.set_cons_zero, DL.O.flat]) | (refine DL.setP_new (by with_unfolding_all first | rfl | exact DL.fo_free rfl) ?_; simp only [List.set_cons_succ, List.set_cons_zero, DL.O.flat])
    | refine DL.argP_im ?_ | refine DL.argP_new ?_ | refine DL.argP_bor ?_ | refine DL.rvP_im ?_ | refine DL.rvP_new ?_ | refine DL.mvP_im ?_ | refine DL.mvP_new ?_ | (refine DL.mvP_bor (by with_unfolding_all rfl) ?_; simp only [List.set_cons_succ, List.set_cons_zero]) | refine DL.itP_im ?_ | refine DL.itP_new ?_ | refine DL.tuP_lst ?_ | refine DL.blP_of ?_
    | refine DL.op_rng (by with_unfolding_all decide) ?_ | refine DL.op_rngG ?_ | refine DL.op_isiII ?_ | refine DL.op_isiIB ?_ | refine DL.op_isiTT ?_ | refine DL.op_isiLL ?_
    | refine DL.op_eq ?_ | refine DL.op_ne ?_ | refine DL.br_t ?_ | refine DL.br_f ?_ | refine DL.br_not ?_ | refine DL.br_eqT (by with_unfolding_all rfl) ?_ | refine DL.br_eqF (by with_unfolding_all rfl) ?_
    | refine DL.op_mod (by with_unfolding_all decide) ?_ | refine DL.op_div (by with_unfolding_all decide) ?_ | refine DL.op_mul (DL.mul_r (by with_unfolding_all decide)) ?_ | refine DL.op_mul (DL.mul_l (by with_unfolding_all decide)) ?_ | refine DL.op_pow (by with_unfolding_all decide) ?_
    | refine DL.w_seq ?_ | refine DL.w_next ?_ | refine DL.w_if ?_ | refine DL.w_match ?_ | refine DL.pickP_of (by with_unfolding_all decide) ?_ | refine DL.sp_t ?_ | refine DL.sp_f (by with_unfolding_all decide) ?_ | refine DL.sp_n ?_ | refine DL.w_rt ?_ | refine DL.w_set ?_ | refine DL.w_drop ?_ | refine DL.w_app (by with_unfolding_all rfl) ?_ | (refine DL.appP_of (by with_unfolding_all rfl) (by first | assumption | with_unfolding_all exact Nat.le_of_ble_eq_true rfl | (simp only [List.length_append, List.length_map, List.length_cons, List.length_nil]; omega)) ?_; simp only [List.set_cons_succ, List.set_cons_zero, DL.O.flat]) | refine DL.w_forP ?_ | refine DL.w_sforv (by with_unfolding_all rfl) (by with_unfolding_all rfl) ?_ | refine DL.w_asg ?_ | refine DL.w_forV ?_ | refine DL.sqt_if ?_ | refine DL.sqt_rt ?_ | refine DL.sqt_next ?_
    | refine DL.sz (by with_unfolding_all exact Nat.le_of_ble_eq_true rfl) ?_
    | refine DL.outI_im (by with_unfolding_all exact Nat.le_of_ble_eq_true rfl) ?_ | refine DL.outI_new (by with_unfolding_all exact Nat.le_of_ble_eq_true rfl) ?_ | refine DL.outI_bor (by with_unfolding_all exact Nat.le_of_ble_eq_true rfl) (by with_unfolding_all rfl) ?_
    | exact DL.us_next | exact DL.us_bk | exact DL.us_ct | exact DL.us_rtN | refine DL.us_seq ?_ ?_ | refine DL.us_if ?_ ?_ ?_ | refine DL.us_rt ?_ | refine DL.us_drop ?_ | refine DL.us_setI (by decide) ?_
    | exact DL.ud_pure | exact DL.ud_lift | exact DL.ud_xf | exact DL.ud_xi | exact DL.ud_var (by decide) | exact DL.ud_frz (by decide)
    | refine DL.ud_imR ?_ | refine DL.ud_vw ?_ | refine DL.ud_dtup ?_ | refine DL.ud_dlst ?_ | refine DL.ud_dcons ?_ ?_ | refine DL.ud_dconsV ?_ ?_ | refine DL.ud_dbin ?_ ?_ | refine DL.ud_dcmp ?_ ?_ | refine DL.ud_dtB ?_ | refine DL.ud_dtru ?_
    | refine DL.ud_dnot ?_ | refine DL.ud_dand ?_ ?_ | refine DL.ud_dor ?_ ?_ | refine DL.ud_dnotV ?_ | refine DL.ud_dandV ?_ ?_ | refine DL.ud_dorV ?_ ?_ | refine DL.ud_dif ?_ ?_ ?_ | refine DL.ud_imD ?_ | refine DL.ud_fl ?_ | refine DL.ud_dixO ?_ ?_ | refine DL.ud_dixX ?_ ?_ | exact DL.ud_ow (by decide) | exact DL.ud_meth0 (by decide) | (refine DL.ud_bind ?_ fun _ => ?_)
    | refine DL.w_op (by with_unfolding_all rfl) ?_ | rfl)

/-- a comprehension whose list is told inside -/
theorem w_compU {γ δ : Type} {q : Bool} {e : DL.Env} {src : Den (List D)} {bind : D → DL.Env → Option DL.Env} {elt : Den Rv} {vs : List Nat} {P : Rv → DL.Env → Prop} (g : γ → D) (E : δ → O) (Rl : γ → δ → Prop)
    (p : EW q src e fun ds e' => ∃ l : List γ, ds = l.map g ∧ (wiped e' vs = true ∧ restE e' (wipeE e' vs) vs = e') ∧ l.length ≤ sizeLine ∧ (∀ a ∈ l, OP (bind (g a) (wipeE e' vs)) fun e1 => EW q elt e1 fun rv e3 => rvP rv e3 fun o e4 => (∃ b, o = E b ∧ Rl a b) ∧ wipeE e4 vs = wipeE e' vs) ∧
      ∀ bs : List δ, bs.length = l.length → (∀ (i : Nat) a b, l[i]? = some a → bs[i]? = some b → Rl a b) → P (.new (.lst (bs.map E))) e') : EW q (dcomp src bind (dpure true) elt vs) e P := by
  obtain ⟨m, e', ds, h1, h2, l, h3⟩ := p
  exact w_compE l g E Rl ⟨m, e', ds, h1, h2, h3⟩
abbrev TO (T : List (Int × Kd)) : O := .lst (T.map fun p => O.im (rowD p))
theorem match_ok {K G : Kd} (hK : dp K ≤ 60) (hG : dp G ≤ 60) (hz : ksz G ≤ 1000) : FI f__law_match [.lst [prD (K, G)]] (· = .im (.bl (run (ksz G) [(K, G)] []))) := by
  refine w_fi ?_
  unfold d__law_match
  show SW _ [some (false, .im _), none, none, none, none, none, none, none, none, none] _
  generalize hB : run (ksz G) [(K, G)] [] = B
  refine w_seqM (fun e => e = [some (false, .im (.lst [prD (K, G)])), some (false, TO []), none, none, none, none, none, none, none, none]) ?_ ?_
  · trivial
    rfl
  rintro e rfl
  refine w_seqM (fun e => e = [some (false, plO [(K, G)]), some (false, TO []), none, none, none, none, none, none, none, none]) ?_ ?_
  · trivial
    first | done | rfl | exact ⟨_, rfl, rfl⟩
  rintro e rfl
  trivial
  refine sw_range (n := 5000) (fun i e => ∃ st t T f s2 s3 s4 s5 s6 s7 s8, e = [some (false, plO st), some (false, TO T), fo s2, fo s3, fo s4, fo s5, fo s6, fo s7, fo s8, none] ∧ stz st ≤ f ∧ run f st t = B ∧ dps st ∧ Cons T t ∧ (∀ p ∈ T, dp p.2 ≤ 60) ∧ T.length + f ≤ 1000 ∧ f + i ≤ 1000) ⟨[(K, G)], [], [], ksz G, none, none, none, none, none, none, none, rfl, by show ksz G + 0 ≤ _; omega, hB, fun p hp => (by rw [List.mem_singleton.mp hp]; exact ⟨hK, hG⟩), fun n w => ⟨fun h => (by cases h), fun h => (by cases h)⟩, fun p hp => (by cases hp), by show 0 + ksz G ≤ _; omega, by omega⟩ ?_ ?_
  · rintro i e hi ⟨st, t, T, f, s2, s3, s4, s5, s6, s7, s8, rfl, hk, hr, hd, hC, hT, hl, hfi⟩
    refine ⟨[some (false, plO st), some (false, TO T), some (false, .im (.int i)), fo s3, fo s4, fo s5, fo s6, fo s7, fo s8, none], by cases s2 <;> rfl, ?_⟩
    trivial
    rw [flats_map (g := prD), List.length_map, List.length_reverse]
    cases st with
    | nil =>
      refine br_dec (fun _ => ?_) (fun h => absurd rfl h)
      have : B = true := by rw [← hr]; cases f <;> rfl
      subst this
      trivial
    | cons p st =>
      obtain ⟨m, o⟩ := p
      have hs : stz ((m, o) :: st) = ksz o + stz st := by unfold stz; rw [List.map_cons, List.sum_cons]
      have ho := ksz_pos o
      obtain ⟨f, rfl⟩ : ∃ f', f = f' + 1 := ⟨f - 1, by omega⟩
      obtain ⟨dm, do_⟩ := hd (m, o) List.mem_cons_self
      have dm : dp m ≤ 60 := dm
      have do_ : dp o ≤ 60 := do_
      have hd' : dps st := fun p hp => hd p (List.mem_cons_of_mem _ hp)
      refine br_dec (fun h => absurd h (show ¬ ((((m, o) :: st).length : Nat) : Int) = 0 from by rw [List.length_cons]; omega)) (fun _ => ?_)
      refine w_next ?_
      refine w_seqM (fun e => e = [some (false, plO st), some (false, TO T), some (false, .im (.int i)), some (false, .im (kdD m)), some (false, .im (kdD o)), fo s5, fo s6, fo s7, fo s8, none]) ?_ ?_
      · trivial
        refine w_pop rfl pl_last ?_
        rw [pl_drop]
        trivial
        refine op_b2 (fo_free rfl) (fo_free rfl) ?_
        rfl
      rintro e rfl
      trivial
      refine op_hd ?_
      trivial
      refine op_eqAny ?_
      refine br_dec (fun h => ?_) (fun h => ?_)
      · obtain ⟨n, rfl⟩ := any_of h
        rw [run_any] at hr
        refine w_seqM (fun e => ∃ s5 s6, e = [some (false, plO st), some (false, TO T), some (false, .im (.int i)), some (false, .im (kdD m)), some (false, .im (kdD (.any n))), fo s5, fo s6, fo s7, fo s8, none] ∧ ∀ p ∈ T, p.1 = n → p.2 = m) ?_ ?_
        · have pin : ∀ (x5 x6 : Option O), pins [some (false, plO st), some (true, O.im D.any), some (false, O.im (D.int (i : Int))), some (false, O.im (kdD m)), some (false, O.im (kdD (.any n))), fo x5, fo x6, fo s7, fo s8, none] = pins ([some (false, plO st), some (false, TO T), some (false, O.im (D.int (i : Int))), some (false, O.im (kdD m)), some (false, O.im (kdD (.any n))), fo s5, fo s6, fo s7, fo s8, none].set 1 (some (true, O.im D.any))) := fun x5 x6 => by cases x5 <;> cases x6 <;> cases s5 <;> cases s6 <;> rfl
          refine w_sforL (l := T) (g := rowD) rfl ?_
          refine sw_each T rowD (fun q e => ∃ s5 s6, e = [some (false, plO st), some (true, .im .any), some (false, .im (.int i)), some (false, .im (kdD m)), some (false, .im (kdD (.any n))), fo s5, fo s6, fo s7, fo s8, none] ∧ ∀ p ∈ T.take q, p.1 = n → p.2 = m) ⟨s5, s6, rfl, fun p hp => (by rw [List.take_zero] at hp; cases hp)⟩ ?_ ?_
          · rintro q p e hq ⟨s5, s6, rfl, hall⟩
            obtain ⟨a, w⟩ := p
            have hm : (a, w) ∈ T := List.mem_of_getElem? hq
            have dw : dp w ≤ 60 := hT (a, w) hm
            refine ⟨[some (false, plO st), some (true, .im .any), some (false, .im (.int i)), some (false, .im (kdD m)), some (false, .im (kdD (.any n))), some (false, .im (.int a)), some (false, .im (kdD w)), fo s7, fo s8, none], by cases s5 <;> cases s6 <;> rfl, ?_⟩
            have step : (a = n → w = m) → ∀ p ∈ T.take (q + 1), p.1 = n → p.2 = m := fun hw p hp => by
              rw [take_snoc hq] at hp
              rcases List.mem_append.mp hp with hp | hp
              · exact hall p hp
              · rw [List.mem_singleton.mp hp]; exact hw
            trivial
            refine br_dec (fun h => ?_) (fun h => ?_)
            · trivial
              refine op_neK dw dm ?_
              refine br_dec (fun h2 => ?_) (fun h2 => ?_)
              · trivial
                have hg : getA t n = some w := (hC n w).mp (by rw [← h]; exact hm)
                rw [if_pos ⟨by rw [hg]; simp, by rw [hg]; simpa using h2⟩] at hr
                subst hr
                exact ⟨pin (some (.im (.int a))) (some (.im (kdD w))), ⟨_, rfl⟩, by show 1 ≤ 10; omega, rfl⟩
              · trivial
                exact ⟨some (.im (.int a)), some (.im (kdD w)), rfl, step fun _ => Classical.not_not.mp h2⟩
            · trivial
              exact ⟨some (.im (.int a)), some (.im (kdD w)), rfl, step fun z => absurd z h⟩
          · rintro e ⟨s5, s6, rfl, hall⟩
            rw [List.take_length] at hall
            exact ⟨pin s5 s6, ⟨_, rfl⟩, s5, s6, rfl, hall⟩
        rintro e ⟨s5, s6, rfl, hall⟩
        have hn : getA t n = none ∨ getA t n = some m := by
          cases hg : getA t n with
          | none => exact .inl rfl
          | some w => exact .inr (by rw [show w = m from hall (n, w) ((hC n w).mpr hg) rfl])
        rw [if_neg (fun z => by rcases hn with hn | hn; exact z.1 hn; exact z.2 hn)] at hr
        have len : (T.map fun p => O.im (rowD p)).length < sizeLine := by
          rw [List.length_map]
          exact Nat.lt_of_lt_of_le (show T.length < 10000 by omega) (by decide)
        trivial
        refine ⟨st, putA t n m, T ++ [(n, m)], f, some (.im (.int i)), some (.im (kdD m)), some (.im (kdD (.any n))), s5, s6, s7, s8, ?_, by have : stz ((m, Kd.any n) :: st) = 1 + stz st := hs; omega, hr, hd', hC.add hn, fun p hp => ?_, by rw [List.length_append]; show T.length + 1 + f ≤ _; omega, by omega⟩
        · unfold TO
          rw [List.map_append]
          rfl
        · rcases List.mem_append.mp hp with hp | hp
          · exact hT p hp
          · rw [List.mem_singleton.mp hp]; exact dm
      · have hna : ∀ n, o ≠ .any n := fun n z => h (by rw [z]; rfl)
        rw [run_other hna] at hr
        trivial
        refine op_hd ?_
        trivial
        refine op_hd ?_
        trivial
        refine op_neH ?_
        refine br_dec (fun h2 => ?_) (fun h2 => ?_)
        · rw [if_pos h2] at hr
          subst hr
          trivial
        rw [if_neg h2] at hr
        have h2 := Classical.not_not.mp h2
        have hk2 := stz_kids (st := st) h2
        have hlen := kids_len h2
        have hk3 : (kids o).length ≤ 2 := by cases o <;> simp [kids]
        have hzl : ((kids m).zip (kids o)).length = (kids o).length := by rw [List.length_zip]; omega
        have hsl := stz_len ((m, o) :: st)
        rw [List.length_cons] at hsl
        trivial
        refine w_call (ds := [_]) (linner_ok m) rfl ?_
        rintro v rfl
        dsimp only [rvF]
        trivial
        refine w_call (ds := [_]) (linner_ok o) rfl ?_
        rintro v rfl
        dsimp only [rvF]
        trivial
        simp only [flats_map (g := kdD)]
        refine w_compU (fun (i : Nat) => D.int (i : Int)) (fun p : Kd × Kd => O.im (prD p)) (fun i p => ((kids m).zip (kids o))[i]? = some p) ?_
        trivial
        rw [List.length_map]
        refine ⟨⟨by omega, by omega⟩, List.range (kids o).length, by rw [show (kids o).length = ((kids o).length : Int).toNat from rfl]; exact rangeD_map _, ⟨rfl, rfl⟩, Nat.le_of_lt (sz_of (by rw [List.length_range]; omega)), ?_, ?_⟩
        · intro x hx
          have hx : x < (kids o).length := List.mem_range.mp hx
          refine ⟨_, rfl, ?_⟩
          trivial
          refine op_elL (by rw [List.length_map]; omega) ?_
          rw [List.getElem_map]
          trivial
          refine op_elL (by rw [List.length_map]; omega) ?_
          rw [List.getElem_map]
          trivial
          exact ⟨⟨((kids m)[x], (kids o)[x]), rfl, by rw [List.getElem?_eq_getElem (by omega), List.getElem_zip]⟩, rfl⟩
        · intro bs hb hR
          rw [List.length_range] at hb
          have e : bs = (kids m).zip (kids o) := by
            refine List.ext_getElem? fun x => ?_
            by_cases hx : x < (kids o).length
            · rw [List.getElem?_eq_getElem (by omega : x < bs.length)]
              exact (hR x x _ (by rw [List.getElem?_range (by omega)]) (List.getElem?_eq_getElem (by omega))).symm
            · rw [List.getElem?_eq_none (by omega), List.getElem?_eq_none (by omega)]
          subst e
          trivial
          rw [flat_map (g := prD)]
          refine ⟨.new (.lst ((st.reverse.map prD ++ ((kids m).zip (kids o)).map prD).map O.im)), ?_, ?_⟩
          · show (match ims (st.reverse.map fun p => O.im (prD p)), some (((kids m).zip (kids o)).map prD) with
              | some xs, some ys => if xs.length + ys.length ≤ sizeLine then some (Rv.new (.lst ((xs ++ ys).map O.im))) else none
              | _, _ => none) = _
            rw [show ims (st.reverse.map fun p => O.im (prD p)) = some (st.reverse.map prD) from lstV_map prD st.reverse]
            show (if (st.reverse.map prD).length + (((kids m).zip (kids o)).map prD).length ≤ sizeLine then some (Rv.new (.lst ((st.reverse.map prD ++ ((kids m).zip (kids o)).map prD).map O.im))) else none) = _
            rw [if_pos (Nat.le_trans (show _ ≤ 10000 by rw [List.length_map, List.length_map, List.length_reverse]; omega) (by decide))]
          trivial
          refine ⟨((kids m).zip (kids o)).reverse ++ st, t, T, f, some (.im (.int i)), some (.im (kdD m)), some (.im (kdD o)), s5, s6, some (.im (.lst ((kids m).map kdD))), some (.im (.lst ((kids o).map kdD))), ?_, by omega, hr, dps_kids hd, hC, hT, by omega, by omega⟩
          rw [List.map_append, show (st.reverse.map prD).map O.im = st.reverse.map fun p => O.im (prD p) from by rw [List.map_map]; rfl, pl_add]
          rfl
  · rintro e ⟨st, t, T, f, s2, s3, s4, s5, s6, s7, s8, rfl, hk, hr, hd, hC, hT, hl, hfi⟩
    exact absurd hfi (by omega)
end K14

namespace K14
open PySem DL TOK NTN KND
local macro_rules
  | `(tactic| trivial) => `(tactic| repeat' with_reducible first
    | refine DL.w_pure ?_ | refine DL.w_dq ?_ | refine DL.w_imR ?_ | refine DL.w_imD ?_ | refine DL.w_fl ?_ | refine DL.w_bin ?_ | refine DL.w_cmp ?_ | refine DL.w_rev ?_ | refine DL.w_cat ?_ | refine DL.w_chain ?_ | refine DL.w_dtB ?_ | refine DL.w_dtru ?_
    | refine DL.w_frzI (by with_unfolding_all rfl) ?_ | refine DL.w_vwI (by with_unfolding_all rfl) ?_ | refine DL.w_owO (by with_unfolding_all rfl) ?_ | refine DL.w_varI (by with_unfolding_all rfl) ?_ | refine DL.w_varL (by with_unfolding_all rfl) ?_ | refine DL.w_varT (by with_unfolding_all rfl) ?_
    | refine DL.w_vwO (by with_unfolding_all rfl) ?_ | (refine DL.w_frzO (by with_unfolding_all rfl) ?_; simp only [List.set_cons_succ, List.set_cons_zero, DL.O.flat])
    | refine DL.w_dcons ?_ | refine DL.w_dconsV ?_ | refine DL.w_darcons ?_ | (refine DL.w_dtup ?_) | refine DL.w_dlst ?_ | refine DL.w_dixO ?_ | refine DL.w_sq ?_ | refine DL.w_dixX ?_ | refine DL.w_listX ?_ | refine DL.w_sorted ?_ | refine DL.w_un ?_ | refine DL.w_sqC ?_ | refine DL.w_forC ?_ | refine DL.op_fldI (by with_unfolding_all rfl) ?_ | refine DL.w_rg ?_ | refine DL.w_rvO ?_ | refine DL.w_dslice ?_ | refine DL.w_dtmc ?_ | refine DL.w_dtupN ?_ | refine DL.w_dlist ?_ | refine DL.w_dtuple ?_ | refine DL.w_tupV ?_ | refine DL.w_listV ?_
    | refine DL.w_bind ?_ | refine DL.w_lift ?_ | refine DL.w_frz ?_ | refine DL.w_vw ?_ | refine DL.w_ow ?_
    | refine DL.w_dand ?_ | refine DL.w_dor ?_ | refine DL.w_dnot ?_ | refine DL.w_dandV ?_ | refine DL.w_dorV ?_ | refine DL.w_dnotV ?_ | refine DL.w_dif ?_
    | refine DL.frzP_im ?_ | refine DL.frzP_new ?_ | refine DL.vwP_im ?_ | refine DL.vwP_new ?_ | refine DL.vwP_bor ?_ | refine DL.owP_im ?_ | refine DL.owP_new ?_ | refine DL.owP_bor ?_
    | (refine DL.setP_im (by with_unfolding_all first | rfl | exact DL.fo_free rfl) ?_; simp only [List.set_cons_succ, List.set_cons_zero, DL.O.flat]) | (refine DL.setP_new (by with_unfolding_all first | rfl | exact DL.fo_free rfl) ?_; simp only [List.set_cons_succ, List.set_cons_zero, DL.O.flat])
    | refine DL.argP_im ?_ | refine DL.argP_new ?_ | refine DL.argP_bor ?_ | refine DL.rvP_im ?_ | refine DL.rvP_new ?_ | refine DL.mvP_im ?_ | refine DL.mvP_new ?_ | (refine DL.mvP_bor (by with_unfolding_all rfl) ?_; simp only [List.set_cons_succ, List.set_cons_zero]) | refine DL.itP_im ?_ | refine DL.itP_new ?_ | refine DL.tuP_lst ?_ | refine DL.blP_of ?_
    | refine DL.op_rng (by with_unfolding_all decide) ?_ | refine DL.op_rngG ?_ | refine DL.op_isiII ?_ | refine DL.op_isiIB ?_ | refine DL.op_isiTT ?_ | refine DL.op_isiLL ?_
    | refine DL.op_eq ?_ | refine DL.op_ne ?_ | refine DL.br_t ?_ | refine DL.br_f ?_ | refine DL.br_not ?_ | refine DL.br_eqT (by with_unfolding_all rfl) ?_ | refine DL.br_eqF (by with_unfolding_all rfl) ?_
    | refine DL.op_mod (by with_unfolding_all decide) ?_ | refine DL.op_div (by with_unfolding_all decide) ?_ | refine DL.op_mul (DL.mul_r (by with_unfolding_all decide)) ?_ | refine DL.op_mul (DL.mul_l (by with_unfolding_all decide)) ?_ | refine DL.op_pow (by with_unfolding_all decide) ?_
    | refine DL.w_seq ?_ | refine DL.w_next ?_ | refine DL.w_if ?_ | refine DL.w_match ?_ | refine DL.pickP_of (by with_unfolding_all decide) ?_ | refine DL.sp_t ?_ | refine DL.sp_f (by with_unfolding_all decide) ?_ | refine DL.sp_n ?_ | refine DL.w_rt ?_ | refine DL.w_set ?_ | refine DL.w_drop ?_ | refine DL.w_app (by with_unfolding_all rfl) ?_ | (refine DL.appP_of (by with_unfolding_all rfl) (by first | assumption | with_unfolding_all exact Nat.le_of_ble_eq_true rfl | (simp only [List.length_append, List.length_map, List.length_cons, List.length_nil]; omega)) ?_; simp only [List.set_cons_succ, List.set_cons_zero, DL.O.flat]) | refine DL.w_forP ?_ | refine DL.w_sforv (by with_unfolding_all rfl) (by with_unfolding_all rfl) ?_ | refine DL.w_asg ?_ | refine DL.w_forV ?_ | refine DL.sqt_if ?_ | refine DL.sqt_rt ?_ | refine DL.sqt_next ?_
    | refine DL.sz (by with_unfolding_all exact Nat.le_of_ble_eq_true rfl) ?_
    | refine DL.outI_im (by with_unfolding_all exact Nat.le_of_ble_eq_true rfl) ?_ | refine DL.outI_new (by with_unfolding_all exact Nat.le_of_ble_eq_true rfl) ?_ | refine DL.outI_bor (by with_unfolding_all exact Nat.le_of_ble_eq_true rfl) (by with_unfolding_all rfl) ?_
    | exact DL.us_next | exact DL.us_bk | exact DL.us_ct | exact DL.us_rtN | refine DL.us_seq ?_ ?_ | refine DL.us_if ?_ ?_ ?_ | refine DL.us_rt ?_ | refine DL.us_drop ?_ | refine DL.us_setI (by decide) ?_
    | exact DL.ud_pure | exact DL.ud_lift | exact DL.ud_xf | exact DL.ud_xi | exact DL.ud_var (by decide) | exact DL.ud_frz (by decide)
    | refine DL.ud_imR ?_ | refine DL.ud_vw ?_ | refine DL.ud_dtup ?_ | refine DL.ud_dlst ?_ | refine DL.ud_dcons ?_ ?_ | refine DL.ud_dconsV ?_ ?_ | refine DL.ud_dbin ?_ ?_ | refine DL.ud_dcmp ?_ ?_ | refine DL.ud_dtB ?_ | refine DL.ud_dtru ?_
    | refine DL.ud_dnot ?_ | refine DL.ud_dand ?_ ?_ | refine DL.ud_dor ?_ ?_ | refine DL.ud_dnotV ?_ | refine DL.ud_dandV ?_ ?_ | refine DL.ud_dorV ?_ ?_ | refine DL.ud_dif ?_ ?_ ?_ | refine DL.ud_imD ?_ | refine DL.ud_fl ?_ | refine DL.ud_dixO ?_ ?_ | refine DL.ud_dixX ?_ ?_ | exact DL.ud_ow (by decide) | exact DL.ud_meth0 (by decide) | (refine DL.ud_bind ?_ fun _ => ?_)
    | refine DL.w_op (by with_unfolding_all rfl) ?_ | rfl)

def nn (ds : List Int) : Prop := ∀ d ∈ ds, 0 ≤ d
theorem fm (a : Int) {b : Int} (h : 0 < b) : 0 ≤ a.fmod b ∧ a.fmod b < b := ⟨Int.fmod_nonneg_of_pos a h, Int.fmod_lt_of_pos a h⟩
theorem draw_ok {ds : List Int} {m : Int} (h : nn ds) (hm : 0 < m) (hm2 : m < 1000000) : FO f__law_draw [dl ds, .im (.int m)] fun os' r => ∃ ds' k, os' = [dl ds', .im (.int m)] ∧ nn ds' ∧ r = .im (.int k) ∧ 0 ≤ k ∧ k < m := by
  refine w_fun ?_
  unfold d__law_draw
  show SW _ [some (true, _), some (false, _)] _
  trivial
  rw [flats_map, List.length_map]
  refine br_dec (fun h0 => ?_) (fun h0 => ?_)
  · trivial
    exact ⟨_, rfl, ds, 0, rfl, h, rfl, by omega, hm⟩
  · have hl : 0 < ds.length := by omega
    trivial
    refine w_pop rfl (d := .int (ds[ds.length - 1])) ?_ ?_
    · rw [List.length_map, List.getElem?_map, List.getElem?_eq_getElem (by omega)]
      rfl
    trivial
    have f := fm ds[ds.length - 1] hm
    refine op_mod (by omega) ?_
    trivial
    refine ⟨_, rfl, ds.dropLast, _, ?_, fun d hd => h d (List.dropLast_subset _ hd), rfl, f.1, f.2⟩
    unfold dl
    rw [List.map_dropLast]
theorem big_ok {ds : List Int} (h : nn ds) : FO f__law_big [dl ds] fun os' r => ∃ ds' k, os' = [dl ds'] ∧ nn ds' ∧ r = .im (.int k) ∧ 0 ≤ k := by
  refine w_fun ?_
  unfold d__law_big
  show SW _ [some (true, _), none, none] _
  trivial
  refine sw_range (n := 6) (fun i e => ∃ ds k s2, e = [some (true, dl ds), some (false, .im (.int k)), fo s2] ∧ nn ds ∧ 0 ≤ k) ⟨ds, 0, none, rfl, h, by omega⟩ ?_ ?_
  · rintro i e hi ⟨ds, k, s2, rfl, h, hk⟩
    refine ⟨[some (true, dl ds), some (false, .im (.int k)), some (false, .im (.int i))], by cases s2 <;> rfl, ?_⟩
    trivial
    refine w_fo (draw_ok h (m := 1000) (by omega) (by omega)) rfl rfl (.inl rfl) ?_
    rintro os' r ⟨ds', v, rfl, h', rfl, h0, h1⟩
    refine ⟨_, rfl, ?_⟩
    simp only [List.set_cons_succ, List.set_cons_zero, rvF]
    trivial
    exact ⟨ds', _, some _, rfl, h', by omega⟩
  · rintro e ⟨ds, k, s2, rfl, h, hk⟩
    trivial
    exact ⟨_, rfl, ds, k, rfl, h, rfl, hk⟩
theorem nn_app {l : List Int} {n : Int} (h : nn l) (k : 0 ≤ n) : nn (l ++ [n]) := fun d hd => by
  rcases List.mem_append.mp hd with m | m
  · exact h d m
  · rw [List.mem_singleton.mp m]; exact k
theorem cut_take {L : List Int} {m : Nat} : cutD (L.map D.int) none (some (m : Int)) = (L.take m).map D.int := by
  unfold cutD
  rw [HT.sIx_nat, HT.sIx_none, List.length_map, List.drop_zero, Nat.sub_zero, ← List.map_take]
  congr 1
  by_cases h : m ≤ L.length
  · rw [Nat.min_eq_left h]
  · rw [Nat.min_eq_right (by omega), List.take_of_length_le (Nat.le_refl _), List.take_of_length_le (by omega)]
theorem numbers_ok {ns : List Int} (hns : ns.length ≤ 63) : FI f__law_numbers [.scr (ns.map D.int), .int 160] fun r => ∃ ds, r = .new (dl ds) ∧ nn ds := by
  refine w_fi ?_
  unfold d__law_numbers
  show SW _ [some (false, .im _), some (false, .im _), none, none, none, none, none, none, none] _
  trivial
  refine w_cut (fun e => ∃ L seed s4 s5 s6, e = [some (false, .im (.scr (ns.map D.int))), some (false, .im (.int 160)), some (false, dl L), some (false, .im (.int seed)), fo s4, fo s5, fo s6, none, none] ∧ nn L ∧ L.length ≤ 60 * ns.length) ?_ ?_
  · refine sw_each ns D.int (fun i e => ∃ L seed s4 s5 s6, e = [some (false, .im (.scr (ns.map D.int))), some (false, .im (.int 160)), some (false, dl L), some (false, .im (.int seed)), fo s4, fo s5, fo s6, none, none] ∧ nn L ∧ L.length ≤ 60 * i) ⟨[], 7, none, none, none, rfl, fun d h => (by cases h), by simp⟩ ?_ ?_
    · rintro i c e hi ⟨L, seed, s4, s5, s6, rfl, hL, hl⟩
      have hlt : i < ns.length := (List.getElem?_eq_some_iff.mp hi).1
      refine ⟨[some (false, .im (.scr (ns.map D.int))), some (false, .im (.int 160)), some (false, dl L), some (false, .im (.int seed)), some (false, .im (.int c)), fo s5, fo s6, none, none], by cases s4 <;> rfl, ?_⟩
      trivial
      refine br_dec (fun h => ?_) (fun h => ?_)
      · trivial
        refine sw_range (n := 60) (fun j e => ∃ L rest s6, e = [some (false, .im (.scr (ns.map D.int))), some (false, .im (.int 160)), some (false, dl L), some (false, .im (.int ((seed * 48271 + (if c < 0 then -c else c) * 69621 + 11).fmod 2147483647))), some (false, .im (.int c)), some (false, .im (.int rest)), fo s6, none, none] ∧ nn L ∧ L.length ≤ 60 * i + j) ⟨L, _, s6, rfl, hL, by omega⟩ ?_ ?_
        · rintro j e hj ⟨L, rest, s6, rfl, hL, hl⟩
          refine ⟨[some (false, .im (.scr (ns.map D.int))), some (false, .im (.int 160)), some (false, dl L), some (false, .im (.int ((seed * 48271 + (if c < 0 then -c else c) * 69621 + 11).fmod 2147483647))), some (false, .im (.int c)), some (false, .im (.int rest)), some (false, .im (.int j)), none, none], by cases s6 <;> rfl, ?_⟩
          have hj60 : j < 60 := hj
          have len : (L.map fun n => O.im (.int n)).length < sizeLine := by
            rw [List.length_map]
            exact Nat.lt_of_lt_of_le (show _ < 10000 by omega) (by decide)
          trivial
          refine br_dec (fun h => ?_) (fun h => ?_)
          · trivial
            have f := fm rest (b := 1000) (by omega)
            exact ⟨L ++ [rest.fmod 1000], _, some _, by unfold dl; rw [List.map_append]; rfl, nn_app hL f.1, by rw [List.length_append]; show L.length + 1 ≤ _; omega⟩
          · trivial
            exact ⟨L, rest, some _, rfl, hL, by omega⟩
        · rintro e ⟨L, rest, s6, rfl, hL, hl⟩
          have h60 : (Int.toNat 60) = 60 := rfl
          exact ⟨L, _, some _, some _, s6, rfl, hL, by omega⟩
      · trivial
        exact ⟨L, _, some _, some _, s6, rfl, hL, by omega⟩
    · rintro e h
      exact h
  rintro e ⟨L, seed, s4, s5, s6, rfl, hL, hl⟩
  trivial
  refine w_op (z := .new (dl (L.take 160))) (by
    show (ims (L.map fun n => O.im (.int n))).map (fun ds => Rv.new (.lst ((cutD ds none (some ((160 : Nat) : Int))).map O.im))) = _
    rw [show ims _ = _ from lstV_map D.int L]
    show some (Rv.new (.lst ((cutD (L.map D.int) none (some ((160 : Nat) : Int))).map O.im))) = _
    rw [cut_take, map_im]) ?_
  trivial
  rw [flats_map, List.length_map]
  have ht : (L.take 160).length ≤ 160 := by rw [List.length_take]; omega
  have hT : nn (L.take 160) := fun d hd => hL d (List.mem_of_mem_take hd)
  refine ⟨⟨by omega, by omega⟩, ?_⟩
  refine sw_range (fun i e => ∃ T s7 s8, e = [some (false, .im (.scr (ns.map D.int))), some (false, .im (.int 160)), some (false, dl T), some (false, .im (.int seed)), fo s4, fo s5, fo s6, fo s7, fo s8] ∧ nn T ∧ T.length = (L.take 160).length + i) ⟨L.take 160, none, none, rfl, hT, rfl⟩ ?_ ?_
  · rintro i e hi ⟨T, s7, s8, rfl, hT, hl⟩
    refine ⟨[some (false, .im (.scr (ns.map D.int))), some (false, .im (.int 160)), some (false, dl T), some (false, .im (.int seed)), fo s4, fo s5, fo s6, some (false, .im (.int i)), fo s8], by cases s7 <;> rfl, ?_⟩
    have len : (T.map fun n => O.im (.int n)).length < sizeLine := by
      rw [List.length_map]
      exact Nat.lt_of_lt_of_le (show _ < 10000 by omega) (by decide)
    trivial
    have := fm (seed * 48271 + ↑i * 69621 + 11) (b := 2147483647) (by decide)
    refine op_mul (mul_l (by omega)) ?_
    trivial
    exact ⟨T ++ [_], some _, some _, by unfold dl; rw [List.map_append]; rfl, nn_app hT (fm _ (by decide)).1, by rw [List.length_append, hl]; rfl⟩
  · rintro e ⟨T, s7, s8, rfl, hT, hl⟩
    trivial
    refine w_op (lsqV_map D.int T) ?_
    trivial
    exact ⟨T.reverse, by rw [← List.map_reverse, map_im], fun d hd => hT d (List.mem_reverse.mp hd)⟩
theorem op_elD {ds : List D} {i : Nat} {P : D → Prop} (h : i < ds.length) (p : P ds[i]) : OP (elemD (.lst ds) (.int (i : Int))) P := ⟨_, by
  show L2.atI ds (i : Int) = _
  rw [atI_nn _ _ (Int.natCast_nonneg i), Int.toNat_natCast, List.getElem?_eq_getElem h], p⟩
theorem op_leaf {c : Int} {P : O → Prop} (p : ∀ k, nok k → dp k ≤ 1 → P (.im (kdD k))) : OP (elemOO (O.im (O.lst [.im (.tup [.str (Str.ofString "int")]), .im (.tup [.str (Str.ofString "bool")]), .im (.tup [.str (Str.ofString "output")])]).flat) (.int (c.fmod 3))) P := by
  have f := fm c (b := 3) (by decide)
  obtain ⟨i, hi, hlt⟩ : ∃ i : Nat, c.fmod 3 = i ∧ i < 3 := ⟨(c.fmod 3).toNat, by omega, by omega⟩
  rw [hi]
  rcases (by omega : i = 0 ∨ i = 1 ∨ i = 2) with rfl | rfl | rfl
  · exact ⟨_, rfl, p .int True.intro (Nat.le_refl _)⟩
  · exact ⟨_, rfl, p .bool True.intro (Nat.le_refl _)⟩
  · exact ⟨_, rfl, p .out True.intro (Nat.le_refl _)⟩
theorem kind_ok {ns : List Int} (hns : ∀ n ∈ ns, 0 ≤ n ∧ n ≤ 1000000) (hl : 0 < ns.length ∧ ns.length ≤ 10) : ∀ (j lv : Nat) {ds : List Int}, 1 ≤ lv → lv < j → nn ds → FO (f__law_kind j) [dl ds, .im (.int lv), .im (liD ns)] fun os' r => ∃ ds' k, os' = [dl ds', .im (.int lv), .im (liD ns)] ∧ nn ds' ∧ r = .im (kdD k) ∧ nok k ∧ dp k ≤ lv
  | 0, lv, ds, _, h, _ => absurd h (Nat.not_lt_zero _)
  | j + 1, lv, ds, h1, hj, h => by
    refine w_fun ?_
    unfold d__law_kind
    show SW _ [some (true, _), some (false, _), some (false, _), none] _
    refine w_seqM (fun e => ∃ ds c, e = [some (true, dl ds), some (false, .im (.int lv)), some (false, .im (liD ns)), some (false, .im (.int c))] ∧ nn ds ∧ 0 ≤ c) ?_ ?_
    · trivial
      refine w_fo (draw_ok h (m := 9) (by omega) (by omega)) rfl rfl (.inl rfl) ?_
      rintro os' r ⟨ds', v, rfl, h', rfl, h0, h1⟩
      refine ⟨_, rfl, ?_⟩
      simp only [List.set_cons_succ, List.set_cons_zero, rvF]
      trivial
      exact ⟨ds', v, rfl, h', h0⟩
    rintro e ⟨ds9, c, rfl, h9, c0⟩
    have one : (1 : Int) < lv → ∃ l : Nat, lv = l + 1 ∧ 1 ≤ l ∧ (lv : Int) - 1 = (l : Int) := fun z => ⟨lv - 1, by omega, by omega, by omega⟩
    refine w_seqM (fun e => e = [some (true, dl ds9), some (false, .im (.int lv)), some (false, .im (liD ns)), some (false, .im (.int c))]) ?_ ?_
    · trivial
      refine br_dec (fun hlv => ?_) (fun hlv => ?_)
      · trivial
        refine br_dec (fun hc => ?_) (fun hc => ?_)
        · obtain ⟨l, rfl, hl1, el⟩ := one hlv
          trivial
          rw [el]
          refine w_fo (kind_ok hns hl j l hl1 (by omega) h9) rfl rfl (.inl rfl) ?_
          rintro os' r ⟨ds1, k1, rfl, h1, rfl, n1, d1⟩
          refine ⟨_, rfl, ?_⟩
          simp only [List.set_cons_succ, List.set_cons_zero, rvF]
          trivial
          rw [el]
          refine w_fo (kind_ok hns hl j l hl1 (by omega) h1) rfl rfl (.inl rfl) ?_
          rintro os' r ⟨ds2, k2, rfl, h2, rfl, n2, d2⟩
          refine ⟨_, rfl, ?_⟩
          simp only [List.set_cons_succ, List.set_cons_zero, rvF]
          trivial
          exact ⟨_, rfl, ds2, .pair k1 k2, rfl, h2, rfl, ⟨n1, n2⟩, by show max (dp k1) (dp k2) + 1 ≤ _; omega⟩
        · trivial
      · trivial
    rintro e rfl
    refine w_seqM (fun e => e = [some (true, dl ds9), some (false, .im (.int lv)), some (false, .im (liD ns)), some (false, .im (.int c))]) ?_ ?_
    · trivial
      refine br_dec (fun hlv => ?_) (fun hlv => ?_)
      · trivial
        refine br_dec (fun hc => ?_) (fun hc => ?_)
        · obtain ⟨l, rfl, hl1, el⟩ := one hlv
          trivial
          rw [el]
          refine w_fo (kind_ok hns hl j l hl1 (by omega) h9) rfl rfl (.inl rfl) ?_
          rintro os' r ⟨ds1, k1, rfl, h1, rfl, n1, d1⟩
          refine ⟨_, rfl, ?_⟩
          simp only [List.set_cons_succ, List.set_cons_zero, rvF]
          trivial
          exact ⟨_, rfl, ds1, .list k1, rfl, h1, rfl, n1, by show dp k1 + 1 ≤ _; omega⟩
        · trivial
      · trivial
    rintro e rfl
    refine w_seqM (fun e => e = [some (true, dl ds9), some (false, .im (.int lv)), some (false, .im (liD ns)), some (false, .im (.int c))]) ?_ ?_
    · trivial
      refine br_dec (fun hc => ?_) (fun hc => ?_)
      · trivial
        rw [List.length_map]
        refine br_dec (fun hn => ?_) (fun hn => absurd (show (ns.length : Int) > 0 by omega) hn)
        trivial
        refine w_fo (draw_ok h9 (m := 1000) (by omega) (by omega)) rfl rfl (.inl rfl) ?_
        rintro os' r ⟨ds', v, rfl, h', rfl, h0, hv1⟩
        refine ⟨_, rfl, ?_⟩
        simp only [List.set_cons_succ, List.set_cons_zero, rvF]
        trivial
        rw [List.length_map]
        have f := fm v (b := (ns.length : Int)) (by omega)
        refine op_mod (by omega) ?_
        trivial
        obtain ⟨q, hq, hlt⟩ : ∃ q : Nat, v.fmod (ns.length : Int) = q ∧ q < ns.length := ⟨(v.fmod (ns.length : Int)).toNat, by omega, by omega⟩
        rw [hq]
        refine op_elD (by rw [List.length_map]; exact hlt) ?_
        rw [List.getElem_map]
        trivial
        exact ⟨_, rfl, ds', .any ns[q], rfl, h', rfl, hns _ (List.getElem_mem hlt), h1⟩
      · trivial
    rintro e rfl
    trivial
    refine op_leaf fun k hk hd => ?_
    trivial
    exact ⟨_, rfl, ds9, k, rfl, h9, rfl, hk, by omega⟩
end K14

namespace K14
open PySem DL TOK NTN KND
local macro_rules
  | `(tactic| trivial) => `(tactic| repeat' with_reducible first
    | refine DL.w_pure ?_ | refine DL.w_dq ?_ | refine DL.w_imR ?_ | refine DL.w_imD ?_ | refine DL.w_fl ?_ | refine DL.w_bin ?_ | refine DL.w_cmp ?_ | refine DL.w_rev ?_ | refine DL.w_cat ?_ | refine DL.w_chain ?_ | refine DL.w_dtB ?_ | refine DL.w_dtru ?_
    | refine DL.w_frzI (by with_unfolding_all rfl) ?_ | refine DL.w_vwI (by with_unfolding_all rfl) ?_ | refine DL.w_owO (by with_unfolding_all rfl) ?_ | refine DL.w_varI (by with_unfolding_all rfl) ?_ | refine DL.w_varL (by with_unfolding_all rfl) ?_ | refine DL.w_varT (by with_unfolding_all rfl) ?_
    | refine DL.w_vwO (by with_unfolding_all rfl) ?_ | (refine DL.w_frzO (by with_unfolding_all rfl) ?_; simp only [List.set_cons_succ, List.set_cons_zero, DL.O.flat])
    | refine DL.w_dcons ?_ | refine DL.w_dconsV ?_ | refine DL.w_darcons ?_ | (refine DL.w_dtup ?_) | refine DL.w_dlst ?_ | refine DL.w_dixO ?_ | refine DL.w_sq ?_ | refine DL.w_dixX ?_ | refine DL.w_listX ?_ | refine DL.w_sorted ?_ | refine DL.w_un ?_ | refine DL.w_sqC ?_ | refine DL.w_forC ?_ | refine DL.op_fldI (by with_unfolding_all rfl) ?_ | refine DL.w_rg ?_ | refine DL.w_rvO ?_ | refine DL.w_dslice ?_ | refine DL.w_dtmc ?_ | refine DL.w_dtupN ?_ | refine DL.w_dlist ?_ | refine DL.w_dtuple ?_ | refine DL.w_tupV ?_ | refine DL.w_listV ?_
    | refine DL.w_bind ?_ | refine DL.w_lift ?_ | refine DL.w_frz ?_ | refine DL.w_vw ?_ | refine DL.w_ow ?_
    | refine DL.w_dand ?_ | refine DL.w_dor ?_ | refine DL.w_dnot ?_ | refine DL.w_dandV ?_ | refine DL.w_dorV ?_ | refine DL.w_dnotV ?_ | refine DL.w_dif ?_
    | refine DL.frzP_im ?_ | refine DL.frzP_new ?_ | refine DL.vwP_im ?_ | refine DL.vwP_new ?_ | refine DL.vwP_bor ?_ | refine DL.owP_im ?_ | refine DL.owP_new ?_ | refine DL.owP_bor ?_
    | (refine DL.setP_im (by with_unfolding_all first | rfl | exact DL.fo_free rfl) ?_; simp only [List.set_cons_succ, List.set_cons_zero, DL.O.flat]) | (refine DL.setP_new (by with_unfolding_all first | rfl | exact DL.fo_free rfl) ?_; simp only [List.set_cons_succ, List.set_cons_zero, DL.O.flat])
    | refine DL.argP_im ?_ | refine DL.argP_new ?_ | refine DL.argP_bor ?_ | refine DL.rvP_im ?_ | refine DL.rvP_new ?_ | refine DL.mvP_im ?_ | refine DL.mvP_new ?_ | (refine DL.mvP_bor (by with_unfolding_all rfl) ?_; simp only [List.set_cons_succ, List.set_cons_zero]) | refine DL.itP_im ?_ | refine DL.itP_new ?_ | refine DL.tuP_lst ?_ | refine DL.blP_of ?_
    | refine DL.op_rng (by with_unfolding_all decide) ?_ | refine DL.op_rngG ?_ | refine DL.op_isiII ?_ | refine DL.op_isiIB ?_ | refine DL.op_isiTT ?_ | refine DL.op_isiLL ?_
    | refine DL.op_eq ?_ | refine DL.op_ne ?_ | refine DL.br_t ?_ | refine DL.br_f ?_ | refine DL.br_not ?_ | refine DL.br_eqT (by with_unfolding_all rfl) ?_ | refine DL.br_eqF (by with_unfolding_all rfl) ?_
    | refine DL.op_mod (by with_unfolding_all decide) ?_ | refine DL.op_div (by with_unfolding_all decide) ?_ | refine DL.op_mul (DL.mul_r (by with_unfolding_all decide)) ?_ | refine DL.op_mul (DL.mul_l (by with_unfolding_all decide)) ?_ | refine DL.op_pow (by with_unfolding_all decide) ?_
    | refine DL.w_seq ?_ | refine DL.w_next ?_ | refine DL.w_if ?_ | refine DL.w_match ?_ | refine DL.pickP_of (by with_unfolding_all decide) ?_ | refine DL.sp_t ?_ | refine DL.sp_f (by with_unfolding_all decide) ?_ | refine DL.sp_n ?_ | refine DL.w_rt ?_ | refine DL.w_set ?_ | refine DL.w_drop ?_ | refine DL.w_app (by with_unfolding_all rfl) ?_ | (refine DL.appP_of (by with_unfolding_all rfl) (by first | assumption | with_unfolding_all exact Nat.le_of_ble_eq_true rfl | (simp only [List.length_append, List.length_map, List.length_cons, List.length_nil]; omega)) ?_; simp only [List.set_cons_succ, List.set_cons_zero, DL.O.flat]) | refine DL.w_forP ?_ | refine DL.w_sforv (by with_unfolding_all rfl) (by with_unfolding_all rfl) ?_ | refine DL.w_asg ?_ | refine DL.w_forV ?_ | refine DL.sqt_if ?_ | refine DL.sqt_rt ?_ | refine DL.sqt_next ?_
    | refine DL.sz (by with_unfolding_all exact Nat.le_of_ble_eq_true rfl) ?_
    | refine DL.outI_im (by with_unfolding_all exact Nat.le_of_ble_eq_true rfl) ?_ | refine DL.outI_new (by with_unfolding_all exact Nat.le_of_ble_eq_true rfl) ?_ | refine DL.outI_bor (by with_unfolding_all exact Nat.le_of_ble_eq_true rfl) (by with_unfolding_all rfl) ?_
    | exact DL.us_next | exact DL.us_bk | exact DL.us_ct | exact DL.us_rtN | refine DL.us_seq ?_ ?_ | refine DL.us_if ?_ ?_ ?_ | refine DL.us_rt ?_ | refine DL.us_drop ?_ | refine DL.us_setI (by decide) ?_
    | exact DL.ud_pure | exact DL.ud_lift | exact DL.ud_xf | exact DL.ud_xi | exact DL.ud_var (by decide) | exact DL.ud_frz (by decide)
    | refine DL.ud_imR ?_ | refine DL.ud_vw ?_ | refine DL.ud_dtup ?_ | refine DL.ud_dlst ?_ | refine DL.ud_dcons ?_ ?_ | refine DL.ud_dconsV ?_ ?_ | refine DL.ud_dbin ?_ ?_ | refine DL.ud_dcmp ?_ ?_ | refine DL.ud_dtB ?_ | refine DL.ud_dtru ?_
    | refine DL.ud_dnot ?_ | refine DL.ud_dand ?_ ?_ | refine DL.ud_dor ?_ ?_ | refine DL.ud_dnotV ?_ | refine DL.ud_dandV ?_ ?_ | refine DL.ud_dorV ?_ ?_ | refine DL.ud_dif ?_ ?_ ?_ | refine DL.ud_imD ?_ | refine DL.ud_fl ?_ | refine DL.ud_dixO ?_ ?_ | refine DL.ud_dixX ?_ ?_ | exact DL.ud_ow (by decide) | exact DL.ud_meth0 (by decide) | (refine DL.ud_bind ?_ fun _ => ?_)
    | refine DL.w_op (by with_unfolding_all rfl) ?_ | rfl)

def ChP (k other : Kd) (k' : Kd) : Prop := nok k' ∧ dp k' ≤ dp k + dp other ∧ ksz k' ≤ ksz k + ksz other
theorem changed_ok {other : Kd} (ho : nok other) : ∀ (j : Nat) (k : Kd) {ds : List Int}, nok k → dp k < j → nn ds → FO (f__law_changed j) [dl ds, .im (kdD k), .im (kdD other)] fun os' r => ∃ ds' k', os' = [dl ds', .im (kdD k), .im (kdD other)] ∧ nn ds' ∧ r = .im (kdD k') ∧ ChP k other k'
  | 0, k, ds, _, h, _ => absurd h (Nat.not_lt_zero _)
  | j + 1, .int, ds, hn, hj, h => by
    have same : ChP (.int) other other := ⟨ho, by omega, by omega⟩
    refine w_fun ?_
    unfold d__law_changed
    show SW _ [some (true, _), some (false, _), some (false, _), none, none] _
    trivial
    refine w_call (ds := [_]) (linner_ok (.int)) rfl ?_
    rintro v rfl
    dsimp only [rvF]
    trivial
    exact ⟨_, rfl, ds, other, rfl, h, rfl, same⟩
  | j + 1, .bool, ds, hn, hj, h => by
    have same : ChP (.bool) other other := ⟨ho, by omega, by omega⟩
    refine w_fun ?_
    unfold d__law_changed
    show SW _ [some (true, _), some (false, _), some (false, _), none, none] _
    trivial
    refine w_call (ds := [_]) (linner_ok (.bool)) rfl ?_
    rintro v rfl
    dsimp only [rvF]
    trivial
    exact ⟨_, rfl, ds, other, rfl, h, rfl, same⟩
  | j + 1, .out, ds, hn, hj, h => by
    have same : ChP (.out) other other := ⟨ho, by omega, by omega⟩
    refine w_fun ?_
    unfold d__law_changed
    show SW _ [some (true, _), some (false, _), some (false, _), none, none] _
    trivial
    refine w_call (ds := [_]) (linner_ok (.out)) rfl ?_
    rintro v rfl
    dsimp only [rvF]
    trivial
    exact ⟨_, rfl, ds, other, rfl, h, rfl, same⟩
  | j + 1, .any n, ds, hn, hj, h => by
    have same : ChP (.any n) other other := ⟨ho, by omega, by omega⟩
    refine w_fun ?_
    unfold d__law_changed
    show SW _ [some (true, _), some (false, _), some (false, _), none, none] _
    trivial
    refine w_call (ds := [_]) (linner_ok (.any n)) rfl ?_
    rintro v rfl
    dsimp only [rvF]
    trivial
    exact ⟨_, rfl, ds, other, rfl, h, rfl, same⟩
  | j + 1, .list a, ds, hn, hj, h => by
    have same : ChP (.list a) other other := ⟨ho, by omega, by omega⟩
    refine w_fun ?_
    unfold d__law_changed
    show SW _ [some (true, _), some (false, _), some (false, _), none, none] _
    trivial
    refine w_call (ds := [_]) (linner_ok (.list a)) rfl ?_
    rintro v rfl
    dsimp only [rvF]
    trivial
    have hj : dp a + 1 < j + 1 := hj
    refine w_fo (draw_ok h (m := 4) (by omega) (by omega)) rfl rfl (.inl rfl) ?_
    rintro os' r ⟨ds1, v, rfl, h1, rfl, v0, v1⟩
    refine ⟨_, rfl, ?_⟩
    simp only [List.set_cons_succ, List.set_cons_zero, rvF]
    trivial
    refine br_dec (fun _ => ?_) (fun _ => ?_)
    · trivial
      exact ⟨_, rfl, ds1, other, rfl, h1, rfl, same⟩
    trivial
    refine w_fo (draw_ok h1 (m := 2) (by omega) (by omega)) rfl rfl (.inl rfl) ?_
    rintro os' r ⟨ds2, w, rfl, h2, rfl, w0, w1⟩
    refine ⟨_, rfl, ?_⟩
    simp only [List.set_cons_succ, List.set_cons_zero, rvF]
    trivial
    have f := fm w (b := 1) (by decide)
    have e0 : w.fmod ((O.flats ((kids (Kd.list a)).map fun a => O.im (kdD a))).length : Int) = 0 := by show w.fmod 1 = 0; omega
    rw [e0]
    refine w_stI ?_
    trivial
    refine w_fo (changed_ok ho j a hn (by omega) h2) rfl rfl (.inl rfl) ?_
    rintro os' r ⟨ds3, k3, rfl, h3, rfl, q1, q2, q3⟩
    refine ⟨_, rfl, ?_⟩
    simp only [List.set_cons_succ, List.set_cons_zero, rvF]
    trivial
    refine ⟨⟨_, _, rfl⟩, ?_⟩
    trivial
    refine ⟨false, _, 0, kdD a, _, rfl, rfl, rfl, rfl, ?_⟩
    trivial
    exact ⟨_, rfl, ds3, .list k3, rfl, h3, rfl, q1, by show dp k3 + 1 ≤ dp a + 1 + dp other; omega, by show 1 + ksz k3 ≤ 1 + ksz a + ksz other; omega⟩
  | j + 1, .pair a b, ds, hn, hj, h => by
    have same : ChP (.pair a b) other other := ⟨ho, by omega, by omega⟩
    refine w_fun ?_
    unfold d__law_changed
    show SW _ [some (true, _), some (false, _), some (false, _), none, none] _
    trivial
    refine w_call (ds := [_]) (linner_ok (.pair a b)) rfl ?_
    rintro v rfl
    dsimp only [rvF]
    trivial
    have hj : max (dp a) (dp b) + 1 < j + 1 := hj
    refine w_fo (draw_ok h (m := 4) (by omega) (by omega)) rfl rfl (.inl rfl) ?_
    rintro os' r ⟨ds1, v, rfl, h1, rfl, v0, v1⟩
    refine ⟨_, rfl, ?_⟩
    simp only [List.set_cons_succ, List.set_cons_zero, rvF]
    trivial
    refine br_dec (fun _ => ?_) (fun _ => ?_)
    · trivial
      exact ⟨_, rfl, ds1, other, rfl, h1, rfl, same⟩
    trivial
    refine w_fo (draw_ok h1 (m := 2) (by omega) (by omega)) rfl rfl (.inl rfl) ?_
    rintro os' r ⟨ds2, w, rfl, h2, rfl, w0, w1⟩
    refine ⟨_, rfl, ?_⟩
    simp only [List.set_cons_succ, List.set_cons_zero, rvF]
    trivial
    have f := fm w (b := 2) (by decide)
    have e1 : w.fmod ((O.flats ((kids (Kd.pair a b)).map fun a => O.im (kdD a))).length : Int) = w.fmod 2 := rfl
    rw [e1]
    have e2 : w.fmod 2 = 0 ∨ w.fmod 2 = 1 := by omega
    rcases e2 with e2 | e2 <;> rw [e2]
    · refine w_stI ?_
      trivial
      refine w_fo (changed_ok ho j a hn.1 (by omega) h2) rfl rfl (.inl rfl) ?_
      rintro os' r ⟨ds3, k3, rfl, h3, rfl, q1, q2, q3⟩
      refine ⟨_, rfl, ?_⟩
      simp only [List.set_cons_succ, List.set_cons_zero, rvF]
      trivial
      refine ⟨⟨_, _, rfl⟩, ?_⟩
      trivial
      refine ⟨false, _, 0, kdD a, _, rfl, rfl, rfl, rfl, ?_⟩
      trivial
      exact ⟨_, rfl, ds3, .pair k3 b, rfl, h3, rfl, ⟨q1, hn.2⟩, by show max (dp k3) (dp b) + 1 ≤ max (dp a) (dp b) + 1 + dp other; omega, by show 1 + (ksz k3 + ksz b) ≤ 1 + (ksz a + ksz b) + ksz other; omega⟩
    · refine w_stI ?_
      trivial
      refine w_fo (changed_ok ho j b hn.2 (by omega) h2) rfl rfl (.inl rfl) ?_
      rintro os' r ⟨ds3, k3, rfl, h3, rfl, q1, q2, q3⟩
      refine ⟨_, rfl, ?_⟩
      simp only [List.set_cons_succ, List.set_cons_zero, rvF]
      trivial
      refine ⟨⟨_, _, rfl⟩, ?_⟩
      trivial
      refine ⟨false, _, 1, kdD b, _, rfl, rfl, rfl, rfl, ?_⟩
      trivial
      exact ⟨_, rfl, ds3, .pair a k3, rfl, h3, rfl, ⟨hn.1, q1⟩, by show max (dp a) (dp k3) + 1 ≤ max (dp a) (dp b) + 1 + dp other; omega, by show 1 + (ksz a + ksz k3) ≤ 1 + (ksz a + ksz b) + ksz other; omega⟩
end K14

namespace K14
open PySem DL TOK NTN KND
local macro_rules
  | `(tactic| trivial) => `(tactic| repeat' with_reducible first
    | refine DL.w_pure ?_ | refine DL.w_dq ?_ | refine DL.w_imR ?_ | refine DL.w_imD ?_ | refine DL.w_fl ?_ | refine DL.w_bin ?_ | refine DL.w_cmp ?_ | refine DL.w_rev ?_ | refine DL.w_cat ?_ | refine DL.w_chain ?_ | refine DL.w_dtB ?_ | refine DL.w_dtru ?_
    | refine DL.w_frzI (by with_unfolding_all rfl) ?_ | refine DL.w_vwI (by with_unfolding_all rfl) ?_ | refine DL.w_owO (by with_unfolding_all rfl) ?_ | refine DL.w_varI (by with_unfolding_all rfl) ?_ | refine DL.w_varL (by with_unfolding_all rfl) ?_ | refine DL.w_varT (by with_unfolding_all rfl) ?_
    | refine DL.w_vwO (by with_unfolding_all rfl) ?_ | (refine DL.w_frzO (by with_unfolding_all rfl) ?_; simp only [List.set_cons_succ, List.set_cons_zero, DL.O.flat])
    | refine DL.w_dcons ?_ | refine DL.w_dconsV ?_ | refine DL.w_darcons ?_ | (refine DL.w_dtup ?_) | refine DL.w_dlst ?_ | refine DL.w_dixO ?_ | refine DL.w_sq ?_ | refine DL.w_dixX ?_ | refine DL.w_listX ?_ | refine DL.w_sorted ?_ | refine DL.w_un ?_ | refine DL.w_sqC ?_ | refine DL.w_forC ?_ | refine DL.op_fldI (by with_unfolding_all rfl) ?_ | refine DL.w_rg ?_ | refine DL.w_rvO ?_ | refine DL.w_dslice ?_ | refine DL.w_dtmc ?_ | refine DL.w_dtupN ?_ | refine DL.w_dlist ?_ | refine DL.w_dtuple ?_ | refine DL.w_tupV ?_ | refine DL.w_listV ?_
    | refine DL.w_bind ?_ | refine DL.w_lift ?_ | refine DL.w_frz ?_ | refine DL.w_vw ?_ | refine DL.w_ow ?_
    | refine DL.w_dand ?_ | refine DL.w_dor ?_ | refine DL.w_dnot ?_ | refine DL.w_dandV ?_ | refine DL.w_dorV ?_ | refine DL.w_dnotV ?_ | refine DL.w_dif ?_
    | refine DL.frzP_im ?_ | refine DL.frzP_new ?_ | refine DL.vwP_im ?_ | refine DL.vwP_new ?_ | refine DL.vwP_bor ?_ | refine DL.owP_im ?_ | refine DL.owP_new ?_ | refine DL.owP_bor ?_
    | (refine DL.setP_im (by with_unfolding_all first | rfl | exact DL.fo_free rfl) ?_; simp only [List.set_cons_succ, List.set_cons_zero, DL.O.flat]) | (refine DL.setP_new (by with_unfolding_all first | rfl | exact DL.fo_free rfl) ?_; simp only [List.set_cons_succ, List.set_cons_zero, DL.O.flat])
    | refine DL.argP_im ?_ | refine DL.argP_new ?_ | refine DL.argP_bor ?_ | refine DL.rvP_im ?_ | refine DL.rvP_new ?_ | refine DL.mvP_im ?_ | refine DL.mvP_new ?_ | (refine DL.mvP_bor (by with_unfolding_all rfl) ?_; simp only [List.set_cons_succ, List.set_cons_zero]) | refine DL.itP_im ?_ | refine DL.itP_new ?_ | refine DL.tuP_lst ?_ | refine DL.blP_of ?_
    | refine DL.op_rng (by with_unfolding_all decide) ?_ | refine DL.op_rngG ?_ | refine DL.op_isiII ?_ | refine DL.op_isiIB ?_ | refine DL.op_isiTT ?_ | refine DL.op_isiLL ?_
    | refine DL.op_eq ?_ | refine DL.op_ne ?_ | refine DL.br_t ?_ | refine DL.br_f ?_ | refine DL.br_not ?_ | refine DL.br_eqT (by with_unfolding_all rfl) ?_ | refine DL.br_eqF (by with_unfolding_all rfl) ?_
    | refine DL.op_mod (by with_unfolding_all decide) ?_ | refine DL.op_div (by with_unfolding_all decide) ?_ | refine DL.op_mul (DL.mul_r (by with_unfolding_all decide)) ?_ | refine DL.op_mul (DL.mul_l (by with_unfolding_all decide)) ?_ | refine DL.op_pow (by with_unfolding_all decide) ?_
    | refine DL.w_seq ?_ | refine DL.w_next ?_ | refine DL.w_if ?_ | refine DL.w_match ?_ | refine DL.pickP_of (by with_unfolding_all decide) ?_ | refine DL.sp_t ?_ | refine DL.sp_f (by with_unfolding_all decide) ?_ | refine DL.sp_n ?_ | refine DL.w_rt ?_ | refine DL.w_set ?_ | refine DL.w_drop ?_ | refine DL.w_app (by with_unfolding_all rfl) ?_ | (refine DL.appP_of (by with_unfolding_all rfl) (by first | assumption | with_unfolding_all exact Nat.le_of_ble_eq_true rfl | (simp only [List.length_append, List.length_map, List.length_cons, List.length_nil]; omega)) ?_; simp only [List.set_cons_succ, List.set_cons_zero, DL.O.flat]) | refine DL.w_forP ?_ | refine DL.w_sforv (by with_unfolding_all rfl) (by with_unfolding_all rfl) ?_ | refine DL.w_asg ?_ | refine DL.w_forV ?_ | refine DL.sqt_if ?_ | refine DL.sqt_rt ?_ | refine DL.sqt_next ?_
    | refine DL.sz (by with_unfolding_all exact Nat.le_of_ble_eq_true rfl) ?_
    | refine DL.outI_im (by with_unfolding_all exact Nat.le_of_ble_eq_true rfl) ?_ | refine DL.outI_new (by with_unfolding_all exact Nat.le_of_ble_eq_true rfl) ?_ | refine DL.outI_bor (by with_unfolding_all exact Nat.le_of_ble_eq_true rfl) (by with_unfolding_all rfl) ?_
    | exact DL.us_next | exact DL.us_bk | exact DL.us_ct | exact DL.us_rtN | refine DL.us_seq ?_ ?_ | refine DL.us_if ?_ ?_ ?_ | refine DL.us_rt ?_ | refine DL.us_drop ?_ | refine DL.us_setI (by decide) ?_
    | exact DL.ud_pure | exact DL.ud_lift | exact DL.ud_xf | exact DL.ud_xi | exact DL.ud_var (by decide) | exact DL.ud_frz (by decide)
    | refine DL.ud_imR ?_ | refine DL.ud_vw ?_ | refine DL.ud_dtup ?_ | refine DL.ud_dlst ?_ | refine DL.ud_dcons ?_ ?_ | refine DL.ud_dconsV ?_ ?_ | refine DL.ud_dbin ?_ ?_ | refine DL.ud_dcmp ?_ ?_ | refine DL.ud_dtB ?_ | refine DL.ud_dtru ?_
    | refine DL.ud_dnot ?_ | refine DL.ud_dand ?_ ?_ | refine DL.ud_dor ?_ ?_ | refine DL.ud_dnotV ?_ | refine DL.ud_dandV ?_ ?_ | refine DL.ud_dorV ?_ ?_ | refine DL.ud_dif ?_ ?_ ?_ | refine DL.ud_imD ?_ | refine DL.ud_fl ?_ | refine DL.ud_dixO ?_ ?_ | refine DL.ud_dixX ?_ ?_ | exact DL.ud_ow (by decide) | exact DL.ud_meth0 (by decide) | (refine DL.ud_bind ?_ fun _ => ?_)
    | refine DL.w_op (by with_unfolding_all rfl) ?_ | rfl)

theorem zip_same {γ : Type} : ∀ (l : List γ) (p : γ × γ), p ∈ l.zip l → p.1 = p.2
  | [], p, h => by cases h
  | a :: l, p, h => by
    rw [List.zip_cons_cons] at h
    rcases List.mem_cons.mp h with rfl | h
    · rfl
    · exact zip_same l p h
theorem run_self : ∀ (f : Nat) (st : List (Kd × Kd)) (t : List (Int × Kd)), stz st ≤ f → (∀ p ∈ st, p.1 = p.2) → (∀ n w, getA t n = some w → w = .any n) → run f st t = true
  | f, [], t, _, _, _ => by cases f <;> rfl
  | 0, p :: st, t, h, _, _ => by
    have := ksz_pos p.2
    unfold stz at h
    rw [List.map_cons, List.sum_cons] at h
    omega
  | f + 1, (m, o) :: st, t, h, hp, ht => by
    have hm : m = o := hp (m, o) List.mem_cons_self
    subst hm
    have hs : stz ((m, m) :: st) = ksz m + stz st := by unfold stz; rw [List.map_cons, List.sum_cons]
    have hk := ksz_pos m
    by_cases ha : ∃ n, m = .any n
    · obtain ⟨n, rfl⟩ := ha
      rw [run_any, if_neg (fun z => ?_)]
      · refine run_self f st _ (by omega) (fun p hh => hp p (List.mem_cons_of_mem _ hh)) fun k w hw => ?_
        rw [getA_put] at hw
        split at hw
        · rename_i e; cases hw; rw [e]
        · exact ht k w hw
      · cases hg : getA t n with
        | none => exact z.1 hg
        | some w => exact z.2 (by rw [hg, ht n w hg])
    · rw [run_other (fun n z => ha ⟨n, z⟩), if_neg (fun z => z rfl)]
      have := stz_kids (st := st) (rfl : hdS m = hdS m)
      refine run_self f _ t (by omega) (fun p hh => ?_) ht
      rcases List.mem_append.mp hh with hh | hh
      · exact zip_same _ p (List.mem_reverse.mp hh)
      · exact hp p (List.mem_cons_of_mem _ hh)
theorem tb_flat (t : List (Int × Kd)) : O.flat (tbO t) = tabD t := by
  show D.dct _ (O.flats _) = D.dct _ _
  rw [flats_map (g := fun p : Int × Kd => kdD p.2)]
theorem op_lenT {t : List (Int × Kd)} {P : D → Prop} (p : P (.int t.length)) : OP (lenXD [tabD t]) P := ⟨_, by
  show (if ((t.map fun p => D.int p.1).all fun k => !(isTupD k)) = true then some (D.int (t.map fun p => D.int p.1).length) else none) = _
  rw [if_pos (by rw [List.all_map]; exact List.all_eq_true.mpr fun x _ => rfl), List.length_map], p⟩
theorem law_ok (sc : List Int) (hsc : sc.length ≤ 63) : FI f_law [.scr (sc.map D.int)] (· = .im (.bl true)) := by
  refine w_fi ?_
  unfold d_law
  show SW _ [some (false, .im _), none, none, none, none, none, none, none, none, none, none] _
  refine w_seqM (fun e => ∃ ds, e = [some (false, .im (.scr (sc.map D.int))), some (false, dl ds), none, none, none, none, none, none, none, none, none] ∧ nn ds) ?_ ?_
  · trivial
    refine w_call (ds := [.scr _, .int 160]) (numbers_ok hsc) rfl ?_
    rintro v ⟨ds, rfl, h⟩
    dsimp only [rvF]
    trivial
    exact ⟨ds, rfl, h⟩
  rintro e ⟨ds, rfl, h⟩
  refine w_seqM (fun e => ∃ ds ns, e = [some (false, .im (.scr (sc.map D.int))), some (false, dl ds), some (false, .im (liD ns)), none, none, none, none, none, none, none, none] ∧ nn ds ∧ (∀ n ∈ ns, 0 ≤ n ∧ n ≤ 1000000) ∧ ns.length = 4) ?_ ?_
  · trivial
    refine w_fo (draw_ok h (m := 4) (by omega) (by omega)) rfl rfl (.inl rfl) ?_
    rintro os' r ⟨ds1, a, rfl, h1, rfl, a0, a1⟩
    refine ⟨_, rfl, ?_⟩
    simp only [List.set_cons_succ, List.set_cons_zero, rvF]
    trivial
    refine w_fo (draw_ok h1 (m := 4) (by omega) (by omega)) rfl rfl (.inl rfl) ?_
    rintro os' r ⟨ds2, b, rfl, h2, rfl, b0, b1⟩
    refine ⟨_, rfl, ?_⟩
    simp only [List.set_cons_succ, List.set_cons_zero, rvF]
    trivial
    refine w_fo (draw_ok h2 (m := 1000) (by omega) (by omega)) rfl rfl (.inl rfl) ?_
    rintro os' r ⟨ds3, c, rfl, h3, rfl, c0, c1⟩
    refine ⟨_, rfl, ?_⟩
    simp only [List.set_cons_succ, List.set_cons_zero, rvF]
    trivial
    refine w_fo (big_ok h3) rfl rfl (.inl rfl) ?_
    rintro os' r ⟨ds4, k, rfl, h4, rfl, k0⟩
    refine ⟨_, rfl, ?_⟩
    simp only [List.set_cons_succ, List.set_cons_zero, rvF]
    trivial
    have f := fm k (b := 1000001) (by decide)
    refine ⟨ds4, [a, b, c, k.fmod 1000001], rfl, h4, fun n hn => ?_, rfl⟩
    simp only [List.mem_cons, List.not_mem_nil, or_false] at hn
    rcases hn with rfl | rfl | rfl | rfl <;> omega
  clear h ds
  rintro e ⟨ds, ns, rfl, h, hns, hl4⟩
  have hl : 0 < ns.length ∧ ns.length ≤ 10 := by omega
  refine w_seqM (fun e => ∃ ds G, e = [some (false, .im (.scr (sc.map D.int))), some (false, dl ds), some (false, .im (liD ns)), some (false, .im (kdD G)), none, none, none, none, none, none, none] ∧ nn ds ∧ nok G ∧ dp G ≤ 4 ∧ ksz G ≤ 15) ?_ ?_
  · trivial
    refine w_fo (kind_ok hns hl 10 4 (by omega) (by omega) h) rfl rfl (.inl rfl) ?_
    rintro os' r ⟨ds1, k, rfl, h1, rfl, nk, dk⟩
    refine ⟨_, rfl, ?_⟩
    simp only [List.set_cons_succ, List.set_cons_zero, rvF]
    trivial
    have s := sz_dp k
    have s2 : 2 ^ dp k ≤ 2 ^ 4 := Nat.pow_le_pow_right (by decide) dk
    exact ⟨ds1, k, rfl, h1, nk, dk, by omega⟩
  clear h ds
  rintro e ⟨ds, G, rfl, h, nG, dG, zG⟩
  refine w_seqM (fun e => ∃ ds G s4, e = [some (false, .im (.scr (sc.map D.int))), some (false, dl ds), some (false, .im (liD ns)), some (false, .im (kdD G)), fo s4, none, none, none, none, none, none] ∧ nn ds ∧ nok G ∧ dp G ≤ 44 ∧ ksz G ≤ 55) ?_ ?_
  · trivial
    refine w_fo (draw_ok h (m := 8) (by omega) (by omega)) rfl rfl (.inl rfl) ?_
    rintro os' r ⟨ds1, v, rfl, h1, rfl, v0, v1⟩
    refine ⟨_, rfl, ?_⟩
    simp only [List.set_cons_succ, List.set_cons_zero, rvF]
    trivial
    refine br_dec (fun _ => ?_) (fun _ => ?_)
    · trivial
      refine w_fo (draw_ok h1 (m := 40) (by omega) (by omega)) rfl rfl (.inl rfl) ?_
      rintro os' r ⟨ds2, w, rfl, h2, rfl, w0, w1⟩
      refine ⟨_, rfl, ?_⟩
      simp only [List.set_cons_succ, List.set_cons_zero, rvF]
      trivial
      refine ⟨⟨w0, by omega⟩, ?_⟩
      refine sw_range (fun i e => ∃ G s4, e = [some (false, .im (.scr (sc.map D.int))), some (false, dl ds2), some (false, .im (liD ns)), some (false, .im (kdD G)), fo s4, none, none, none, none, none, none] ∧ nok G ∧ dp G ≤ 4 + i ∧ ksz G ≤ 15 + i) ⟨G, none, rfl, nG, by omega, by omega⟩ ?_ ?_
      · rintro i e hi ⟨G, s4, rfl, nG, dG, zG⟩
        refine ⟨[some (false, .im (.scr (sc.map D.int))), some (false, dl ds2), some (false, .im (liD ns)), some (false, .im (kdD G)), some (false, .im (.int i)), none, none, none, none, none, none], by cases s4 <;> rfl, ?_⟩
        trivial
        exact ⟨.list G, some (.im (.int i)), rfl, nG, by show dp G + 1 ≤ _; omega, by show 1 + ksz G ≤ _; omega⟩
      · rintro e ⟨G, s4, rfl, nG, dG, zG⟩
        exact ⟨ds2, G, s4, rfl, h2, nG, by omega, by omega⟩
    · trivial
      exact ⟨ds1, G, none, rfl, h1, nG, by omega, by omega⟩
  clear h ds nG dG zG G
  rintro e ⟨ds, G, s4, rfl, h, nG, dG, zG⟩
  refine w_seqM (fun e => e = [some (false, .im (.scr (sc.map D.int))), some (false, dl ds), some (false, .im (liD ns)), some (false, .im (kdD G)), fo s4, some (false, TO []), none, none, none, none, none]) (by trivial; rfl) ?_
  rintro e rfl
  refine w_seqM (fun e => e = [some (false, .im (.scr (sc.map D.int))), some (false, dl ds), some (false, .im (liD ns)), some (false, .im (kdD G)), fo s4, some (false, TO []), some (false, tbO []), none, none, none, none]) (by trivial; rfl) ?_
  rintro e rfl
  refine w_seqM (fun e => ∃ ds t s7 s8, e = [some (false, .im (.scr (sc.map D.int))), some (false, dl ds), some (false, .im (liD ns)), some (false, .im (kdD G)), fo s4, some (false, TO t), some (false, tbO t), fo s7, fo s8, none, none] ∧ nn ds ∧ tok t 3 7 ∧ t.length ≤ 4 ∧ (t.map (·.1)).Nodup) ?_ ?_
  · trivial
    refine sw_each ns D.int (fun i e => ∃ ds t s7 s8, e = [some (false, .im (.scr (sc.map D.int))), some (false, dl ds), some (false, .im (liD ns)), some (false, .im (kdD G)), fo s4, some (false, TO t), some (false, tbO t), fo s7, fo s8, none, none] ∧ nn ds ∧ tok t 3 7 ∧ t.length ≤ i ∧ (t.map (·.1)).Nodup) ⟨ds, [], none, none, rfl, h, fun n k z => (by cases z), Nat.le_refl _, List.nodup_nil⟩ ?_ ?_
    · rintro i a e hi ⟨ds, t, s7, s8, rfl, h, ht, hl2, nd⟩
      have hi4 := (List.getElem?_eq_some_iff.mp hi).1
      refine ⟨[some (false, .im (.scr (sc.map D.int))), some (false, dl ds), some (false, .im (liD ns)), some (false, .im (kdD G)), fo s4, some (false, TO t), some (false, tbO t), some (false, .im (.int a)), fo s8, none, none], by cases s7 <;> rfl, ?_⟩
      trivial
      cases hg : getA t a with
      | some w =>
        refine w_op (z := false) (by rw [show notinXD (.int a) (O.flat (tbO t)) = _ from kg_int.notin t a _, hg]; rfl) ?_
        trivial
        exact ⟨ds, t, some (.im (.int a)), s8, rfl, h, ht, by omega, nd⟩
      | none =>
        refine w_op (z := true) (by rw [show notinXD (.int a) (O.flat (tbO t)) = _ from kg_int.notin t a _, hg]; rfl) ?_
        trivial
        refine w_fo (draw_ok h (m := 4) (by omega) (by omega)) rfl rfl (.inl rfl) ?_
        rintro os' r ⟨ds1, v, rfl, h1, rfl, v0, v1⟩
        refine ⟨_, rfl, ?_⟩
        simp only [List.set_cons_succ, List.set_cons_zero, rvF]
        trivial
        refine br_dec (fun _ => ?_) (fun _ => ?_)
        · refine w_seqM (fun e => ∃ ds k, e = [some (false, .im (.scr (sc.map D.int))), some (false, dl ds), some (false, .im (liD ns)), some (false, .im (kdD G)), fo s4, some (false, TO t), some (false, tbO t), some (false, .im (.int a)), some (false, .im (kdD k)), none, none] ∧ nn ds ∧ nok k ∧ dp k ≤ 3 ∧ ksz k ≤ 7) ?_ ?_
          · trivial
            refine w_fo (kind_ok hns hl 10 3 (by omega) (by omega) h1) rfl rfl (.inl rfl) ?_
            rintro os' r ⟨ds2, k, rfl, h2, rfl, nk, dk⟩
            refine ⟨_, rfl, ?_⟩
            simp only [List.set_cons_succ, List.set_cons_zero, rvF]
            trivial
            have s := sz_dp k
            have s2 : 2 ^ dp k ≤ 2 ^ 3 := Nat.pow_le_pow_right (by decide) dk
            exact ⟨ds2, k, rfl, h2, nk, dk, by omega⟩
          rintro e ⟨ds2, k, rfl, h2, nk, dk, zk⟩
          have len : (t.map fun p => O.im (rowD p)).length < sizeLine := by
            rw [List.length_map]
            exact Nat.lt_of_lt_of_le (show t.length < 100 by omega) (by decide)
          refine w_seqM (fun e => e = [some (false, .im (.scr (sc.map D.int))), some (false, dl ds2), some (false, .im (liD ns)), some (false, .im (kdD G)), fo s4, some (false, TO (t ++ [(a, k)])), some (false, tbO t), some (false, .im (.int a)), some (false, .im (kdD k)), none, none]) ?_ ?_
          · trivial
            unfold TO
            rw [List.map_append]
            rfl
          rintro e rfl
          refine w_stD kg_int (h := fun k => O.im (kdD k)) ?_
          trivial
          refine w_pVar rfl rfl fun pl h3 h4 => ?_
          trivial
          refine ⟨t, a, k, rfl, rfl, h3, Nat.lt_of_lt_of_le (show t.length < 100 by omega) (by decide), ?_⟩
          rw [h4, putA_new hg]
          have na := getA_none.mp hg
          refine ⟨ds2, t ++ [(a, k)], some (.im (.int a)), some (.im (kdD k)), rfl, h2, fun n w hw => ?_, by rw [List.length_append]; show t.length + 1 ≤ _; omega, ?_⟩
          · rw [← putA_new (v := k) hg, getA_put] at hw
            split at hw
            · cases hw; exact ⟨nk, dk, zk⟩
            · exact ht n w hw
          · rw [List.map_append]
            exact List.nodup_append.mpr ⟨nd, by simp, fun x hx y hy z => by
              have hy : y = a := List.mem_singleton.mp hy
              subst z
              exact na (hy ▸ hx)⟩
        · trivial
          exact ⟨ds1, t, some (.im (.int a)), s8, rfl, h1, ht, by omega, nd⟩
    · rintro e ⟨ds, t, s7, s8, rfl, h, ht, hl2, nd⟩
      exact ⟨ds, t, s7, s8, rfl, h, ht, by omega, nd⟩
  clear h ds
  rintro e ⟨ds, t, s7, s8, rfl, h, ht, hl2, nd⟩
  have hput := put_ok ht (by omega : 1 ≤ 7) nG
  generalize hK : put t G = K at hput
  obtain ⟨nK, dK, zK⟩ := hput
  refine w_seqM (fun e => e = [some (false, .im (.scr (sc.map D.int))), some (false, dl ds), some (false, .im (liD ns)), some (false, .im (kdD G)), fo s4, some (false, .im (.lst (t.map rowD))), some (false, tbO t), fo s7, fo s8, some (false, .im (kdD K)), none]) ?_ ?_
  · trivial
    rw [flats_map (g := rowD)]
    refine w_callI (ds := [_, .lst _]) (lput_ok G 60 (by omega)) rfl ?_
    trivial
    rw [hK]
  rintro e rfl
  refine w_seqM (fun e => e = [some (false, .im (.scr (sc.map D.int))), some (false, dl ds), some (false, .im (liD ns)), some (false, .im (kdD G)), fo s4, some (false, .im (.lst (t.map rowD))), some (false, .im (tabD t)), fo s7, fo s8, some (false, .im (kdD K)), some (false, .im (kdD K))]) ?_ ?_
  · trivial
    rw [tb_flat]
    refine w_callI (ds := [_, tabD _]) (replace_ok G 60 (by omega)) rfl ?_
    trivial
    rw [hK]
  rintro e rfl
  refine w_seqM (fun e => e = [some (false, .im (.scr (sc.map D.int))), some (false, dl ds), some (false, .im (liD ns)), some (false, .im (kdD G)), fo s4, some (false, .im (.lst (t.map rowD))), some (false, .im (tabD t)), fo s7, fo s8, some (false, .im (kdD K)), some (false, .im (kdD K))]) ?_ ?_
  · trivial
    refine w_callI (ds := [_, _]) (eq_kd K 60 (by omega)) rfl ?_
    trivial
    refine op_lenT ?_
    trivial
    rw [List.length_map]
    refine br_dec (fun _ => ?_) (fun h => absurd rfl h)
    trivial
  rintro e rfl
  refine w_seqM (fun e => ∃ s7 s8, e = [some (false, .im (.scr (sc.map D.int))), some (false, dl ds), some (false, .im (liD ns)), some (false, .im (kdD G)), fo s4, some (false, .im (.lst (t.map rowD))), some (false, .im (tabD t)), fo s7, fo s8, some (false, .im (kdD K)), some (false, .im (kdD K))]) ?_ ?_
  · trivial
    refine sw_each t rowD (fun i e => ∃ s7 s8, e = [some (false, .im (.scr (sc.map D.int))), some (false, dl ds), some (false, .im (liD ns)), some (false, .im (kdD G)), fo s4, some (false, .im (.lst (t.map rowD))), some (false, .im (tabD t)), fo s7, fo s8, some (false, .im (kdD K)), some (false, .im (kdD K))]) ⟨s7, s8, rfl⟩ ?_ ?_
    · rintro i p e hi ⟨s7, s8, rfl⟩
      obtain ⟨n, w⟩ := p
      have hg : getA t n = some w := getA_of nd (p := (n, w)) (List.mem_of_getElem? hi)
      have dw := (ht n w hg).2.1
      refine ⟨[some (false, .im (.scr (sc.map D.int))), some (false, dl ds), some (false, .im (liD ns)), some (false, .im (kdD G)), fo s4, some (false, .im (.lst (t.map rowD))), some (false, .im (tabD t)), some (false, .im (.int n)), some (false, .im (kdD w)), some (false, .im (kdD K)), some (false, .im (kdD K))], by cases s7 <;> cases s8 <;> rfl, ?_⟩
      trivial
      refine w_getX ?_
      trivial
      refine ⟨rfl, ?_⟩
      trivial
      refine w_op (z := .im (kdD w)) (by show getOX (.im (tabD t)) (.int n) (.im .non) = _; rw [getF kg_int t n .non, hg]; rfl) ?_
      trivial
      refine op_neK (by omega) (by omega) ?_
      refine br_dec (fun h => absurd rfl h) (fun _ => ?_)
      trivial
      exact ⟨some (.im (.int n)), some (.im (kdD w)), rfl⟩
    · rintro e ⟨s7, s8, rfl⟩
      exact ⟨s7, s8, rfl⟩
  clear s7 s8
  rintro e ⟨s7, s8, rfl⟩
  refine w_seqM (fun e => e = [some (false, .im (.scr (sc.map D.int))), some (false, dl ds), some (false, .im (liD ns)), some (false, .im (kdD G)), fo s4, some (false, .im (.lst (t.map rowD))), some (false, .im (tabD t)), fo s7, fo s8, some (false, .im (kdD K)), some (false, .im (kdD K))]) ?_ ?_
  · trivial
    refine w_callI (ds := [_, _]) (inst_ok (by omega) (by omega) (by omega)) rfl ?_
    rw [run_self _ _ _ (by show ksz G + 0 ≤ _; omega) (fun p hp => by rw [List.mem_singleton.mp hp]) (fun n w z => by cases z)]
    trivial
    refine w_callI (ds := [_, _]) (eq_bl 59 true) rfl ?_
    trivial
  rintro e rfl
  refine w_seqM (fun e => e = [some (false, .im (.scr (sc.map D.int))), some (false, dl ds), some (false, .im (liD ns)), some (false, .im (kdD G)), fo s4, some (false, .im (.lst (t.map rowD))), some (false, .im (tabD t)), fo s7, fo s8, some (false, .im (kdD K)), some (false, .im (kdD K))]) ?_ ?_
  · trivial
    refine w_callI (ds := [_, _]) (eq_tup (j := 59) (ds := [kdD .int, kdD .bool, kdD .out, .int 40]) (by show 4 ≤ _; omega) fun d hd => ?_) rfl ?_
    · simp only [List.mem_cons, List.not_mem_nil, or_false] at hd
      rcases hd with rfl | rfl | rfl | rfl
      · exact eq_kd .int 59 (by show 1 < 59; omega)
      · exact eq_kd .bool 59 (by show 1 < 59; omega)
      · exact eq_kd .out 59 (by show 1 < 59; omega)
      · exact eq_int 58 40
    trivial
  rintro e rfl
  refine w_seqM (fun e => ∃ ds K', e = [some (false, .im (.scr (sc.map D.int))), some (false, dl ds), some (false, .im (liD ns)), some (false, .im (kdD G)), fo s4, some (false, .im (.lst (t.map rowD))), some (false, .im (tabD t)), fo s7, fo s8, some (false, .im (kdD K')), some (false, .im (kdD K))] ∧ nok K' ∧ dp K' ≤ 50 ∧ ksz K' ≤ 1000) ?_ ?_
  · trivial
    refine w_fo (draw_ok h (m := 2) (by omega) (by omega)) rfl rfl (.inl rfl) ?_
    rintro os' r ⟨ds1, v, rfl, h1, rfl, v0, v1⟩
    refine ⟨_, rfl, ?_⟩
    simp only [List.set_cons_succ, List.set_cons_zero, rvF]
    trivial
    refine br_dec (fun _ => ?_) (fun _ => ?_)
    · trivial
      refine w_fo (kind_ok hns hl 10 2 (by omega) (by omega) h1) rfl rfl (.inl rfl) ?_
      rintro os' r ⟨ds2, o, rfl, h2, rfl, no_, do_⟩
      refine ⟨_, rfl, ?_⟩
      simp only [List.set_cons_succ, List.set_cons_zero, rvF]
      trivial
      have s := sz_dp o
      have s2 : 2 ^ dp o ≤ 2 ^ 2 := Nat.pow_le_pow_right (by decide) do_
      refine w_fo (changed_ok no_ 60 K nK (by omega) h2) rfl rfl (.inl rfl) ?_
      rintro os' r ⟨ds3, k3, rfl, h3, rfl, q1, q2, q3⟩
      refine ⟨_, rfl, ?_⟩
      simp only [List.set_cons_succ, List.set_cons_zero, rvF]
      trivial
      exact ⟨ds3, k3, rfl, q1, by omega, by omega⟩
    · trivial
      refine w_fo (draw_ok h1 (m := 4) (by omega) (by omega)) rfl rfl (.inl rfl) ?_
      rintro os' r ⟨ds2, w, rfl, h2, rfl, w0, w1⟩
      refine ⟨_, rfl, ?_⟩
      simp only [List.set_cons_succ, List.set_cons_zero, rvF]
      trivial
      refine br_dec (fun _ => ?_) (fun _ => ?_)
      · trivial
        refine w_fo (kind_ok hns hl 10 3 (by omega) (by omega) h2) rfl rfl (.inl rfl) ?_
        rintro os' r ⟨ds3, k, rfl, h3, rfl, nk, dk⟩
        refine ⟨_, rfl, ?_⟩
        simp only [List.set_cons_succ, List.set_cons_zero, rvF]
        trivial
        have s := sz_dp k
        have s2 : 2 ^ dp k ≤ 2 ^ 3 := Nat.pow_le_pow_right (by decide) dk
        exact ⟨ds3, k, rfl, nk, by omega, by omega⟩
      · trivial
        exact ⟨ds2, K, rfl, nK, by omega, by omega⟩
  clear h ds
  rintro e ⟨ds, K', rfl, nK', dK', zK'⟩
  refine w_seqM (fun e => e = [some (false, .im (.scr (sc.map D.int))), some (false, dl ds), some (false, .im (liD ns)), some (false, .im (kdD G)), fo s4, some (false, .im (.lst (t.map rowD))), some (false, .im (tabD t)), fo s7, fo s8, some (false, .im (kdD K')), some (false, .im (kdD K))]) ?_ ?_
  · trivial
    refine w_callI (ds := [_]) (looks_ok nG (by omega) (by omega)) rfl ?_
    trivial
    refine w_callI (ds := [_]) (looks_ok nK' (by omega) (by omega)) rfl ?_
    trivial
  rintro e rfl
  trivial
  refine w_callI (ds := [_, _]) (inst_ok (by omega) (by omega) (by omega)) rfl ?_
  trivial
  refine w_callI (ds := [.lst [prD (K', G)]]) (match_ok (by omega) (by omega) (by omega)) rfl ?_
  trivial
  refine w_callI (ds := [_, _]) (eq_bl 59 _) rfl ?_
  trivial
theorem law_true (A : Unit) (_ : True) (ns : List Int) (hl : ns.length ≤ 63) : ∃ m os, fA A [.im (.scr (ns.map D.int))] = some (.ok m os (.im (.bl true))) := by
  obtain ⟨m, os, r, h1, h2, rfl⟩ := law_ok ns hl
  exact ⟨m, os, h1⟩
end K14

section
open PySem PySem.W PyProof.Rows
set_option maxRecDepth 100000 in
set_option maxHeartbeats 0 in
theorem PySem.Challenge.cw_keptcoin_k14_kinds_holds : PySem.Challenge.rw_keptcoin_k14_kinds.Holds := by
  refine K14H.top ?_
  k_fill
  refine DL.walkD (l := PySem.Challenge.rw_keptcoin_k14_kinds) (x := "_law_script") (f := K14.fA) (G := fun _ => True) (k := 64) rfl rfl ⟨rfl, by decide, by decide⟩ (fun w h Y => PySem.W.kIn_of Y) K14.law_true ?F
  case F =>
    intro w mg fa h KX G hmg
    refine' K14.all_mk KX G hmg ?h0 ?h1 ?h2 ?h3 ?h4 ?h5 ?h6 ?h7 ?h8 ?h9 ?h10 ?h11 ?h12 ?h13 ?h14 ?h15 ?h16 ?h17 ?h18 ?h19 ?h20 ?h21 ?h22 ?h23 ?h24 ?h25 ?h26 ?h27 ?h28 ?h29 ?h30 ?h31 ?h32 ?h33 ?h34 ?h35 ?h36 ?h37 ?h38 ?h39 ?h40 ?h41 ?h42 ?h43 ?h44 ?h45 ?h46 ?h47 ?h48 ?h49 ?h50 ?h51 ?h52 ?h53 ?h54 ?h55 ?h56 ?h57 ?h58 ?h59 ?h60 ?h61 ?h62 ?h63 ?h64 ?h65 ?h66 ?h67 ?h68 ?h69 ?h70 ?h71 ?h72 ?h73 ?h74 ?h75 ?h76 ?h77 ?h78 ?h79 ?h80 ?h81 ?h82 ?h83 ?h84 ?h85 ?h86 ?h87 ?h88 ?h89 ?h90 ?h91 ?h92 ?h93 ?h94 ?h95 ?h96 ?h97
    (case h0 => k_is)
    (case h1 => k_is)
    (case h2 => k_is)
    (case h3 => k_is)
    (case h4 => k_is)
    (case h5 => k_is)
    (case h6 => k_is)
    (case h7 => k_is)
    (case h8 => k_is)
    (case h9 => k_is)
    (case h10 => k_is)
    (case h11 => k_is)
    (case h12 => k_is)
    (case h13 => k_is)
    (case h14 => k_is)
    (case h15 => k_is)
    (case h16 => k_is)
    (case h17 => k_is)
    (case h18 => k_is)
    (case h19 => k_is)
    (case h20 => k_is)
    (case h21 => k_is)
    (case h22 => k_is)
    (case h23 => k_is)
    (case h24 => k_is)
    (case h25 => k_is)
    (case h26 => k_is)
    (case h27 => k_is)
    (case h28 => k_is)
    (case h29 => k_is)
    (case h30 => k_is)
    (case h31 => k_is)
    (case h32 => k_is)
    (case h33 => k_is)
    (case h34 => k_is)
    (case h35 => k_is)
    (case h36 => k_is)
    (case h37 => k_is)
    (case h38 => k_is)
    (case h39 => k_is)
    (case h40 => k_is)
    (case h41 => k_is)
    (case h42 => k_is)
    (case h43 => k_is)
    (case h44 => k_is)
    (case h45 => k_is)
    (case h46 => k_is)
    (case h47 => k_is)
    (case h48 => k_is)
    (case h49 => k_is)
    (case h50 => k_is)
    (case h51 => k_is)
    (case h52 => k_is)
    (case h53 => k_is)
    (case h54 => k_is)
    (case h55 => k_is)
    (case h56 => k_is)
    (case h57 => k_is)
    (case h58 => k_is)
    (case h59 => k_is)
    (case h60 => k_is)
    (case h61 => k_is)
    (case h62 => k_is)
    (case h63 => k_is)
    (case h64 => k_is)
    (case h65 => k_is)
    (case h66 => k_is)
    (case h67 => k_is)
    (case h68 => k_is)
    (case h69 => k_is)
    (case h70 => k_is)
    (case h71 => k_is)
    (case h72 => k_is)
    (case h73 => k_is)
    (case h74 => k_is)
    (case h75 => k_is)
    (case h76 => k_is)
    (case h77 => k_is)
    (case h78 => k_is)
    (case h79 => k_is)
    (case h80 => k_is)
    (case h81 => k_is)
    (case h82 => k_is)
    (case h83 => k_is)
    (case h84 => k_is)
    (case h85 => k_is)
    (case h86 => k_is)
    (case h87 => k_is)
    (case h88 => k_is)
    (case h89 => k_is)
    (case h90 => k_is)
    (case h91 => k_is)
    (case h92 => k_is)
    (case h93 => k_is)
    (case h94 => k_is)
    (case h95 => k_is)
    (case h96 => k_is)
    (case h97 => k_is)
end


