import PyProof.Rows.All
import Wide.All
import OpenK.AllK
import Wide.FinOn
import HandS.ForMost
import HandS.ForExc
import HandS.Evl
import HandS.Wide
import HandS.Deep
import HandS.IsInst
import HandS.Text
import PySem.Challenge.RW_keptcoin_k21_operators
set_option Elab.async false
set_option linter.all false
set_option maxRecDepth 100000
set_option maxHeartbeats 4000000
/-! DLA: data without the heap: D (frozen), O (owned), what stands for what, the state's relation RE. -/
namespace DL
open PySem PySem.Spec PyProof.Rows L2 Evl

inductive D where
  | any | non | bl (b : Bool) | int (i : Int) | str (x : Str) | ty (n : String) | adr (a : Addr)
  | tup (xs : List D) | wtp (xs : List D) | lst (xs : List D) | scr (xs : List D) | dct (ks vs : List D) | ins (C : Addr) (ns : List Str) (vs : List D)

inductive O where
  | im (d : D) | lst (xs : List O) | tup (xs : List O) | dct (ks : List D) (vs : List O) | ins (C : Addr) (ns : List Str) (vs : List O)

mutual
def O.flat : O → D
  | .im d => d
  | .lst xs => .lst (O.flats xs)
  | .tup xs => .tup (O.flats xs)
  | .dct ks vs => .dct ks (O.flats vs)
  | .ins C ns vs => .ins C ns (O.flats vs)
def O.flats : List O → List D
  | [] => []
  | o :: os => o.flat :: O.flats os
end
theorem flats_im : ∀ ds : List D, O.flats (ds.map O.im) = ds
  | [] => rfl
  | d :: ds => by
    show O.flat (O.im d) :: O.flats (ds.map O.im) = d :: ds
    rw [flats_im ds]
    rfl

def kD : Key → D
  | .inl i => .int i
  | .inr x => .str x
def DictAt (ho : HO) (ks : List D) (xs : List V) : Prop :=
  (∃ kvs : List (Key × V), ho = .dK kvs ∧ ks = kvs.map (fun p => kD p.1) ∧ xs = kvs.map (·.2)) ∨
  (∃ kvs : List (List Key × V), ho = .dT kvs ∧ ks = kvs.map (fun p => D.tup (p.1.map kD)) ∧ xs = kvs.map (·.2))

mutual
def Rep (K : PySem.W.Frag) (F : Hp) : D → V → Prop
  | .any, _ => True
  | .non, v => v = .non
  | .bl b, v => v = .bl b
  | .int i, v => v = .int i
  | .str x, v => v = .str x
  | .ty n, v => v = .ty n
  | .adr a, v => v = .ref a
  | .tup ds, v => ∃ a xs, v = .ref a ∧ F a = some (.tup xs) ∧ Reps K F ds xs
  | .wtp ds, v => ∃ a xs, v = .ref a ∧ SqT K F a xs ∧ Reps K F ds xs
  | .lst ds, v => ∃ a xs, v = .ref a ∧ F a = some (.lst xs) ∧ Reps K F ds xs
  | .scr ds, v => ∃ a xs, v = .ref a ∧ SqL K F a xs ∧ Reps K F ds xs
  | .dct ks ds, v => ∃ a ho xs, v = .ref a ∧ F a = some ho ∧ DictAt ho ks xs ∧ Reps K F ds xs
  | .ins C ns ds, v => ∃ a dx xs, v = .ref a ∧ F a = some (.ins C dx (ns.zip xs)) ∧ ns.length = xs.length ∧ Reps K F ds xs
def Reps (K : PySem.W.Frag) (F : Hp) : List D → List V → Prop
  | [], xs => xs = []
  | d :: ds, xs => ∃ x r, xs = x :: r ∧ Rep K F d x ∧ Reps K F ds r
end
mutual
theorem Rep.mono {K : PySem.W.Frag} {F F' : Hp} (e : Ex F F') : ∀ (d : D) (v : V), Rep K F d v → Rep K F' d v
  | .any, v, h => h
  | .non, v, h => h
  | .bl b, v, h => h
  | .int i, v, h => h
  | .str x, v, h => h
  | .ty n, v, h => h
  | .adr a, v, h => h
  | .tup ds, v, h => by
    obtain ⟨a, xs, e1, h1, h2⟩ := h
    exact ⟨a, xs, e1, e a _ h1, Reps.mono e ds xs h2⟩
  | .wtp ds, v, h => by
    obtain ⟨a, xs, e1, h1, h2⟩ := h
    exact ⟨a, xs, e1, ex_t e h1, Reps.mono e ds xs h2⟩
  | .lst ds, v, h => by
    obtain ⟨a, xs, e1, h1, h2⟩ := h
    exact ⟨a, xs, e1, e a _ h1, Reps.mono e ds xs h2⟩
  | .scr ds, v, h => by
    obtain ⟨a, xs, e1, h1, h2⟩ := h
    exact ⟨a, xs, e1, ex_l e h1, Reps.mono e ds xs h2⟩
  | .dct ks ds, v, h => by
    obtain ⟨a, ho, xs, e1, h1, h2, h3⟩ := h
    exact ⟨a, ho, xs, e1, e a ho h1, h2, Reps.mono e ds xs h3⟩
  | .ins C ns ds, v, h => by
    obtain ⟨a, dx, xs, e1, h1, h2, h3⟩ := h
    exact ⟨a, dx, xs, e1, e a _ h1, h2, Reps.mono e ds xs h3⟩
theorem Reps.mono {K : PySem.W.Frag} {F F' : Hp} (e : Ex F F') : ∀ (ds : List D) (xs : List V), Reps K F ds xs → Reps K F' ds xs
  | [], xs, h => h
  | d :: ds, xs, h => by
    obtain ⟨x, r, e1, h1, h2⟩ := h
    exact ⟨x, r, e1, Rep.mono e d x h1, Reps.mono e ds r h2⟩
end
theorem Reps.length {K : PySem.W.Frag} {F : Hp} : ∀ {ds : List D} {xs : List V}, Reps K F ds xs → ds.length = xs.length
  | [], xs, h => by rw [show xs = [] from h]; rfl
  | d :: ds, xs, h => by
    obtain ⟨x, r, e1, h1, h2⟩ := h
    rw [e1, List.length_cons, List.length_cons, Reps.length h2]
theorem Reps.get {K : PySem.W.Frag} {F : Hp} : ∀ {ds : List D} {xs : List V} (i : Nat) {d : D}, Reps K F ds xs → ds[i]? = some d → ∃ x, xs[i]? = some x ∧ Rep K F d x
  | [], xs, i, d, h, e => by simp at e
  | d0 :: ds, xs, 0, d, h, e => by
    obtain ⟨x, r, e1, h1, h2⟩ := h
    subst e1
    simp at e
    subst e
    exact ⟨x, rfl, h1⟩
  | d0 :: ds, xs, i + 1, d, h, e => by
    obtain ⟨x, r, e1, h1, h2⟩ := h
    subst e1
    have e' : ds[i]? = some d := by simpa using e
    obtain ⟨y, ey, hy⟩ := Reps.get i h2 e'
    exact ⟨y, by simpa using ey, hy⟩
theorem Reps.getV {K : PySem.W.Frag} {F : Hp} : ∀ {ds : List D} {xs : List V} (i : Nat) {x : V}, Reps K F ds xs → xs[i]? = some x → ∃ d, ds[i]? = some d ∧ Rep K F d x
  | [], xs, i, x, h, e => by
    rw [show xs = [] from h] at e
    simp at e
  | d0 :: ds, xs, 0, x, h, e => by
    obtain ⟨x, r, e1, h1, h2⟩ := h
    subst e1
    simp at e
    subst e
    exact ⟨d0, rfl, h1⟩
  | d0 :: ds, xs, i + 1, x, h, e => by
    obtain ⟨x0, r, e1, h1, h2⟩ := h
    subst e1
    have e' : r[i]? = some x := by simpa using e
    obtain ⟨y, ey, hy⟩ := Reps.getV i h2 e'
    exact ⟨y, by simpa using ey, hy⟩
theorem Reps.append {K : PySem.W.Frag} {F : Hp} : ∀ {ds es : List D} {xs ys : List V}, Reps K F ds xs → Reps K F es ys → Reps K F (ds ++ es) (xs ++ ys)
  | [], es, xs, ys, h, h' => by
    rw [show xs = [] from h]
    exact h'
  | d :: ds, es, xs, ys, h, h' => by
    obtain ⟨x, r, e1, h1, h2⟩ := h
    subst e1
    exact ⟨x, r ++ ys, rfl, h1, Reps.append h2 h'⟩

mutual
def Own (K : PySem.W.Frag) (F H : Hp) : O → V → List Addr → Prop
  | .im d, v, fs => fs = [] ∧ Rep K F d v
  | .lst os, v, fs => ∃ a xs r, v = .ref a ∧ fs = a :: r ∧ H a = some (.lst xs) ∧ Owns K F H os xs r
  | .tup os, v, fs => ∃ a xs r, v = .ref a ∧ fs = a :: r ∧ H a = some (.tup xs) ∧ Owns K F H os xs r
  | .dct ks os, v, fs => ∃ a ho xs r, v = .ref a ∧ fs = a :: r ∧ H a = some ho ∧ DictAt ho ks xs ∧ Owns K F H os xs r
  | .ins C ns os, v, fs => ∃ a dx xs r, v = .ref a ∧ fs = a :: r ∧ H a = some (.ins C dx (ns.zip xs)) ∧ ns.length = xs.length ∧ Owns K F H os xs r
def Owns (K : PySem.W.Frag) (F H : Hp) : List O → List V → List Addr → Prop
  | [], xs, fs => xs = [] ∧ fs = []
  | o :: os, xs, fs => ∃ x r f1 f2, xs = x :: r ∧ fs = f1 ++ f2 ∧ Own K F H o x f1 ∧ Owns K F H os r f2
end
mutual
theorem Own.mono {K : PySem.W.Frag} {F F' H H' : Hp} (e : Ex F F') : ∀ (o : O) (v : V) (fs : List Addr), (∀ p ∈ fs, ∀ u, H p = some u → H' p = some u) → Own K F H o v fs → Own K F' H' o v fs
  | .im d, v, fs, k, h => ⟨h.1, Rep.mono e d v h.2⟩
  | .lst os, v, fs, k, h => by
    obtain ⟨a, xs, r, e1, e2, h1, h2⟩ := h
    subst e2
    exact ⟨a, xs, r, e1, rfl, k a List.mem_cons_self _ h1, Owns.mono e os xs r (fun p hp => k p (List.mem_cons_of_mem _ hp)) h2⟩
  | .tup os, v, fs, k, h => by
    obtain ⟨a, xs, r, e1, e2, h1, h2⟩ := h
    subst e2
    exact ⟨a, xs, r, e1, rfl, k a List.mem_cons_self _ h1, Owns.mono e os xs r (fun p hp => k p (List.mem_cons_of_mem _ hp)) h2⟩
  | .dct ks os, v, fs, k, h => by
    obtain ⟨a, ho, xs, r, e1, e2, h1, h0, h2⟩ := h
    subst e2
    exact ⟨a, ho, xs, r, e1, rfl, k a List.mem_cons_self _ h1, h0, Owns.mono e os xs r (fun p hp => k p (List.mem_cons_of_mem _ hp)) h2⟩
  | .ins C ns os, v, fs, k, h => by
    obtain ⟨a, dx, xs, r, e1, e2, h1, h0, h2⟩ := h
    subst e2
    exact ⟨a, dx, xs, r, e1, rfl, k a List.mem_cons_self _ h1, h0, Owns.mono e os xs r (fun p hp => k p (List.mem_cons_of_mem _ hp)) h2⟩
theorem Owns.mono {K : PySem.W.Frag} {F F' H H' : Hp} (e : Ex F F') : ∀ (os : List O) (xs : List V) (fs : List Addr), (∀ p ∈ fs, ∀ u, H p = some u → H' p = some u) → Owns K F H os xs fs → Owns K F' H' os xs fs
  | [], xs, fs, k, h => h
  | o :: os, xs, fs, k, h => by
    obtain ⟨x, r, f1, f2, e1, e2, h1, h2⟩ := h
    subst e2
    exact ⟨x, r, f1, f2, e1, rfl, Own.mono e o x f1 (fun p hp => k p (List.mem_append_left _ hp)) h1, Owns.mono e os r f2 (fun p hp => k p (List.mem_append_right _ hp)) h2⟩
end
mutual
/-- what is owned, frozen in a heap that has it -/
theorem Own.rep {K : PySem.W.Frag} {F H F' : Hp} (e : Ex F F') : ∀ (o : O) (v : V) (fs : List Addr), (∀ p ∈ fs, ∀ u, H p = some u → F' p = some u) → Own K F H o v fs → Rep K F' o.flat v
  | .im d, v, fs, k, h => Rep.mono e d v h.2
  | .lst os, v, fs, k, h => by
    obtain ⟨a, xs, r, e1, e2, h1, h2⟩ := h
    subst e2
    exact ⟨a, xs, e1, k a List.mem_cons_self _ h1, Owns.rep e os xs r (fun p hp => k p (List.mem_cons_of_mem _ hp)) h2⟩
  | .tup os, v, fs, k, h => by
    obtain ⟨a, xs, r, e1, e2, h1, h2⟩ := h
    subst e2
    exact ⟨a, xs, e1, k a List.mem_cons_self _ h1, Owns.rep e os xs r (fun p hp => k p (List.mem_cons_of_mem _ hp)) h2⟩
  | .dct ks os, v, fs, k, h => by
    obtain ⟨a, ho, xs, r, e1, e2, h1, h0, h2⟩ := h
    subst e2
    exact ⟨a, ho, xs, e1, k a List.mem_cons_self _ h1, h0, Owns.rep e os xs r (fun p hp => k p (List.mem_cons_of_mem _ hp)) h2⟩
  | .ins C ns os, v, fs, k, h => by
    obtain ⟨a, dx, xs, r, e1, e2, h1, h0, h2⟩ := h
    subst e2
    exact ⟨a, dx, xs, e1, k a List.mem_cons_self _ h1, h0, Owns.rep e os xs r (fun p hp => k p (List.mem_cons_of_mem _ hp)) h2⟩
theorem Owns.rep {K : PySem.W.Frag} {F H F' : Hp} (e : Ex F F') : ∀ (os : List O) (xs : List V) (fs : List Addr), (∀ p ∈ fs, ∀ u, H p = some u → F' p = some u) → Owns K F H os xs fs → Reps K F' (O.flats os) xs
  | [], xs, fs, k, h => h.1
  | o :: os, xs, fs, k, h => by
    obtain ⟨x, r, f1, f2, e1, e2, h1, h2⟩ := h
    subst e2
    exact ⟨x, r, e1, Own.rep e o x f1 (fun p hp => k p (List.mem_append_left _ hp)) h1, Owns.rep e os r f2 (fun p hp => k p (List.mem_append_right _ hp)) h2⟩
end
mutual
/-- what is owned stands in the heap -/
theorem Own.there {K : PySem.W.Frag} {F H : Hp} : ∀ (o : O) (v : V) (fs : List Addr), Own K F H o v fs → ∀ p ∈ fs, H p ≠ none
  | .im d, v, fs, h, p, hp => by
    rw [h.1] at hp
    cases hp
  | .lst os, v, fs, h, p, hp => by
    obtain ⟨a, xs, r, e1, e2, h1, h2⟩ := h
    subst e2
    rcases List.mem_cons.mp hp with e | hp
    · rw [e, h1]; simp
    · exact Owns.there os xs r h2 p hp
  | .tup os, v, fs, h, p, hp => by
    obtain ⟨a, xs, r, e1, e2, h1, h2⟩ := h
    subst e2
    rcases List.mem_cons.mp hp with e | hp
    · rw [e, h1]; simp
    · exact Owns.there os xs r h2 p hp
  | .dct ks os, v, fs, h, p, hp => by
    obtain ⟨a, ho, xs, r, e1, e2, h1, h0, h2⟩ := h
    subst e2
    rcases List.mem_cons.mp hp with e | hp
    · rw [e, h1]; simp
    · exact Owns.there os xs r h2 p hp
  | .ins C ns os, v, fs, h, p, hp => by
    obtain ⟨a, dx, xs, r, e1, e2, h1, h0, h2⟩ := h
    subst e2
    rcases List.mem_cons.mp hp with e | hp
    · rw [e, h1]; simp
    · exact Owns.there os xs r h2 p hp
theorem Owns.there {K : PySem.W.Frag} {F H : Hp} : ∀ (os : List O) (xs : List V) (fs : List Addr), Owns K F H os xs fs → ∀ p ∈ fs, H p ≠ none
  | [], xs, fs, h, p, hp => by
    rw [h.2] at hp
    cases hp
  | o :: os, xs, fs, h, p, hp => by
    obtain ⟨x, r, f1, f2, e1, e2, h1, h2⟩ := h
    subst e2
    rcases List.mem_append.mp hp with hp | hp
    · exact Own.there o x f1 h1 p hp
    · exact Owns.there os r f2 h2 p hp
end
theorem owns_im {K : PySem.W.Frag} {F H : Hp} : ∀ {ds : List D} {xs : List V}, Reps K F ds xs → Owns K F H (ds.map O.im) xs []
  | [], xs, h => ⟨h, rfl⟩
  | d :: ds, xs, h => by
    obtain ⟨x, r, e1, h1, h2⟩ := h
    exact ⟨x, r, [], [], e1, rfl, ⟨rfl, h1⟩, owns_im h2⟩
theorem of_owns_im {K : PySem.W.Frag} {F H : Hp} : ∀ {ds : List D} {xs : List V} {fs : List Addr}, Owns K F H (ds.map O.im) xs fs → Reps K F ds xs ∧ fs = []
  | [], xs, fs, h => h
  | d :: ds, xs, fs, h => by
    obtain ⟨x, r, f1, f2, e1, e2, h1, h2⟩ := h
    obtain ⟨h3, h4⟩ := of_owns_im h2
    refine ⟨⟨x, r, e1, h1.2, h3⟩, ?_⟩
    rw [e2, h1.1, h4]
    rfl
theorem Owns.append {K : PySem.W.Frag} {F H : Hp} : ∀ {os ps : List O} {xs ys : List V} {f g : List Addr}, Owns K F H os xs f → Owns K F H ps ys g → Owns K F H (os ++ ps) (xs ++ ys) (f ++ g)
  | [], ps, xs, ys, f, g, h, h' => by
    rw [h.1, h.2]
    exact h'
  | o :: os, ps, xs, ys, f, g, h, h' => by
    obtain ⟨x, r, f1, f2, e1, e2, h1, h2⟩ := h
    subst e1
    subst e2
    exact ⟨x, r ++ ys, f1, f2 ++ g, rfl, by rw [List.append_assoc], h1, Owns.append h2 h'⟩
theorem Owns.length {K : PySem.W.Frag} {F H : Hp} : ∀ {os : List O} {xs : List V} {f : List Addr}, Owns K F H os xs f → os.length = xs.length
  | [], xs, f, h => by rw [h.1]; rfl
  | o :: os, xs, f, h => by
    obtain ⟨x, r, f1, f2, e1, e2, h1, h2⟩ := h
    rw [e1, List.length_cons, List.length_cons, Owns.length h2]

/-! ### the state -/
abbrev Slot := Option (Bool × O)
abbrev Env := List Slot
def Held (K : PySem.W.Frag) (F H : Hp) : List (V × O) → List Addr → Prop
  | [], fs => fs = []
  | q :: r, fs => ∃ f1 f2, fs = f1 ++ f2 ∧ Own K F H q.2 q.1 f1 ∧ Held K F H r f2
def Slots : Env → L2.St → L2.St → List (V × O) → Prop
  | [], σ, _, hs => σ = [] ∧ hs = []
  | none :: e, σ, σ0, hs => ∃ x r, σ = x :: r ∧ Slots e r σ0.tail hs
  | some q :: e, σ, σ0, hs => ∃ v r hr, σ = some v :: r ∧ (q.1 = true → σ0.head? = some (some v)) ∧ hs = (v, q.2) :: hr ∧ Slots e r σ0.tail hr
structure Ctx where
  G : Hp
  F0 : Hp
  σ0 : L2.St
structure RE (K : PySem.W.Frag) (c : Ctx) (F H : Hp) (σ : L2.St) (e : Env) (ts : List (V × O)) : Prop where
  g : Ex c.G H
  f0 : Ex c.F0 F
  fh : Ex F H
  nw : ∀ p, F p ≠ none → c.F0 p ≠ none ∨ c.G p = none
  hd : ∃ hs fs, Slots e σ c.σ0 hs ∧ Held K F H (ts ++ hs) fs ∧ fs.Nodup ∧ ∀ p ∈ fs, F p = none ∧ c.G p = none

section
variable {K : PySem.W.Frag} {c : Ctx} {F F' H H' : Hp} {σ : L2.St} {e : Env} {ts : List (V × O)}
theorem Held.mono (ef : Ex F F') : ∀ {hs : List (V × O)} {fs : List Addr}, (∀ p ∈ fs, ∀ u, H p = some u → H' p = some u) → Held K F H hs fs → Held K F' H' hs fs
  | [], fs, k, h => h
  | q :: r, fs, k, h => by
    obtain ⟨f1, f2, e1, h1, h2⟩ := h
    subst e1
    exact ⟨f1, f2, rfl, Own.mono ef _ _ f1 (fun p hp => k p (List.mem_append_left _ hp)) h1, Held.mono ef (fun p hp => k p (List.mem_append_right _ hp)) h2⟩
theorem Held.there : ∀ {hs : List (V × O)} {fs : List Addr}, Held K F H hs fs → ∀ p ∈ fs, H p ≠ none
  | [], fs, h, p, hp => by
    rw [show fs = [] from h] at hp
    cases hp
  | q :: r, fs, h, p, hp => by
    obtain ⟨f1, f2, e1, h1, h2⟩ := h
    subst e1
    rcases List.mem_append.mp hp with hp | hp
    · exact Own.there _ _ f1 h1 p hp
    · exact Held.there h2 p hp
theorem Held.split : ∀ {A B : List (V × O)} {fs : List Addr}, Held K F H (A ++ B) fs → ∃ f1 f2, fs = f1 ++ f2 ∧ Held K F H A f1 ∧ Held K F H B f2
  | [], B, fs, h => ⟨[], fs, rfl, rfl, h⟩
  | q :: A, B, fs, h => by
    obtain ⟨f1, f2, e1, h1, h2⟩ := h
    obtain ⟨g1, g2, e2, h3, h4⟩ := Held.split h2
    exact ⟨f1 ++ g1, g2, by rw [e1, e2, List.append_assoc], ⟨f1, g1, rfl, h1, h3⟩, h4⟩
theorem Held.join : ∀ {A B : List (V × O)} {f1 f2 : List Addr}, Held K F H A f1 → Held K F H B f2 → Held K F H (A ++ B) (f1 ++ f2)
  | [], B, f1, f2, h, h' => by
    rw [show f1 = [] from h]
    exact h'
  | q :: A, B, f1, f2, h, h' => by
    obtain ⟨g1, g2, e1, h1, h2⟩ := h
    subst e1
    exact ⟨g1, g2 ++ f2, by rw [List.append_assoc], h1, Held.join h2 h'⟩
theorem Slots.len : ∀ {e : Env} {σ σ0 : L2.St} {hs : List (V × O)}, Slots e σ σ0 hs → σ.length = e.length
  | [], σ, σ0, hs, h => by rw [h.1]; rfl
  | none :: e, σ, σ0, hs, h => by
    obtain ⟨x, r, e1, h1⟩ := h
    rw [e1, List.length_cons, List.length_cons, Slots.len h1]
  | some q :: e, σ, σ0, hs, h => by
    obtain ⟨v, r, hr, e1, _, _, h1⟩ := h
    rw [e1, List.length_cons, List.length_cons, Slots.len h1]
/-- a slot that holds: its value; another holding there, with the same value -/
theorem Slots.at : ∀ {e : Env} {σ σ0 : L2.St} {hs : List (V × O)} (i : Nat) {b : Bool} {o : O}, Slots e σ σ0 hs → e[i]? = some (some (b, o)) →
    ∃ v A B, hs = A ++ (v, o) :: B ∧ σ[i]? = some (some v) ∧ (b = true → σ0[i]? = some (some v)) ∧ ∀ o', Slots (e.set i (some (b, o'))) σ σ0 (A ++ (v, o') :: B)
  | [], σ, σ0, hs, i, b, o, h, he => by simp at he
  | none :: e, σ, σ0, hs, 0, b, o, h, he => by simp at he
  | some q :: e, σ, σ0, hs, 0, b, o, h, he => by
    obtain ⟨v, r, hr, e1, hb, e2, h1⟩ := h
    have eq : q = (b, o) := by simpa using he
    subst eq
    subst e1
    refine ⟨v, [], hr, by rw [e2]; rfl, rfl, fun z => ?_, fun o' => ⟨v, r, hr, rfl, hb, rfl, h1⟩⟩
    have z' := hb z
    cases σ0 with
    | nil => simp at z'
    | cons y ys => simpa using z'
  | none :: e, σ, σ0, hs, i + 1, b, o, h, he => by
    obtain ⟨x, r, e1, h1⟩ := h
    subst e1
    obtain ⟨v, A, B, k1, k2, k3, k4⟩ := Slots.at i h1 (by simpa using he)
    refine ⟨v, A, B, k1, by simpa using k2, fun z => ?_, fun o' => ⟨x, r, rfl, k4 o'⟩⟩
    have z' := k3 z
    cases σ0 with
    | nil => simp at z'
    | cons y ys => simpa using z'
  | some q :: e, σ, σ0, hs, i + 1, b, o, h, he => by
    obtain ⟨v0, r, hr, e1, hb, e2, h1⟩ := h
    subst e1
    obtain ⟨v, A, B, k1, k2, k3, k4⟩ := Slots.at i h1 (by simpa using he)
    refine ⟨v, (v0, q.2) :: A, B, by rw [e2, k1]; rfl, by simpa using k2, fun z => ?_, fun o' => ⟨v0, r, _, rfl, hb, rfl, k4 o'⟩⟩
    have z' := k3 z
    cases σ0 with
    | nil => simp at z'
    | cons y ys => simpa using z'
/-- may be stored to: there, and not pinned -/
def Env.free (e : Env) (i : Nat) : Bool := match e[i]? with
  | some none => true
  | some (some (b, _)) => !b
  | none => false
theorem Slots.put : ∀ {e : Env} {σ σ0 : L2.St} {hs : List (V × O)} (i : Nat), Slots e σ σ0 hs → e.free i = true →
    ∃ A M B, hs = A ++ (M ++ B) ∧ (∀ v o, Slots (e.set i (some (false, o))) (σ.set i (some v)) σ0 (A ++ (v, o) :: B)) ∧ ∀ x, Slots (e.set i none) (σ.set i x) σ0 (A ++ B)
  | [], σ, σ0, hs, i, h, he => by simp [Env.free] at he
  | none :: e, σ, σ0, hs, 0, h, he => by
    obtain ⟨x, r, e1, h1⟩ := h
    subst e1
    exact ⟨[], [], hs, rfl, fun v o => ⟨v, r, hs, rfl, (fun z => by cases z), rfl, h1⟩, fun x => ⟨x, r, rfl, h1⟩⟩
  | some q :: e, σ, σ0, hs, 0, h, he => by
    obtain ⟨v0, r, hr, e1, hb, e2, h1⟩ := h
    subst e1
    exact ⟨[], [(v0, q.2)], hr, by rw [e2]; rfl, fun v o => ⟨v, r, hr, rfl, (fun z => by cases z), rfl, h1⟩, fun x => ⟨x, r, rfl, h1⟩⟩
  | none :: e, σ, σ0, hs, i + 1, h, he => by
    obtain ⟨x, r, e1, h1⟩ := h
    subst e1
    obtain ⟨A, M, B, k1, k2, k3⟩ := Slots.put i h1 (by simpa [Env.free] using he)
    exact ⟨A, M, B, k1, fun v o => ⟨x, _, rfl, k2 v o⟩, fun y => ⟨x, _, rfl, k3 y⟩⟩
  | some q :: e, σ, σ0, hs, i + 1, h, he => by
    obtain ⟨v0, r, hr, e1, hb, e2, h1⟩ := h
    subst e1
    obtain ⟨A, M, B, k1, k2, k3⟩ := Slots.put i h1 (by simpa [Env.free] using he)
    exact ⟨(v0, q.2) :: A, M, B, by rw [e2, k1]; rfl, fun v o => ⟨v0, _, _, rfl, hb, rfl, k2 v o⟩, fun y => ⟨v0, _, _, rfl, hb, rfl, k3 y⟩⟩

/-- new frozen things are new in the heap -/
def Fresh (F H F' : Hp) : Prop := ∀ p, F' p ≠ none → F p ≠ none ∨ H p = none
theorem Fresh.refl : Fresh F H F := fun _ h => .inl h
theorem none_of_ex {A B : Hp} (e : Ex A B) {p : Addr} (h : B p = none) : A p = none := fresh_back e h
theorem RE.grow (R : RE K c F H σ e ts) (ef : Ex F F') (eh : Ex H H') (fh : Ex F' H') (fr : Fresh F H F') : RE K c F' H' σ e ts := by
  obtain ⟨hs, fs, h1, h2, h3, h4⟩ := R.hd
  refine ⟨R.g.trans eh, R.f0.trans ef, fh, fun p hp => ?_, hs, fs, h1, Held.mono ef (fun p _ u z => eh p u z) h2, h3, fun p hp => ⟨?_, (h4 p hp).2⟩⟩
  · rcases fr p hp with z | z
    · exact R.nw p z
    · exact .inr (none_of_ex R.g z)
  · cases q : F' p with
    | none => rfl
    | some u =>
      rcases fr p (by rw [q]; simp) with z | z
      · exact absurd (h4 p hp).1 z
      · exact absurd z (Held.there h2 p hp)
/-- the heap alone grows -/
theorem RE.ex (R : RE K c F H σ e ts) (eh : Ex H H') : RE K c F H' σ e ts := R.grow (Ex.refl _) eh (R.fh.trans eh) Fresh.refl
/-- a new object, frozen at once -/
theorem RE.newF {p : Addr} {o : HO} (R : RE K c F H σ e ts) (hp : H p = none) : RE K c (upd F p o) (upd H p o) σ e ts := by
  refine R.grow (Ex.new (none_of_ex R.fh hp)) (Ex.new hp) (fun a u z => ?_) (fun a z => ?_)
  · by_cases q : a = p
    · subst q
      rw [upd_same] at z ⊢
      exact z
    · rw [upd_ne q] at z ⊢
      exact R.fh a u z
  · by_cases q : a = p
    · subst q
      exact .inr hp
    · rw [upd_ne q] at z
      exact .inl z
/-- a temporary is dropped -/
theorem RE.drop {t : V × O} (R : RE K c F H σ e (t :: ts)) : RE K c F H σ e ts := by
  obtain ⟨hs, fs, h1, h2, h3, h4⟩ := R.hd
  obtain ⟨f1, f2, e1, _, h5⟩ := h2
  subst e1
  exact ⟨R.g, R.f0, R.fh, R.nw, hs, f2, h1, h5, (List.nodup_append.mp h3).2.1, fun p hp => h4 p (List.mem_append_right _ hp)⟩
/-- a new object, owned -/
theorem RE.newO {p : Addr} {u : HO} {o : O} (R : RE K c F H σ e ts) (hp : H p = none) (ho : Own K F (upd H p u) o (.ref p) [p]) : RE K c F (upd H p u) σ e ((.ref p, o) :: ts) := by
  have R' := R.ex (Ex.new (o := u) hp)
  obtain ⟨hs, fs, h1, h2, h3, h4⟩ := R'.hd
  obtain ⟨hs0, fs0, h10, h20, h30, h40⟩ := R.hd
  refine ⟨R'.g, R'.f0, R'.fh, R'.nw, hs0, p :: fs0, h10, ⟨[p], fs0, rfl, ho, Held.mono (Ex.refl _) (fun q _ w z => Ex.new hp q w z) h20⟩, List.nodup_cons.mpr ⟨fun z => Held.there h20 p z hp, h30⟩, fun q hq => ?_⟩
  rcases List.mem_cons.mp hq with z | z
  · rw [z]
    exact ⟨none_of_ex R.fh hp, none_of_ex R.g hp⟩
  · exact h40 q z
/-- what a holding is, read -/
theorem RE.slot {i : Nat} {b : Bool} {o : O} (R : RE K c F H σ e ts) (h : e[i]? = some (some (b, o))) : ∃ v fs, σ[i]? = some (some v) ∧ Own K F H o v fs := by
  obtain ⟨hs, fs, h1, h2, h3, h4⟩ := R.hd
  obtain ⟨v, A, B, k1, k2, _, _⟩ := h1.at i h
  subst k1
  rw [← List.append_assoc] at h2
  obtain ⟨f1, f2, _, _, h5⟩ := h2.split
  obtain ⟨g1, g2, _, h6, _⟩ := h5
  exact ⟨v, g1, k2, h6⟩
theorem RE.slotIm {i : Nat} {b : Bool} {d : D} (R : RE K c F H σ e ts) (h : e[i]? = some (some (b, .im d))) : ∃ v, σ[i]? = some (some v) ∧ Rep K F d v := by
  obtain ⟨v, fs, h1, h2⟩ := R.slot h
  exact ⟨v, h1, h2.2⟩
theorem RE.temp {v : V} {o : O} (R : RE K c F H σ e ((v, o) :: ts)) : ∃ fs, Own K F H o v fs := by
  obtain ⟨hs, fs, h1, h2, h3, h4⟩ := R.hd
  obtain ⟨f1, f2, e1, h5, _⟩ := h2
  exact ⟨f1, h5⟩
/-- what is held may be frozen where all of it stands in the heap -/
theorem Own.view {o : O} {v : V} {fs : List Addr} (h : Own K F H o v fs) (e : Ex F H) : Rep K H o.flat v := Own.rep e o v fs (fun _ _ _ z => z) h
/-- store a frozen value -/
theorem RE.setIm {i : Nat} {v : V} {d : D} (R : RE K c F H σ e ts) (hi : e.free i = true) (h : Rep K F d v) : RE K c F H (σ.set i (some v)) (e.set i (some (false, .im d))) ts := by
  obtain ⟨hs, fs, h1, h2, h3, h4⟩ := R.hd
  obtain ⟨A, M, B, k1, k2, _⟩ := h1.put i hi
  subst k1
  rw [← List.append_assoc] at h2
  obtain ⟨f1, f2, e1, h5, h6⟩ := h2.split
  obtain ⟨g1, g2, e2, h7, h8⟩ := h6.split
  subst e2
  subst e1
  refine ⟨R.g, R.f0, R.fh, R.nw, _, f1 ++ g2, k2 v (.im d), ?_, ?_, fun p hp => h4 p ?_⟩
  · rw [← List.append_assoc]
    exact Held.join h5 ⟨[], g2, rfl, ⟨rfl, h⟩, h8⟩
  · refine List.Nodup.sublist ?_ h3
    exact List.Sublist.append_left (List.sublist_append_right g1 g2) f1
  · rcases List.mem_append.mp hp with z | z
    · exact List.mem_append_left _ z
    · exact List.mem_append_right _ (List.mem_append_right _ z)
/-- store a temporary -/
theorem RE.setO {i : Nat} {v : V} {o : O} (R : RE K c F H σ e ((v, o) :: ts)) (hi : e.free i = true) : RE K c F H (σ.set i (some v)) (e.set i (some (false, o))) ts := by
  obtain ⟨hs, fs, h1, h2, h3, h4⟩ := R.hd
  obtain ⟨A, M, B, k1, k2, _⟩ := h1.put i hi
  subst k1
  obtain ⟨f0, fr, e0, h0, hr⟩ := h2
  rw [show ts.append (A ++ (M ++ B)) = ts ++ (A ++ (M ++ B)) from rfl, ← List.append_assoc] at hr
  obtain ⟨f1, f2, e1, h5, h6⟩ := hr.split
  obtain ⟨g1, g2, e2, h7, h8⟩ := h6.split
  subst e2
  subst e1
  subst e0
  refine ⟨R.g, R.f0, R.fh, R.nw, _, f1 ++ (f0 ++ g2), k2 v o, ?_, ?_, fun p hp => h4 p ?_⟩
  · rw [← List.append_assoc]
    exact Held.join h5 ⟨f0, g2, rfl, h0, h8⟩
  · have hp : (f1 ++ (f0 ++ g2)).Perm (f0 ++ (f1 ++ g2)) := by
      rw [← List.append_assoc, ← List.append_assoc]
      exact List.Perm.append_right g2 List.perm_append_comm
    refine hp.nodup_iff.mpr (List.Nodup.sublist ?_ h3)
    exact List.Sublist.append_left (List.Sublist.append_left (List.sublist_append_right g1 g2) f1) f0
  · rcases List.mem_append.mp hp with z | z
    · exact List.mem_append_right _ (List.mem_append_left _ z)
    · rcases List.mem_append.mp z with z | z
      · exact List.mem_append_left _ z
      · exact List.mem_append_right _ (List.mem_append_right _ (List.mem_append_right _ z))
end
end DL

/-! DLB: freezing, changing; denotations; the judgements. -/
namespace DL
open PySem PySem.Spec PyProof.Rows L2 Evl
section
variable {K : PySem.W.Frag} {c : Ctx} {F F' H H' : Hp} {σ : L2.St} {e : Env} {ts : List (V × O)}
/-- F and what of H stands at fs -/
def addF (F H : Hp) (fs : List Addr) : Hp := fun p => if p ∈ fs then H p else F p
theorem addF_in {fs : List Addr} {p : Addr} (h : p ∈ fs) : addF F H fs p = H p := if_pos h
theorem addF_out {fs : List Addr} {p : Addr} (h : ¬ p ∈ fs) : addF F H fs p = F p := if_neg h
theorem ex_addF {fs : List Addr} (h : ∀ p ∈ fs, F p = none) : Ex F (addF F H fs) := fun p u z => by
  by_cases q : p ∈ fs
  · rw [h p q] at z
    cases z
  · rw [addF_out q]
    exact z
theorem addF_ex {fs : List Addr} (h : Ex F H) : Ex (addF F H fs) H := fun p u z => by
  by_cases q : p ∈ fs
  · rw [addF_in q] at z
    exact z
  · rw [addF_out q] at z
    exact h p u z
theorem nodup_mid {α : Type} {a b c : List α} (h : (a ++ (b ++ c)).Nodup) : (∀ x ∈ b, x ∉ a ∧ x ∉ c) ∧ (a ++ c).Nodup := by
  obtain ⟨h1, h2, h3⟩ := List.nodup_append.mp h
  obtain ⟨h4, h5, h6⟩ := List.nodup_append.mp h2
  refine ⟨fun x hx => ⟨fun z => h3 x z x (List.mem_append_left _ hx) rfl, fun z => h6 x hx x z rfl⟩, List.nodup_append.mpr ⟨h1, h5, fun x hx y hy => h3 x hx y (List.mem_append_right _ hy)⟩⟩
/-- a holding in the middle is changed -/
theorem Held.change {A B : List (V × O)} {v : V} {o : O} {fs : List Addr} (h : Held K F H (A ++ (v, o) :: B) fs) (nd : fs.Nodup) (fr : ∀ p ∈ fs, F p = none ∧ c.G p = none) :
    ∃ f1 f0 f2, fs = f1 ++ (f0 ++ f2) ∧ Own K F H o v f0 ∧ ∀ (F' H' : Hp) (o' : O) (f0' : List Addr), Ex F F' → (∀ q u, q ∉ f0 → H q = some u → H' q = some u) → Own K F' H' o' v f0' → f0'.Nodup →
      (∀ q ∈ f0', (q ∈ f0 ∨ H q = none) ∧ F' q = none ∧ c.G q = none) → (∀ p, F' p ≠ none → F p ≠ none ∨ H p = none ∨ p ∈ f0) →
      Held K F' H' (A ++ (v, o') :: B) (f1 ++ (f0' ++ f2)) ∧ (f1 ++ (f0' ++ f2)).Nodup ∧ ∀ p ∈ f1 ++ (f0' ++ f2), F' p = none ∧ c.G p = none := by
  obtain ⟨f1, f3, e1, h1, h3⟩ := h.split
  obtain ⟨f0, f2, e2, h0, h2⟩ := h3
  subst e2
  subst e1
  refine ⟨f1, f0, f2, rfl, h0, fun F' H' o' f0' ef keep ho nd' hq fw => ?_⟩
  obtain ⟨dj, nd2⟩ := nodup_mid nd
  have out : ∀ p, p ∈ f1 ∨ p ∈ f2 → p ∉ f0 := fun p hp z => by
    rcases hp with hp | hp
    · exact (dj p z).1 hp
    · exact (dj p z).2 hp
  have th : ∀ p, p ∈ f1 ∨ p ∈ f2 → H p ≠ none := fun p hp => by
    rcases hp with hp | hp
    · exact Held.there h1 p hp
    · exact Held.there h2 p hp
  have ff : ∀ p, p ∈ f1 ∨ p ∈ f2 → F' p = none ∧ c.G p = none := fun p hp => by
    have hm : p ∈ f1 ++ (f0 ++ f2) := by
      rcases hp with hp | hp
      · exact List.mem_append_left _ hp
      · exact List.mem_append_right _ (List.mem_append_right _ hp)
    refine ⟨?_, (fr p hm).2⟩
    cases q : F' p with
    | none => rfl
    | some u =>
      rcases fw p (by rw [q]; simp) with z | z | z
      · exact absurd (fr p hm).1 z
      · exact absurd z (th p hp)
      · exact absurd z (out p hp)
  refine ⟨Held.join (Held.mono ef (fun p hp u z => keep p u (out p (.inl hp)) z) h1) ⟨f0', f2, rfl, ho, Held.mono ef (fun p hp u z => keep p u (out p (.inr hp)) z) h2⟩, ?_, fun p hp => ?_⟩
  · obtain ⟨n1, n2, n3⟩ := List.nodup_append.mp nd2
    refine List.nodup_append.mpr ⟨n1, List.nodup_append.mpr ⟨nd', n2, fun x hx y hy z => ?_⟩, fun x hx y hy z => ?_⟩
    · subst z
      rcases (hq x hx).1 with w | w
      · exact (dj x w).2 hy
      · exact th x (.inr hy) w
    · subst z
      rcases List.mem_append.mp hy with hy | hy
      · rcases (hq x hy).1 with w | w
        · exact (dj x w).1 hx
        · exact th x (.inl hx) w
      · exact n3 x hx x hy rfl
  · rcases List.mem_append.mp hp with hp | hp
    · exact ff p (.inl hp)
    · rcases List.mem_append.mp hp with hp | hp
      · exact (hq p hp).2
      · exact ff p (.inr hp)
/-- the facts behind a change of what stands at f0 -/
structure Chg (c : Ctx) (F F' H H' : Hp) (f0 : List Addr) : Prop where
  ef : Ex F F'
  fh : Ex F' H'
  keep : ∀ q u, q ∉ f0 → H q = some u → H' q = some u
  nw : ∀ p, F' p ≠ none → F p ≠ none ∨ H p = none ∨ p ∈ f0
theorem RE.chg (R : RE K c F H σ e ts) {f0 : List Addr} (fr : ∀ p ∈ f0, c.G p = none) (C : Chg c F F' H H' f0) : Ex c.G H' ∧ Ex c.F0 F' ∧ Ex F' H' ∧ ∀ p, F' p ≠ none → c.F0 p ≠ none ∨ c.G p = none := by
  refine ⟨fun p u z => C.keep p u (fun hp => ?_) (R.g p u z), R.f0.trans C.ef, C.fh, fun p hp => ?_⟩
  · rw [fr p hp] at z
    cases z
  · rcases C.nw p hp with z | z | z
    · exact R.nw p z
    · exact .inr (none_of_ex R.g z)
    · exact .inr (fr p z)
theorem RE.mutSlot {i : Nat} {b : Bool} {o : O} (R : RE K c F H σ e ts) (h : e[i]? = some (some (b, o))) :
    ∃ v f0, σ[i]? = some (some v) ∧ Own K F H o v f0 ∧ f0.Nodup ∧ (∀ p ∈ f0, F p = none ∧ c.G p = none) ∧ ∀ (F' H' : Hp) (o' : O) (f0' : List Addr), Chg c F F' H H' f0 → Own K F' H' o' v f0' → f0'.Nodup →
      (∀ q ∈ f0', (q ∈ f0 ∨ H q = none) ∧ F' q = none ∧ c.G q = none) → RE K c F' H' σ (e.set i (some (b, o'))) ts := by
  obtain ⟨hs, fs, h1, h2, h3, h4⟩ := R.hd
  obtain ⟨v, A, B, k1, k2, k3, k4⟩ := h1.at i h
  subst k1
  rw [← List.append_assoc] at h2
  obtain ⟨f1, f0, f2, e1, ho, hc⟩ := Held.change (c := c) h2 h3 h4
  have g0 : ∀ p ∈ f0, F p = none ∧ c.G p = none := fun p hp => h4 p (by rw [e1]; exact List.mem_append_right _ (List.mem_append_left _ hp))
  have n0 : f0.Nodup := by
    rw [e1] at h3
    exact (List.nodup_append.mp (List.nodup_append.mp h3).2.1).1
  refine ⟨v, f0, k2, ho, n0, g0, fun F' H' o' f0' C hw nd' hq => ?_⟩
  obtain ⟨r1, r2, r3, r4⟩ := R.chg (fun p hp => (g0 p hp).2) C
  obtain ⟨q1, q2, q3⟩ := hc F' H' o' f0' C.ef C.keep hw nd' hq C.nw
  rw [List.append_assoc] at q1
  exact ⟨r1, r2, r3, r4, _, _, k4 o', q1, q2, q3⟩
theorem RE.mutTemp {v : V} {o : O} (R : RE K c F H σ e ((v, o) :: ts)) :
    ∃ f0, Own K F H o v f0 ∧ f0.Nodup ∧ (∀ p ∈ f0, F p = none ∧ c.G p = none) ∧ ∀ (F' H' : Hp) (o' : O) (f0' : List Addr), Chg c F F' H H' f0 → Own K F' H' o' v f0' → f0'.Nodup →
      (∀ q ∈ f0', (q ∈ f0 ∨ H q = none) ∧ F' q = none ∧ c.G q = none) → RE K c F' H' σ e ((v, o') :: ts) := by
  obtain ⟨hs, fs, h1, h2, h3, h4⟩ := R.hd
  obtain ⟨f1, f0, f2, e1, ho, hc⟩ := Held.change (c := c) (A := []) (B := ts ++ hs) h2 h3 h4
  have g0 : ∀ p ∈ f0, F p = none ∧ c.G p = none := fun p hp => h4 p (by rw [e1]; exact List.mem_append_right _ (List.mem_append_left _ hp))
  have n0 : f0.Nodup := by
    rw [e1] at h3
    exact (List.nodup_append.mp (List.nodup_append.mp h3).2.1).1
  refine ⟨f0, ho, n0, g0, fun F' H' o' f0' C hw nd' hq => ?_⟩
  obtain ⟨r1, r2, r3, r4⟩ := R.chg (fun p hp => (g0 p hp).2) C
  obtain ⟨q1, q2, q3⟩ := hc F' H' o' f0' C.ef C.keep hw nd' hq C.nw
  exact ⟨r1, r2, r3, r4, _, _, h1, q1, q2, q3⟩
/-- a temporary, frozen -/
theorem RE.freezeT {v : V} {o : O} (R : RE K c F H σ e ((v, o) :: ts)) : ∃ F', Ex F F' ∧ RE K c F' H σ e ts ∧ Rep K F' o.flat v := by
  obtain ⟨f0, ho, n0, g0, hc⟩ := R.mutTemp
  have hr : Rep K (addF F H f0) o.flat v := Own.rep (ex_addF fun p hp => (g0 p hp).1) o v f0 (fun p hp u z => by rw [addF_in hp]; exact z) ho
  refine ⟨addF F H f0, ex_addF fun p hp => (g0 p hp).1, ?_, hr⟩
  exact (hc (addF F H f0) H (.im o.flat) [] ⟨ex_addF fun p hp => (g0 p hp).1, addF_ex R.fh, fun _ _ _ z => z, fun p hp => by
    by_cases q : p ∈ f0
    · exact .inr (.inr q)
    · rw [addF_out q] at hp
      exact .inl hp⟩ ⟨rfl, hr⟩ List.nodup_nil (fun q hq => nomatch hq)).drop
/-- a slot, frozen -/
theorem RE.freezeS {i : Nat} {b : Bool} {o : O} (R : RE K c F H σ e ts) (h : e[i]? = some (some (b, o))) : ∃ F' v, Ex F F' ∧ σ[i]? = some (some v) ∧ RE K c F' H σ (e.set i (some (b, .im o.flat))) ts ∧ Rep K F' o.flat v := by
  obtain ⟨v, f0, hv, ho, n0, g0, hc⟩ := R.mutSlot h
  have hr : Rep K (addF F H f0) o.flat v := Own.rep (ex_addF fun p hp => (g0 p hp).1) o v f0 (fun p hp u z => by rw [addF_in hp]; exact z) ho
  refine ⟨addF F H f0, v, ex_addF fun p hp => (g0 p hp).1, hv, ?_, hr⟩
  exact hc (addF F H f0) H (.im o.flat) [] ⟨ex_addF fun p hp => (g0 p hp).1, addF_ex R.fh, fun _ _ _ z => z, fun p hp => by
    by_cases q : p ∈ f0
    · exact .inr (.inr q)
    · rw [addF_out q] at hp
      exact .inl hp⟩ ⟨rfl, hr⟩ List.nodup_nil (fun q hq => nomatch hq)
end

/-! ### denotations -/
/-- an exception: its class, its fields -/
structure Xn where
  cls : Addr
  fs : List (Str × D)
inductive Res (α : Type) where
  | ok (m : Bool) (e : Env) (a : α)
  | err (m : Bool) (e : Env) (x : Xn)
abbrev Den (α : Type) := Env → Option (Res α)
inductive Rv where
  | im (d : D) | new (o : O) | bor (i : Nat) (o : O)
inductive SRes where
  | nx (m : Bool) (e : Env) | rt (m : Bool) (e : Env) (r : Rv) | bk (m : Bool) (e : Env) | ct (m : Bool) (e : Env) | er (m : Bool) (e : Env) (x : Xn)
abbrev SDen := Env → Option SRes
def dpure {α : Type} (a : α) : Den α := fun e => some (.ok false e a)
def dlift {α : Type} (a : Option α) : Den α := fun e => match a with
  | some a => some (.ok false e a)
  | none => none
def Res.more {α β : Type} (m : Bool) : Option (Res β) → Option (Res β)
  | some (.ok m' e b) => some (.ok (m || m') e b)
  | some (.err m' e x) => some (.err (m || m') e x)
  | none => none
def dbind {α β : Type} (d : Den α) (f : α → Den β) : Den β := fun e => match d e with
  | some (.ok m e a) => Res.more (β := β) (α := α) m (f a e)
  | some (.err m e x) => some (.err m e x)
  | none => none
def XRel (K : PySem.W.Frag) (F H : Hp) (x : Xn) (cls : Value) (d : Option Addr) : Prop :=
  cls = .ref x.cls ∧ match d with
    | none => x.fs = []
    | some a => ∃ vs : List V, H a = some (.xd ((x.fs.map (·.1)).zip vs)) ∧ Reps K F (x.fs.map (·.2)) vs

/-! ### judgements -/
abbrev Rel (α β : Type) := PySem.W.Frag → Ctx → Hp → Hp → L2.St → Env → List (V × O) → α → β → Prop
def relI : Rel D V := fun K c F H σ e ts d v => RE K c F H σ e ts ∧ Rep K F d v
def relV : Rel D V := fun K c F H σ e ts d v => RE K c F H σ e ts ∧ Rep K H d v
def relR : Rel Rv V := fun K c F H σ e ts r v => match r with
  | .im d => RE K c F H σ e ts ∧ Rep K F d v
  | .new o => RE K c F H σ e ((v, o) :: ts)
  | .bor i o => RE K c F H σ e ts ∧ σ[i]? = some (some v) ∧ ∃ b, e[i]? = some (some (b, o))
def relB : Rel Bool Bool := fun K c F H σ e ts d v => RE K c F H σ e ts ∧ d = v
def relA : Rel (List D) (List V) := fun K c F H σ e ts d v => RE K c F H σ e ts ∧ Reps K F d v
/-- from here on: what is known of how it ends -/
def At {α β : Type} (rel : Rel α β) (K : PySem.W.Frag) (W : WX) (den : Den α) (c : Ctx) (F : Hp) (σ : L2.St) (e : Env) (ts : List (V × O)) (H : Hp) (Q : β → Hp → Prop) : Prop :=
  ∃ r, den e = some r ∧ match r with
    | .ok m e' a => ∀ F' H' v, Ex F F' → (m = false → Ex H H') → rel K c F' H' σ e' ts a v → Q v H'
    | .err m e' x => ∀ F' H' cls d, Ex F F' → (m = false → Ex H H') → RE K c F' H' σ e' ts → XRel K F' H' x cls d → W cls d σ H'
def rd {α β : Type} (rel : Rel α β) (K : PySem.W.Frag) (W : WX) (den : Den α) : L2.St → Hp → (β → Hp → Prop) → Prop :=
  fun σ H Q => ∃ c F e ts, RE K c F H σ e ts ∧ At rel K W den c F σ e ts H Q
theorem At.bind {α β γ δ : Type} {rel : Rel α β} {rel2 : Rel γ δ} {K : PySem.W.Frag} {W : WX} {den : Den α} {f : α → Den γ} {c : Ctx} {F H : Hp} {σ : L2.St} {e : Env} {ts : List (V × O)} {Q : δ → Hp → Prop} {Q' : β → Hp → Prop}
    (h : At rel2 K W (dbind den f) c F σ e ts H Q) (k : ∀ F1 H1 e1 a v, Ex F F1 → rel K c F1 H1 σ e1 ts a v → At rel2 K W (f a) c F1 σ e1 ts H1 Q → Q' v H1) : At rel K W den c F σ e ts H Q' := by
  obtain ⟨r, hr, post⟩ := h
  unfold dbind at hr
  cases hd : den e with
  | none =>
    rw [hd] at hr
    cases hr
  | some r1 =>
    rw [hd] at hr
    cases r1 with
    | err m e1 x =>
      cases hr
      exact ⟨_, hd, post⟩
    | ok m e1 a =>
      refine ⟨_, hd, fun F1 H1 v ef eh hrel => k F1 H1 e1 a v ef hrel ?_⟩
      dsimp only at hr
      cases hf : f a e1 with
      | none =>
        rw [hf] at hr
        cases hr
      | some r2 =>
        rw [hf] at hr
        refine ⟨r2, hf, ?_⟩
        cases r2 with
        | err m2 e2 x =>
          cases hr
          exact fun F' H' cls d ef' eh' R hx => post F' H' cls d (ef.trans ef') (fun z => by
            have z1 : m = false := by cases m <;> first | rfl | cases z
            have z2 : m2 = false := by cases m2 <;> first | rfl | (cases m <;> cases z)
            exact (eh z1).trans (eh' z2)) R hx
        | ok m2 e2 b =>
          cases hr
          exact fun F' H' w ef' eh' hrel' => post F' H' w (ef.trans ef') (fun z => by
            have z1 : m = false := by cases m <;> first | rfl | cases z
            have z2 : m2 = false := by cases m2 <;> first | rfl | (cases m <;> cases z)
            exact (eh z1).trans (eh' z2)) hrel'
theorem At.lift {α β : Type} {rel : Rel α β} {K : PySem.W.Frag} {W : WX} {a : Option α} {c : Ctx} {F H : Hp} {σ : L2.St} {e : Env} {ts : List (V × O)} {Q : β → Hp → Prop}
    (h : At rel K W (dlift a) c F σ e ts H Q) : ∃ x, a = some x ∧ ∀ F' H' v, Ex F F' → Ex H H' → rel K c F' H' σ e ts x v → Q v H' := by
  obtain ⟨r, hr, post⟩ := h
  cases a with
  | none => cases hr
  | some x =>
    cases hr
    exact ⟨x, rfl, fun F' H' v ef eh hrel => post F' H' v ef (fun _ => eh) hrel⟩
theorem At.pure {α β : Type} {rel : Rel α β} {K : PySem.W.Frag} {W : WX} {a : α} {c : Ctx} {F H : Hp} {σ : L2.St} {e : Env} {ts : List (V × O)} {Q : β → Hp → Prop}
    (h : At rel K W (dpure a) c F σ e ts H Q) : ∀ F' H' v, Ex F F' → Ex H H' → rel K c F' H' σ e ts a v → Q v H' := by
  obtain ⟨r, hr, post⟩ := h
  cases hr
  exact fun F' H' v ef eh hrel => post F' H' v ef (fun _ => eh) hrel

structure DE (X : Cx) (W : WX) (ex : Expr) (den : Den Rv) : Prop where
  run : PE X ex (rd relR X.K W den)
structure DI (X : Cx) (W : WX) (ex : Expr) (den : Den D) : Prop where
  run : PE X ex (rd relI X.K W den)
structure DV (X : Cx) (W : WX) (ex : Expr) (den : Den D) : Prop where
  run : PE X ex (rd relV X.K W den)
structure DT (X : Cx) (W : WX) (ex : Expr) (den : Den Bool) : Prop where
  run : PT X ex (rd relB X.K W den)
structure DA (X : Cx) (W : WX) (es : List Expr) (den : Den (List D)) : Prop where
  run : PA X es (rd relA X.K W den)

section
variable {X : Cx} {W : WX} {ex a b : Expr} {pos : Pos}
theorem pe_weak {t t' : TE} (h : PE X ex t) (k : ∀ σ H Q, t' σ H Q → t σ H Q) : PE X ex t' := ⟨fun pins s σ H Q I q => h.run pins s σ H Q I (k σ H Q q)⟩
theorem pt_weak {t t' : TT} (h : PT X ex t) (k : ∀ σ H Q, t' σ H Q → t σ H Q) : PT X ex t' := ⟨fun pins s σ H Q I q => h.run pins s σ H Q I (k σ H Q q)⟩
theorem pa_weak {es : List Expr} {t t' : TA} (h : PA X es t) (k : ∀ σ H Q, t' σ H Q → t σ H Q) : PA X es t' := ⟨fun pos pins s σ H Q I q => h.run pos pins s σ H Q I (k σ H Q q)⟩
theorem ps_weak {st : Stmt} {t t' : TS} (h : PS X st t) (k : ∀ D σ H, t' D σ H → t D σ H) : PS X st t' := ⟨fun pins s σ H D I q => h.run pins s σ H D I (k D σ H q)⟩
theorem pss_weak {st : List Stmt} {t t' : TS} (h : PSs X st t) (k : ∀ D σ H, t' D σ H → t D σ H) : PSs X st t' := ⟨fun pins s σ H D I q => h.run pins s σ H D I (k D σ H q)⟩
/-- frozen -/
def frz (d : Den Rv) : Den D := dbind d fun r e => match r with
  | .im d => some (.ok false e d)
  | .new o => some (.ok false e o.flat)
  | .bor i o => match e[i]? with
    | some (some (b, _)) => some (.ok false (e.set i (some (b, .im o.flat))) o.flat)
    | _ => none
/-- seen, not kept -/
def vw (d : Den Rv) : Den D := dbind d fun r => match r with
  | .im d => dpure d
  | .new o => dpure o.flat
  | .bor _ o => dpure o.flat
theorem DE.i {den : Den Rv} (h : DE X W ex den) : DI X W ex (frz den) := ⟨pe_weak h.run fun σ H Q q => by
  obtain ⟨c, F, e, ts, R, q⟩ := q
  refine ⟨c, F, e, ts, R, q.bind fun F1 H1 e1 a v ef hrel q2 => ?_⟩
  cases a with
  | im d => exact At.pure (a := d) q2 F1 H1 v (Ex.refl _) (Ex.refl _) hrel
  | new o =>
    obtain ⟨F3, e3, R3, h3⟩ := RE.freezeT hrel
    exact At.pure (a := o.flat) q2 F3 H1 v e3 (Ex.refl _) ⟨R3, h3⟩
  | bor i o =>
    obtain ⟨R2, hv, b, hb⟩ := hrel
    obtain ⟨F3, v3, e3, hv3, R3, h3⟩ := R2.freezeS hb
    rw [hv] at hv3
    cases hv3
    obtain ⟨r, hr3, post⟩ := q2
    dsimp only at hr3
    rw [hb] at hr3
    cases hr3
    exact post F3 H1 v e3 (fun _ => Ex.refl _) ⟨R3, h3⟩⟩
theorem DE.v {den : Den Rv} (h : DE X W ex den) : DV X W ex (vw den) := ⟨pe_weak h.run fun σ H Q q => by
  obtain ⟨c, F, e, ts, R, q⟩ := q
  refine ⟨c, F, e, ts, R, q.bind fun F1 H1 e1 a v ef hrel q2 => ?_⟩
  cases a with
  | im d => exact At.pure (a := d) q2 F1 H1 v (Ex.refl _) (Ex.refl _) ⟨hrel.1, Rep.mono hrel.1.fh _ _ hrel.2⟩
  | new o =>
    obtain ⟨fs, ho⟩ := RE.temp hrel
    exact At.pure (a := o.flat) q2 F1 H1 v (Ex.refl _) (Ex.refl _) ⟨RE.drop hrel, ho.view (RE.fh hrel)⟩
  | bor i o =>
    obtain ⟨R2, hv, b, hb⟩ := hrel
    obtain ⟨w, fs, hw, ho⟩ := R2.slot hb
    rw [hv] at hw
    cases hw
    exact At.pure (a := o.flat) q2 F1 H1 v (Ex.refl _) (Ex.refl _) ⟨R2, ho.view R2.fh⟩⟩
def imR (d : Den D) : Den Rv := dbind d fun d => dpure (.im d)
theorem DI.e {den : Den D} (h : DI X W ex den) : DE X W ex (imR den) := ⟨pe_weak h.run fun σ H Q q => by
  obtain ⟨c, F, e, ts, R, q⟩ := q
  refine ⟨c, F, e, ts, R, q.bind fun F1 H1 e1 a v ef hrel q2 => ?_⟩
  exact At.pure (a := Rv.im a) q2 F1 H1 v (Ex.refl _) (Ex.refl _) hrel⟩
theorem DI.v {den : Den D} (h : DI X W ex den) : DV X W ex den := ⟨pe_weak h.run fun σ H Q q => by
  obtain ⟨c, F, e, ts, R, r, hr, post⟩ := q
  refine ⟨c, F, e, ts, R, r, hr, ?_⟩
  cases r with
  | ok m e1 a => exact fun F' H' v ef eh hrel => post F' H' v ef eh ⟨hrel.1, Rep.mono hrel.1.fh _ _ hrel.2⟩
  | err m e1 x => exact post⟩

/-! ### names, constants -/
def dvar (i : Nat) : Den Rv := fun e => match e[i]? with
  | some (some (_, .im d)) => some (.ok false e (.im d))
  | some (some (_, o)) => some (.ok false e (.bor i o))
  | _ => none
theorem de_var {i : Nat} (h : PE X ex (tVar i)) : DE X W ex (dvar i) := ⟨pe_weak h fun σ H Q q => by
  obtain ⟨c, F, e, ts, R, r, hr, post⟩ := q
  unfold dvar at hr
  cases he : e[i]? with
  | none =>
    rw [he] at hr
    cases hr
  | some s =>
    rw [he] at hr
    cases s with
    | none => cases hr
    | some q =>
      obtain ⟨b, o⟩ := q
      obtain ⟨v, fs, hv, ho⟩ := R.slot he
      refine ⟨v, hv, ?_⟩
      cases o with
      | im d =>
        cases hr
        exact post F H v (Ex.refl _) (fun _ => Ex.refl _) ⟨R, ho.2⟩
      | lst os =>
        cases hr
        exact post F H v (Ex.refl _) (fun _ => Ex.refl _) ⟨R, hv, b, he⟩
      | tup os =>
        cases hr
        exact post F H v (Ex.refl _) (fun _ => Ex.refl _) ⟨R, hv, b, he⟩
      | dct ks os =>
        cases hr
        exact post F H v (Ex.refl _) (fun _ => Ex.refl _) ⟨R, hv, b, he⟩
      | ins C ns os =>
        cases hr
        exact post F H v (Ex.refl _) (fun _ => Ex.refl _) ⟨R, hv, b, he⟩⟩
/-- a constant -/
theorem di_c {v : V} {d : D} (h : PE X ex (tC v)) (hr : ∀ F, Rep X.K F d v) : DI X W ex (dpure d) := ⟨pe_weak h fun σ H Q q => by
  obtain ⟨c, F, e, ts, R, q⟩ := q
  exact At.pure q F H v (Ex.refl _) (Ex.refl _) ⟨R, hr F⟩⟩
theorem di_int {i : Int} {j : Nat} : DI X W (.Constant (.int i) j pos) (dpure (.int i)) := di_c pe_int fun _ => rfl
theorem di_bl {b : Bool} {j : Nat} : DI X W (.Constant (.bool b) j pos) (dpure (.bl b)) := di_c pe_bl fun _ => rfl
theorem di_non {j : Nat} : DI X W (.Constant .none j pos) (dpure .non) := di_c pe_non fun _ => rfl
theorem di_str {x : Str} {j : Nat} : DI X W (.Constant (.str x) j pos) (dpure (.str x)) := di_c pe_str fun _ => rfl
end
end DL

/-! DLC: operators, comparisons, tests, calls of built-ins, tuples and lists written, subscripts. -/
namespace DL
open PySem PySem.Spec PyProof.Rows L2 Evl

/-! ### data that may be compared -/
mutual
def D.py : D → Option PyData
  | .non => some .none
  | .bl b => some (.bool b)
  | .int i => some (.int i)
  | .str x => some (.str x)
  | .tup ds => (D.pys ds).map PyData.tuple
  | .wtp ds => (D.pys ds).map PyData.tuple
  | .lst ds => (D.pys ds).map PyData.list
  | .scr ds => (D.pys ds).map PyData.list
  | .any => none
  | .ty _ => none
  | .adr _ => none
  | .dct _ _ => none
  | .ins _ _ _ => none
def D.pys : List D → Option (List PyData)
  | [] => some []
  | d :: ds => match D.py d, D.pys ds with
    | some p, some ps => some (p :: ps)
    | _, _ => none
end
mutual
theorem Rep.dp {K : PySem.W.Frag} {H : Hp} : ∀ (d : D) (v : V) (p : PyData), Rep K H d v → d.py = some p → Dp K H v p
  | .non, v, p, h, e => by cases e; rw [show v = V.non from h]; exact .non
  | .bl b, v, p, h, e => by cases e; rw [show v = V.bl b from h]; exact .bl b
  | .int i, v, p, h, e => by cases e; rw [show v = V.int i from h]; exact .int i
  | .str x, v, p, h, e => by cases e; rw [show v = V.str x from h]; exact .str x
  | .tup ds, v, p, h, e => by
    obtain ⟨a, xs, rfl, h1, h2⟩ := h
    unfold D.py at e
    obtain ⟨q, e1, rfl⟩ := Option.map_eq_some_iff.mp e
    exact .tup (SqT.of h1) (Reps.dp ds xs q h2 e1)
  | .wtp ds, v, p, h, e => by
    obtain ⟨a, xs, rfl, h1, h2⟩ := h
    unfold D.py at e
    obtain ⟨q, e1, rfl⟩ := Option.map_eq_some_iff.mp e
    exact .tup h1 (Reps.dp ds xs q h2 e1)
  | .lst ds, v, p, h, e => by
    obtain ⟨a, xs, rfl, h1, h2⟩ := h
    unfold D.py at e
    obtain ⟨q, e1, rfl⟩ := Option.map_eq_some_iff.mp e
    exact .lst (SqL.of h1) (Reps.dp ds xs q h2 e1)
  | .scr ds, v, p, h, e => by
    obtain ⟨a, xs, rfl, h1, h2⟩ := h
    unfold D.py at e
    obtain ⟨q, e1, rfl⟩ := Option.map_eq_some_iff.mp e
    exact .lst h1 (Reps.dp ds xs q h2 e1)
  | .any, v, p, h, e => by cases e
  | .ty _, v, p, h, e => by cases e
  | .adr _, v, p, h, e => by cases e
  | .dct _ _, v, p, h, e => by cases e
  | .ins _ _ _, v, p, h, e => by cases e
theorem Reps.dp {K : PySem.W.Frag} {H : Hp} : ∀ (ds : List D) (xs : List V) (ps : List PyData), Reps K H ds xs → D.pys ds = some ps → DpAll K H xs ps
  | [], xs, ps, h, e => by
    rw [show xs = [] from h]
    cases e
    exact .nil
  | d :: ds, xs, ps, h, e => by
    obtain ⟨x, r, rfl, h1, h2⟩ := h
    unfold D.pys at e
    cases e1 : D.py d with
    | none => rw [e1] at e; cases e
    | some p =>
      cases e2 : D.pys ds with
      | none => rw [e1, e2] at e; cases e
      | some q =>
        rw [e1, e2] at e
        cases e
        exact .cons (Rep.dp d x p h1 e1) (Reps.dp ds r q h2 e2)
end
def eqD (a b : D) : Option Bool := match a.py, b.py with
  | some p, some q => if SeqAt.shaped p && SeqAt.shaped q then some (PyData.eqv p q) else none
  | _, _ => none

/-! ### operators over frozen data -/
def OpOk (K : PySem.W.Frag) (r : R2) (g : D → D → Option D) : Prop := ∀ (F H : Hp) (x y : V) (dx dy d : D), Ex F H → Rep K F dx x → Rep K F dy y → g dx dy = some d →
  ∀ Q : VK, (∀ F' H' v, Ex F F' → Ex H H' → Ex F' H' → Fresh F H F' → Rep K F' d v → Q v H') → r x y H Q
/-- over data that is seen -/
def CmpOk (K : PySem.W.Frag) (r : R2) (g : D → D → Option Bool) : Prop := ∀ (H : Hp) (x y : V) (dx dy : D) (b : Bool), Rep K H dx x → Rep K H dy y → g dx dy = some b → ∀ Q : VK, Q (.bl b) H → r x y H Q
def dbin (da db : Den D) (g : D → D → Option D) : Den D := dbind da fun x => dbind db fun y => dlift (g x y)
/-- what changes nothing -/
def dq {α : Type} (d : Den α) : Den α := fun e => match d e with
  | some (.ok false e' a) => some (.ok false e' a)
  | some (.err m e' x) => some (.err m e' x)
  | _ => none
def dcmp (da db : Den D) (g : D → D → Option Bool) : Den D := dbind da fun x => dbind (dq db) fun y => dlift ((g x y).map D.bl)
theorem At.quiet {α β : Type} {rel : Rel α β} {K : PySem.W.Frag} {W : WX} {den : Den α} {c : Ctx} {F H : Hp} {σ : L2.St} {e : Env} {ts : List (V × O)} {Q : β → Hp → Prop}
    (h : At rel K W (dq den) c F σ e ts H Q) : At rel K W den c F σ e ts H (fun v H' => Ex H H' ∧ (Ex H H' → Q v H')) := by
  obtain ⟨r, hr, post⟩ := h
  unfold dq at hr
  cases hd : den e with
  | none => rw [hd] at hr; cases hr
  | some r1 =>
    rw [hd] at hr
    cases r1 with
    | err m e1 x =>
      cases hr
      exact ⟨_, hd, post⟩
    | ok m e1 a =>
      cases m with
      | true => cases hr
      | false =>
        cases hr
        exact ⟨_, hd, fun F' H' v ef eh hrel => ⟨eh rfl, fun _ => post F' H' v ef eh hrel⟩⟩
section
variable {X : Cx} {W : WX} {ex a b : Expr} {pos : Pos} {da db : Den D}
theorem di_opr {r : R2} {g : D → D → Option D} (h : ∀ {ta tb}, PE X a ta → PE X b tb → PE X ex (tOp r ta tb)) (hg : OpOk X.K r g) (ha : DI X W a da) (hb : DI X W b db) : DI X W ex (dbin da db g) :=
  ⟨pe_weak (h ha.run hb.run) fun σ H Q q => by
    obtain ⟨c, F, e, ts, R, q⟩ := q
    refine ⟨c, F, e, ts, R, q.bind (rel := relI) fun F1 H1 e1 x v ef hr q1 => ⟨c, F1, e1, ts, hr.1, q1.bind (rel := relI) fun F2 H2 e2 y u ef2 hr2 q2 => ?_⟩⟩
    obtain ⟨d, hd, k⟩ := q2.lift
    exact hg F2 H2 v u x y d hr2.1.fh (Rep.mono ef2 _ _ hr.2) hr2.2 hd Q fun F' H' w ef eh fh fr hw => k F' H' w ef eh ⟨hr2.1.grow ef eh fh fr, hw⟩⟩
theorem di_op {op : Operator} {r : R2} {g : D → D → Option D} (ho : OpR X (binaryOp op) r) (hg : OpOk X.K r g) (ha : DI X W a da) (hb : DI X W b db) : DI X W (.BinOp a op b pos) (dbin da db g) := di_opr (pe_op ho) hg ha hb
theorem cmp_rd {r : R2} {g : D → D → Option Bool} (hg : CmpOk X.K r g) {ta tb : TE} {σ : L2.St} {H : Hp} {Q : VK} (q : rd relI X.K W (dcmp da db g) σ H Q) : tOp r (rd relV X.K W da) (rd relV X.K W db) σ H Q := by
  obtain ⟨c, F, e, ts, R, q⟩ := q
  refine ⟨c, F, e, ts, R, q.bind (rel := relV) fun F1 H1 e1 x v ef hr q1 => ⟨c, F1, e1, ts, hr.1, ?_⟩⟩
  have q2 := (q1.bind (rel := relV) (Q' := fun u H2 => Ex H1 H2 → r v u H2 Q) fun F2 H2 e2 y u ef2 hr2 q2 ee => by
    obtain ⟨d, hd, k⟩ := q2.lift
    obtain ⟨b, hb, rfl⟩ := Option.map_eq_some_iff.mp hd
    exact hg H2 v u x y b (Rep.mono ee _ _ hr.2) hr2.2 hb Q (k F2 H2 (.bl b) (Ex.refl _) (Ex.refl _) ⟨hr2.1, rfl⟩)).quiet
  obtain ⟨rr, h1, post⟩ := q2
  refine ⟨rr, h1, ?_⟩
  cases rr with
  | err m e1 x => exact post
  | ok m e1 a => exact fun F' H' v' ef' eh hrel => let z := post F' H' v' ef' eh hrel; z.2 z.1 z.1
theorem di_cmp {op : CmpOp} {r : R2} {g : D → D → Option Bool} (ho : OpR X (compareOp op) r) (hg : CmpOk X.K r g) (ha : DV X W a da) (hb : DV X W b db) (hm : behindInMarks op b = false) : DI X W (.Compare a [op] [b] pos) (dcmp da db g) :=
  ⟨pe_weak (pe_cmpR ho ha.run hb.run hm) fun σ H Q q => cmp_rd (ta := rd relV X.K W da) (tb := rd relV X.K W db) hg q⟩
def dtB (d : Den D) : Den Bool := dbind d fun x => dlift (match x with
  | .bl b => some b
  | _ => none)
theorem tB_rd {σ : L2.St} {H : Hp} {Q : Bool → Hp → Prop} (q : rd relB X.K W (dtB da) σ H Q) : rd relI X.K W da σ H (fun x H' => ∃ k, x = .bl k ∧ Q k H') := by
  obtain ⟨c, F, e, ts, R, q⟩ := q
  refine ⟨c, F, e, ts, R, q.bind (rel := relI) fun F1 H1 e1 x v ef hr q1 => ?_⟩
  obtain ⟨b, hb, k⟩ := q1.lift
  cases x <;> cases hb
  exact ⟨b, hr.2, k F1 H1 b (Ex.refl _) (Ex.refl _) ⟨hr.1, rfl⟩⟩
theorem dt_cmp {op : CmpOp} {r : R2} {g : D → D → Option Bool} (ho : OpR X (compareOp op) r) (hg : CmpOk X.K r g) (ha : DV X W a da) (hb : DV X W b db) (hm : behindInMarks op b = false) : DT X W (.Compare a [op] [b] pos) (dtB (dcmp da db g)) :=
  ⟨pt_weak (pt_cmpR ho ha.run hb.run hm) fun σ H Q q => cmp_rd (ta := rd relV X.K W da) (tb := rd relV X.K W db) hg (tB_rd q)⟩
/-- a bool as a test -/
theorem dt_val (h : DI X W ex da) (he : ∀ whole, isTrue ex X.env whole = (do let v ← whole; standAt ex.pos; holding [v] (truthy v)) := by intro _; rfl) : DT X W ex (dtB da) :=
  ⟨pt_weak (pt_val h.run he) fun σ H Q q => tB_rd q⟩
/-- truth of what is seen -/
@[simp] def truD : D → Option Bool
  | .non => some false
  | .bl b => some b
  | .int i => some (i != 0)
  | .str y => if y.length ≤ sizeLine then some ((y.length : Int) != 0) else none
  | .tup ds => some (!ds.isEmpty)
  | .wtp ds => some (!ds.isEmpty)
  | .lst ds => some (!ds.isEmpty)
  | .scr ds => some (!ds.isEmpty)
  | _ => none
theorem Reps.isEmpty {K : PySem.W.Frag} {F : Hp} {ds : List D} {xs : List V} (h : Reps K F ds xs) : xs.isEmpty = ds.isEmpty := by
  cases ds with
  | nil => rw [show xs = [] from h]; rfl
  | cons d ds =>
    obtain ⟨x, r, rfl, _⟩ := h
    rfl
theorem tru_of {K : PySem.W.Frag} {H : Hp} {d : D} {v : V} {k : Bool} (h : Rep K H d v) (e : truD d = some k) : TruV K v H k := by
  cases d with
  | non => cases e; rw [show v = V.non from h]; exact rfl
  | bl b => cases e; rw [show v = V.bl _ from h]; exact rfl
  | int i => cases e; rw [show v = V.int _ from h]; exact rfl
  | str y =>
    rw [show v = V.str _ from h]
    have e : (if y.length ≤ sizeLine then some ((y.length : Int) != 0) else none) = some k := e
    split at e
    · rename_i hz
      cases e
      exact ⟨hz, rfl⟩
    · cases e
  | tup ds =>
    obtain ⟨a, xs, rfl, h1, h2⟩ := h
    cases e
    exact .inr (.inl ⟨xs, SqT.of h1, by rw [h2.isEmpty]⟩)
  | wtp ds =>
    obtain ⟨a, xs, rfl, h1, h2⟩ := h
    cases e
    exact .inr (.inl ⟨xs, h1, by rw [h2.isEmpty]⟩)
  | lst ds =>
    obtain ⟨a, xs, rfl, h1, h2⟩ := h
    cases e
    exact .inl ⟨xs, SqL.of h1, by rw [h2.isEmpty]⟩
  | scr ds =>
    obtain ⟨a, xs, rfl, h1, h2⟩ := h
    cases e
    exact .inl ⟨xs, h1, by rw [h2.isEmpty]⟩
  | _ => cases e
def dtru (d : Den D) : Den Bool := dbind d fun d => dlift (truD d)
theorem dt_tru (h : DV X W ex da) (he : ∀ whole, isTrue ex X.env whole = (do let v ← whole; standAt ex.pos; holding [v] (truthy v)) := by intro _; rfl) : DT X W ex (dtru da) :=
  ⟨pt_weak (pt_truth h.run he) fun σ H Q q => by
    obtain ⟨c, F, e, ts, R, q⟩ := q
    refine ⟨c, F, e, ts, R, q.bind (rel := relV) fun F1 H1 e1 x v ef hr q1 => ?_⟩
    obtain ⟨b, hb, k⟩ := q1.lift
    exact ⟨b, tru_of hr.2 hb, k F1 H1 b (Ex.refl _) (Ex.refl _) ⟨hr.1, rfl⟩⟩⟩
/-! ### and, or, not, if else -/
structure DW (X : Cx) (W : WX) (ex : Expr) (den : Den Bool) : Prop where
  run : PW X ex (rd relB X.K W den)
theorem pw_weak {t t' : TT} (h : PW X ex t) (k : ∀ σ H Q, t' σ H Q → t σ H Q) : PW X ex t' := ⟨fun wh pins s σ H Q I q => h.run wh pins s σ H Q I (k σ H Q q)⟩
variable {ta tb : Den Bool} {rest : List Expr}
def dand (d f : Den Bool) : Den Bool := dbind d fun b => if b then f else dpure false
def dor (d f : Den Bool) : Den Bool := dbind d fun b => if b then dpure true else f
def dnot (d : Den Bool) : Den Bool := dbind d fun b => dpure (!b)
theorem DW.t (h : DW X W ex ta) : DT X W ex ta := ⟨h.run.pt⟩
theorem dw_and1 (h : DT X W a ta) : DW X W (.BoolOp .And [a] pos) ta := ⟨pw_and1 h.run⟩
theorem dw_or1 (h : DT X W a ta) : DW X W (.BoolOp .Or [a] pos) ta := ⟨pw_or1 h.run⟩
theorem dw_and (h : DT X W a ta) (h2 : DW X W (.BoolOp .And (b :: rest) pos) tb) : DW X W (.BoolOp .And (a :: b :: rest) pos) (dand ta tb) := ⟨pw_weak (pw_and h.run h2.run) fun σ H Q q => by
  obtain ⟨c, F, e, ts, R, q⟩ := q
  refine ⟨c, F, e, ts, R, q.bind (rel := relB) fun F1 H1 e1 x v ef hr q1 => ?_⟩
  obtain ⟨R1, rfl⟩ := hr
  cases x with
  | true => exact ⟨c, F1, e1, ts, R1, q1⟩
  | false => exact At.pure (a := false) q1 F1 H1 false (Ex.refl _) (Ex.refl _) ⟨R1, rfl⟩⟩
theorem dw_or (h : DT X W a ta) (h2 : DW X W (.BoolOp .Or (b :: rest) pos) tb) : DW X W (.BoolOp .Or (a :: b :: rest) pos) (dor ta tb) := ⟨pw_weak (pw_or h.run h2.run) fun σ H Q q => by
  obtain ⟨c, F, e, ts, R, q⟩ := q
  refine ⟨c, F, e, ts, R, q.bind (rel := relB) fun F1 H1 e1 x v ef hr q1 => ?_⟩
  obtain ⟨R1, rfl⟩ := hr
  cases x with
  | false => exact ⟨c, F1, e1, ts, R1, q1⟩
  | true => exact At.pure (a := true) q1 F1 H1 true (Ex.refl _) (Ex.refl _) ⟨R1, rfl⟩⟩
theorem dt_not (h : DT X W a ta) : DT X W (.UnaryOp .Not a pos) (dnot ta) := ⟨pt_weak (pt_not h.run) fun σ H Q q => by
  obtain ⟨c, F, e, ts, R, q⟩ := q
  refine ⟨c, F, e, ts, R, q.bind (rel := relB) fun F1 H1 e1 x v ef hr q1 => ?_⟩
  obtain ⟨R1, rfl⟩ := hr
  exact At.pure q1 F1 H1 (!x) (Ex.refl _) (Ex.refl _) ⟨R1, rfl⟩⟩
/-- .. as values -/
def dandV (d f : Den D) : Den D := dbind (dtB d) fun b => if b then f else dpure (.bl false)
def dorV (d f : Den D) : Den D := dbind (dtB d) fun b => if b then dpure (.bl true) else f
def dnotV (d : Den D) : Den D := dbind (dtB d) fun b => dpure (.bl (!b))
theorem At.boolV {γ δ : Type} {rel2 : Rel γ δ} {K : PySem.W.Frag} {f : Bool → Den γ} {c : Ctx} {F H : Hp} {σ : L2.St} {e : Env} {ts : List (V × O)} {Q : δ → Hp → Prop} {Q' : V → Hp → Prop}
    (h : At rel2 K W (dbind (dtB da) f) c F σ e ts H Q) (k : ∀ F1 H1 e1 b, Ex F F1 → RE K c F1 H1 σ e1 ts → At rel2 K W (f b) c F1 σ e1 ts H1 Q → Q' (.bl b) H1) : At relI K W da c F σ e ts H Q' := by
  have h1 := h.bind (rel := relB) (Q' := fun b H' => Q' (.bl b) H') fun F1 H1 e1 b b' ef hr q => by
    obtain ⟨R1, rfl⟩ := hr
    exact k F1 H1 e1 b ef R1 q
  exact h1.bind (rel := relI) fun F1 H1 e1 x v ef hr q => by
    obtain ⟨b, hb, kk⟩ := q.lift
    cases x <;> cases hb
    rw [show v = V.bl b from hr.2]
    exact kk F1 H1 b (Ex.refl _) (Ex.refl _) ⟨hr.1, rfl⟩
theorem di_one {op} (h : DI X W a da) : DI X W (.BoolOp op [a] pos) da := ⟨pe_one h.run⟩
theorem di_and (h : DI X W a da) (h2 : DI X W (.BoolOp .And (b :: rest) pos) db) : DI X W (.BoolOp .And (a :: b :: rest) pos) (dandV da db) := ⟨pe_weak (pe_and h.run h2.run) fun σ H Q q => by
  obtain ⟨c, F, e, ts, R, q⟩ := q
  refine ⟨c, F, e, ts, R, q.boolV fun F1 H1 e1 x ef R1 q1 => ⟨x, rfl, ?_⟩⟩
  cases x with
  | true => exact ⟨c, F1, e1, ts, R1, q1⟩
  | false => exact At.pure (a := D.bl false) q1 F1 H1 _ (Ex.refl _) (Ex.refl _) ⟨R1, rfl⟩⟩
theorem di_or (h : DI X W a da) (h2 : DI X W (.BoolOp .Or (b :: rest) pos) db) : DI X W (.BoolOp .Or (a :: b :: rest) pos) (dorV da db) := ⟨pe_weak (pe_or h.run h2.run) fun σ H Q q => by
  obtain ⟨c, F, e, ts, R, q⟩ := q
  refine ⟨c, F, e, ts, R, q.boolV fun F1 H1 e1 x ef R1 q1 => ⟨x, rfl, ?_⟩⟩
  cases x with
  | false => exact ⟨c, F1, e1, ts, R1, q1⟩
  | true => exact At.pure (a := D.bl true) q1 F1 H1 _ (Ex.refl _) (Ex.refl _) ⟨R1, rfl⟩⟩
theorem di_not (h : DI X W a da) : DI X W (.UnaryOp .Not a pos) (dnotV da) := ⟨pe_weak (pe_not h.run) fun σ H Q q => by
  obtain ⟨c, F, e, ts, R, q⟩ := q
  exact ⟨c, F, e, ts, R, q.boolV fun F1 H1 e1 x ef R1 q1 => ⟨x, rfl, At.pure q1 F1 H1 _ (Ex.refl _) (Ex.refl _) ⟨R1, rfl⟩⟩⟩⟩
def dif {α : Type} (t : Den Bool) (x y : Den α) : Den α := dbind t fun b => if b then x else y
theorem de_if {t : Expr} {r1 r2 : Den Rv} (h : DT X W t ta) (h1 : DE X W a r1) (h2 : DE X W b r2) : DE X W (.IfExp t a b pos) (dif ta r1 r2) := ⟨pe_weak (pe_ifExp h.run h1.run h2.run) fun σ H Q q => by
  obtain ⟨c, F, e, ts, R, q⟩ := q
  refine ⟨c, F, e, ts, R, q.bind (rel := relB) fun F1 H1 e1 x v ef hr q1 => ?_⟩
  obtain ⟨R1, rfl⟩ := hr
  cases x with
  | true => exact ⟨c, F1, e1, ts, R1, q1⟩
  | false => exact ⟨c, F1, e1, ts, R1, q1⟩⟩

/-! ### argument lists -/
theorem da_nil : DA X W [] (dpure []) := ⟨pa_weak pa_nil fun σ H Q q => by
  obtain ⟨c, F, e, ts, R, q⟩ := q
  exact At.pure q F H [] (Ex.refl _) (Ex.refl _) ⟨R, rfl⟩⟩
def dcons (d : Den D) (ds : Den (List D)) : Den (List D) := dbind d fun x => dbind ds fun xs => dpure (x :: xs)
theorem da_cons {es : List Expr} {ds : Den (List D)} (h : DI X W a da) (hr : DA X W es ds) (hs : starEach (a :: es) X.env = (false, eval a X.env) :: starEach es X.env := by rfl) : DA X W (a :: es) (dcons da ds) :=
  ⟨pa_weak (pa_cons h.run hr.run hs) fun σ H Q q => by
    obtain ⟨c, F, e, ts, R, q⟩ := q
    refine ⟨c, F, e, ts, R, q.bind (rel := relI) fun F1 H1 e1 x v ef hr q1 => ⟨c, F1, e1, ts, hr.1, q1.bind (rel := relA) fun F2 H2 e2 y u ef2 hr2 q2 => ?_⟩⟩
    exact At.pure q2 F2 H2 (v :: u) (Ex.refl _) (Ex.refl _) ⟨hr2.1, v, u, rfl, Rep.mono ef2 _ _ hr.2, hr2.2⟩⟩
/-- seen arguments -/
def relAV : Rel (List D) (List V) := fun K c F H σ e ts d v => RE K c F H σ e ts ∧ Reps K H d v
structure DAV (X : Cx) (W : WX) (es : List Expr) (den : Den (List D)) : Prop where
  run : PA X es (rd relAV X.K W den)
theorem dv_nil : DAV X W [] (dpure []) := ⟨pa_weak pa_nil fun σ H Q q => by
  obtain ⟨c, F, e, ts, R, q⟩ := q
  exact At.pure q F H [] (Ex.refl _) (Ex.refl _) ⟨R, rfl⟩⟩
def dconsV (d : Den D) (ds : Den (List D)) : Den (List D) := dbind d fun x => dbind (dq ds) fun xs => dpure (x :: xs)
theorem dv_cons {es : List Expr} {ds : Den (List D)} (h : DV X W a da) (hr : DAV X W es ds) (hs : starEach (a :: es) X.env = (false, eval a X.env) :: starEach es X.env := by rfl) : DAV X W (a :: es) (dconsV da ds) :=
  ⟨pa_weak (pa_cons h.run hr.run hs) fun σ H Q q => by
    obtain ⟨c, F, e, ts, R, q⟩ := q
    refine ⟨c, F, e, ts, R, q.bind (rel := relV) fun F1 H1 e1 x v ef hr q1 => ⟨c, F1, e1, ts, hr.1, ?_⟩⟩
    have q2 := (q1.bind (rel := relAV) (Q' := fun u H2 => Ex H1 H2 → Q (v :: u) H2) fun F2 H2 e2 y u ef2 hr2 q2 ee =>
      At.pure q2 F2 H2 (v :: u) (Ex.refl _) (Ex.refl _) ⟨hr2.1, v, u, rfl, Rep.mono ee _ _ hr.2, hr2.2⟩).quiet
    obtain ⟨rr, h1, post⟩ := q2
    refine ⟨rr, h1, ?_⟩
    cases rr with
    | err m e1 x => exact post
    | ok m e1 a => exact fun F' H' v' ef' eh hrel => let z := post F' H' v' ef' eh hrel; z.2 z.1 z.1⟩
abbrev R1 := List V → Hp → VK → Prop
def CallOk (K : PySem.W.Frag) (r : R1) (g : List D → Option D) : Prop := ∀ (F H : Hp) (xs : List V) (ds : List D) (d : D), Ex F H → Reps K F ds xs → g ds = some d →
  ∀ Q : VK, (∀ F' H' v, Ex F F' → Ex H H' → Ex F' H' → Fresh F H F' → Rep K F' d v → Q v H') → r xs H Q
/-- of seen arguments; what comes needs no heap -/
def CallOkV (K : PySem.W.Frag) (r : R1) (g : List D → Option D) : Prop := ∀ (H : Hp) (xs : List V) (ds : List D) (d : D), Reps K H ds xs → g ds = some d →
  ∃ v, (∀ F, Rep K F d v) ∧ ∀ Q : VK, Q v H → r xs H Q
variable {es : List Expr} {ds : Den (List D)} {x : Str} {p : Pos} {id : String}
theorem di_callB {r : R1} {g : List D → Option D} (hc : CallR X (.builtin id) r) (hk : CallOk X.K r g) (hg : Gl X x) (hm : X.mg x = none) (hv : bootBuiltins x = some (.builtin id)) (ha : DA X W (a :: es) ds) (hn : x ≠ "__name__" := by decide)
    (hdb : (x == ("__debug__" : Str)) = false := by decide) (he : starEach (a :: es) X.env = (false, eval a X.env) :: starEach es X.env := by rfl) (hpl : (backTo pos (starEach es X.env)).any (·.1) = false := by rfl) :
    DI X W (.Call (.Name x p) (a :: es) [] pos) (dbind ds fun vs => dlift (g vs)) :=
  ⟨pe_weak (pe_callB hc hg hm hv ha.run hn hdb he hpl) fun σ H Q q => by
    obtain ⟨c, F, e, ts, R, q⟩ := q
    refine ⟨c, F, e, ts, R, q.bind (rel := relA) fun F1 H1 e1 y v ef hr q1 => ?_⟩
    obtain ⟨d, hd, k⟩ := q1.lift
    exact hk F1 H1 v y d hr.1.fh hr.2 hd Q fun F' H' w ef eh fh fr hw => k F' H' w ef eh ⟨hr.1.grow ef eh fh fr, hw⟩⟩
theorem di_callBV {r : R1} {g : List D → Option D} (hc : CallR X (.builtin id) r) (hk : CallOkV X.K r g) (hg : Gl X x) (hm : X.mg x = none) (hv : bootBuiltins x = some (.builtin id)) (ha : DAV X W (a :: es) ds) (hn : x ≠ "__name__" := by decide)
    (hdb : (x == ("__debug__" : Str)) = false := by decide) (he : starEach (a :: es) X.env = (false, eval a X.env) :: starEach es X.env := by rfl) (hpl : (backTo pos (starEach es X.env)).any (·.1) = false := by rfl) :
    DI X W (.Call (.Name x p) (a :: es) [] pos) (dbind ds fun vs => dlift (g vs)) :=
  ⟨pe_weak (pe_callB hc hg hm hv ha.run hn hdb he hpl) fun σ H Q q => by
    obtain ⟨c, F, e, ts, R, q⟩ := q
    refine ⟨c, F, e, ts, R, q.bind (rel := relAV) fun F1 H1 e1 y v ef hr q1 => ?_⟩
    obtain ⟨d, hd, k⟩ := q1.lift
    obtain ⟨w, hw, kk⟩ := hk H1 v y d hr.2 hd
    exact kk Q (k F1 H1 w (Ex.refl _) (Ex.refl _) ⟨hr.1, hw F1⟩)⟩
theorem di_callTV {r : R1} {g : List D → Option D} {T : String} (hc : CallR X (.type T) r) (hk : CallOkV X.K r g) (hg : Gl X x) (hm : X.mg x = none) (hv : bootBuiltins x = some (.type T)) (ha : DAV X W (a :: es) ds) (hn : x ≠ "__name__" := by decide)
    (hdb : (x == ("__debug__" : Str)) = false := by decide) (he : starEach (a :: es) X.env = (false, eval a X.env) :: starEach es X.env := by rfl) (hpl : (backTo pos (starEach es X.env)).any (·.1) = false := by rfl) :
    DI X W (.Call (.Name x p) (a :: es) [] pos) (dbind ds fun vs => dlift (g vs)) :=
  ⟨pe_weak (pe_callTy hc hg hm hv ha.run hn hdb he hpl) fun σ H Q q => by
    obtain ⟨c, F, e, ts, R, q⟩ := q
    refine ⟨c, F, e, ts, R, q.bind (rel := relAV) fun F1 H1 e1 y v ef hr q1 => ?_⟩
    obtain ⟨d, hd, k⟩ := q1.lift
    obtain ⟨w, hw, kk⟩ := hk H1 v y d hr.2 hd
    exact kk Q (k F1 H1 w (Ex.refl _) (Ex.refl _) ⟨hr.1, hw F1⟩)⟩
def dtup (ds : Den (List D)) : Den D := dbind ds fun xs => dlift (if xs.length ≤ sizeLine then some (.tup xs) else none)
def dlst (ds : Den (List D)) : Den Rv := dbind ds fun xs => dlift (if xs.length ≤ sizeLine then some (.new (.lst (xs.map O.im))) else none)
theorem di_tup {n1} (h : DA X W es ds) : DI X W (.Tuple es n1 pos) (dtup ds) :=
  ⟨pe_weak (pe_tup h.run) fun σ H Q q => by
    obtain ⟨c, F, e, ts, R, q⟩ := q
    refine ⟨c, F, e, ts, R, q.bind (rel := relA) fun F1 H1 e1 y v ef hr q1 => ?_⟩
    obtain ⟨d, hd, k⟩ := q1.lift
    split at hd
    · rename_i hz
      cases hd
      refine ⟨by rw [← hr.2.length]; exact hz, fun a ha => k (upd F1 a (.tup v)) (upd H1 a (.tup v)) (.ref a) (Ex.new (none_of_ex hr.1.fh ha)) (Ex.new ha) ⟨hr.1.newF ha, a, v, rfl, upd_same, Reps.mono (Ex.new (none_of_ex hr.1.fh ha)) _ _ hr.2⟩⟩
    · cases hd⟩
theorem de_lst (h : DA X W es ds) : DE X W (.List es pos) (dlst ds) :=
  ⟨pe_weak (pe_lst h.run) fun σ H Q q => by
    obtain ⟨c, F, e, ts, R, q⟩ := q
    refine ⟨c, F, e, ts, R, q.bind (rel := relA) fun F1 H1 e1 y v ef hr q1 => ?_⟩
    obtain ⟨d, hd, k⟩ := q1.lift
    split at hd
    · rename_i hz
      cases hd
      refine ⟨by rw [← hr.2.length]; exact hz, fun a ha => k F1 (upd H1 a (.lst v)) (.ref a) (Ex.refl _) (Ex.new ha) ?_⟩
      exact hr.1.newO ha ⟨a, v, [], rfl, rfl, upd_same, owns_im hr.2⟩
    · cases hd⟩
end
end DL

/-! DLD: statements, defs, calls of defs. -/
namespace DL
open PySem PySem.Spec PyProof.Rows L2 Evl

def SRes.more (m : Bool) : Option SRes → Option SRes
  | some (.nx m' e) => some (.nx (m || m') e)
  | some (.rt m' e r) => some (.rt (m || m') e r)
  | some (.bk m' e) => some (.bk (m || m') e)
  | some (.ct m' e) => some (.ct (m || m') e)
  | some (.er m' e x) => some (.er (m || m') e x)
  | none => none
def PostS (K : PySem.W.Frag) (W : WX) (D : Ends) (c : Ctx) (F : Hp) (ts : List (V × O)) (H : Hp) (r : SRes) : Prop := match r with
    | .nx m e' => ∀ F' H' σ', Ex F F' → (m = false → Ex H H') → RE K c F' H' σ' e' ts → D.nx σ' H'
    | .rt m e' rv => ∀ F' H' σ' v, Ex F F' → (m = false → Ex H H') → relR K c F' H' σ' e' ts rv v → D.rt v H'
    | .bk m e' => ∀ F' H' σ', Ex F F' → (m = false → Ex H H') → RE K c F' H' σ' e' ts → D.bk σ' H'
    | .ct m e' => ∀ F' H' σ', Ex F F' → (m = false → Ex H H') → RE K c F' H' σ' e' ts → D.ct σ' H'
    | .er m e' x => ∀ F' H' σ' cls d, Ex F F' → (m = false → Ex H H') → RE K c F' H' σ' e' ts → XRel K F' H' x cls d → W cls d σ' H'
def AtS (K : PySem.W.Frag) (W : WX) (den : SDen) (D : Ends) (c : Ctx) (F : Hp) (σ : L2.St) (e : Env) (ts : List (V × O)) (H : Hp) : Prop := ∃ r, den e = some r ∧ PostS K W D c F ts H r
def rdS (K : PySem.W.Frag) (W : WX) (den : SDen) : TS := fun D σ H => ∃ c F e ts, RE K c F H σ e ts ∧ AtS K W den D c F σ e ts H
structure DS (X : Cx) (W : WX) (st : Stmt) (den : SDen) : Prop where
  run : PS X st (rdS X.K W den)
structure DSs (X : Cx) (W : WX) (st : List Stmt) (den : SDen) : Prop where
  run : PSs X st (rdS X.K W den)
/-- Ends, the next turned -/
abbrev withNx (D : Ends) (N : L2.St → Hp → Prop) : Ends := { D with nx := N }
def snext : SDen := fun e => some (.nx false e)
def sseq (a b : SDen) : SDen := fun e => match a e with
  | some (.nx m e') => SRes.more m (b e')
  | r => r
def sbind {α : Type} (d : Den α) (f : α → SDen) : SDen := fun e => match d e with
  | some (.ok m e' a) => SRes.more m (f a e')
  | some (.err m e' x) => some (.er m e' x)
  | none => none
section
variable {K : PySem.W.Frag} {W : WX} {c : Ctx} {F H : Hp} {σ : L2.St} {e : Env} {ts : List (V × O)}
theorem or_l {a b : Bool} (h : (a || b) = false) : a = false := by cases a <;> first | rfl | cases h
theorem or_r {a b : Bool} (h : (a || b) = false) : b = false := by cases a <;> first | exact h | cases h
/-- the rest of a way: what it wants, behind a first part that ended at F1, H1 -/
theorem AtS.more {r2 : SDen} {e1 : Env} {m : Bool} {D : Ends} {F1 H1 : Hp} {σ1 : L2.St} {r : SRes} (hr : SRes.more m (r2 e1) = some r) (ef : Ex F F1) (eh : m = false → Ex H H1)
    (post : PostS K W D c F ts H r) : AtS K W r2 D c F1 σ1 e1 ts H1 := by
  cases h2 : r2 e1 with
  | none => rw [h2] at hr; cases hr
  | some q =>
    rw [h2] at hr
    refine ⟨q, h2, ?_⟩
    cases q with
    | nx m2 e2 =>
      cases hr
      exact fun F' H' σ' ef' eh' R => post F' H' σ' (ef.trans ef') (fun z => (eh (or_l z)).trans (eh' (or_r z))) R
    | rt m2 e2 rv =>
      cases hr
      exact fun F' H' σ' v ef' eh' R => post F' H' σ' v (ef.trans ef') (fun z => (eh (or_l z)).trans (eh' (or_r z))) R
    | bk m2 e2 =>
      cases hr
      exact fun F' H' σ' ef' eh' R => post F' H' σ' (ef.trans ef') (fun z => (eh (or_l z)).trans (eh' (or_r z))) R
    | ct m2 e2 =>
      cases hr
      exact fun F' H' σ' ef' eh' R => post F' H' σ' (ef.trans ef') (fun z => (eh (or_l z)).trans (eh' (or_r z))) R
    | er m2 e2 x =>
      cases hr
      exact fun F' H' σ' cls d ef' eh' R hx => post F' H' σ' cls d (ef.trans ef') (fun z => (eh (or_l z)).trans (eh' (or_r z))) R hx
theorem AtS.sbind {α β : Type} {rel : Rel α β} {den : Den α} {f : α → SDen} {D : Ends} {Q' : β → Hp → Prop} (h : AtS K W (sbind den f) D c F σ e ts H)
    (k : ∀ F1 H1 e1 a v, Ex F F1 → rel K c F1 H1 σ e1 ts a v → AtS K W (f a) D c F1 σ e1 ts H1 → Q' v H1) : At rel K W den c F σ e ts H Q' := by
  obtain ⟨r, hr, post⟩ := h
  unfold DL.sbind at hr
  cases hd : den e with
  | none => rw [hd] at hr; cases hr
  | some r1 =>
    rw [hd] at hr
    cases r1 with
    | err m e1 x =>
      cases hr
      exact ⟨_, hd, fun F' H' cls d ef eh R hx => post F' H' σ cls d ef eh R hx⟩
    | ok m e1 a => exact ⟨_, hd, fun F1 H1 v ef eh hrel => k F1 H1 e1 a v ef hrel (AtS.more hr ef eh post)⟩
theorem AtS.seq {d f : SDen} {D : Ends} {N : L2.St → Hp → Prop} (h : AtS K W (sseq d f) D c F σ e ts H)
    (k : ∀ F1 H1 σ1 e1, Ex F F1 → RE K c F1 H1 σ1 e1 ts → AtS K W f D c F1 σ1 e1 ts H1 → N σ1 H1) : AtS K W d (withNx D N) c F σ e ts H := by
  obtain ⟨r, hr, post⟩ := h
  unfold sseq at hr
  cases hd : d e with
  | none => rw [hd] at hr; cases hr
  | some r1 =>
    rw [hd] at hr
    refine ⟨r1, hd, ?_⟩
    cases r1 with
    | nx m e1 => exact fun F1 H1 σ1 ef eh R => k F1 H1 σ1 e1 ef R (AtS.more hr ef eh post)
    | rt m e1 rv => cases hr; exact post
    | bk m e1 => cases hr; exact post
    | ct m e1 => cases hr; exact post
    | er m e1 x => cases hr; exact post
/-- the ends weakened -/
theorem AtS.imp {d : SDen} {D D' : Ends} (h : AtS K W d D c F σ e ts H) (k1 : ∀ σ' H', D.nx σ' H' → D'.nx σ' H') (k2 : ∀ v H', D.rt v H' → D'.rt v H') (k3 : ∀ σ' H', D.bk σ' H' → D'.bk σ' H') (k4 : ∀ σ' H', D.ct σ' H' → D'.ct σ' H') : AtS K W d D' c F σ e ts H := by
  obtain ⟨r, hr, post⟩ := h
  refine ⟨r, hr, ?_⟩
  cases r with
  | nx m e1 => exact fun F1 H1 σ1 ef eh R => k1 _ _ (post F1 H1 σ1 ef eh R)
  | rt m e1 rv => exact fun F1 H1 σ1 v ef eh R => k2 _ _ (post F1 H1 σ1 v ef eh R)
  | bk m e1 => exact fun F1 H1 σ1 ef eh R => k3 _ _ (post F1 H1 σ1 ef eh R)
  | ct m e1 => exact fun F1 H1 σ1 ef eh R => k4 _ _ (post F1 H1 σ1 ef eh R)
  | er m e1 x => exact post
theorem AtS.next {D : Ends} (h : AtS K W snext D c F σ e ts H) (R : RE K c F H σ e ts) : D.nx σ H := by
  obtain ⟨r, hr, post⟩ := h
  cases hr
  exact post F H σ (Ex.refl _) (fun _ => Ex.refl _) R
end
section
variable {X : Cx} {W : WX} {ex : Expr} {pos : Pos} {st : Stmt} {rest body : List Stmt} {d f : SDen}
theorem dss_nil : DSs X W [] snext := ⟨pss_weak pss_nil fun D σ H q => by
  obtain ⟨c, F, e, ts, R, q⟩ := q
  exact q.next R⟩
theorem dss_one (h : DS X W st d) : DSs X W [st] d := ⟨pss_one h.run⟩
theorem dss_cons (h : DS X W st d) (h2 : DSs X W rest f) : DSs X W (st :: rest) (sseq d f) := ⟨pss_weak (pss_cons h.run h2.run) fun D σ H q => by
  obtain ⟨c, F, e, ts, R, q⟩ := q
  exact ⟨c, F, e, ts, R, q.seq fun F1 H1 σ1 e1 ef R1 q1 => ⟨c, F1, e1, ts, R1, q1⟩⟩⟩
theorem ds_pass : DS X W (.Pass pos) snext := ⟨ps_weak ps_pass fun D σ H q => by
  obtain ⟨c, F, e, ts, R, q⟩ := q
  exact q.next R⟩
theorem ds_doc {x j p2} : DS X W (.Expr (.Constant (.str x) j pos) p2) snext := ⟨ps_weak ps_doc fun D σ H q => by
  obtain ⟨c, F, e, ts, R, q⟩ := q
  exact q.next R⟩
/-- what is not come to -/
theorem ds_never : DS X W st (fun _ => none) := ⟨ps_weak ps_never fun D σ H q => by
  obtain ⟨c, F, e, ts, R, r, hr, _⟩ := q
  cases hr⟩
theorem dss_never {sts : List Stmt} : DSs X W sts (fun _ => none) := ⟨pss_weak pss_never fun D σ H q => by
  obtain ⟨c, F, e, ts, R, r, hr, _⟩ := q
  cases hr⟩
theorem ds_break : DS X W (.Break pos) (fun e => some (.bk false e)) := ⟨ps_weak ps_break fun D σ H q => by
  obtain ⟨c, F, e, ts, R, r, hr, post⟩ := q
  cases hr
  exact post F H σ (Ex.refl _) (fun _ => Ex.refl _) R⟩
theorem ds_cont : DS X W (.Continue pos) (fun e => some (.ct false e)) := ⟨ps_weak ps_continue fun D σ H q => by
  obtain ⟨c, F, e, ts, R, r, hr, post⟩ := q
  cases hr
  exact post F H σ (Ex.refl _) (fun _ => Ex.refl _) R⟩
def sif (t : Den Bool) (a b : SDen) : SDen := sbind t fun k => if k then a else b
theorem ds_if {t : Expr} {dt : Den Bool} {a b : List Stmt} {da db : SDen} (h : DT X W t dt) (h1 : DSs X W a da) (h2 : DSs X W b db) : DS X W (.If t a b pos) (sif dt da db) := ⟨ps_weak (ps_if h.run h1.run h2.run) fun D σ H q => by
  obtain ⟨c, F, e, ts, R, q⟩ := q
  refine ⟨c, F, e, ts, R, q.sbind (rel := relB) fun F1 H1 e1 x v ef hr q1 => ?_⟩
  obtain ⟨R1, rfl⟩ := hr
  cases x with
  | true => exact ⟨c, F1, e1, ts, R1, q1⟩
  | false => exact ⟨c, F1, e1, ts, R1, q1⟩⟩
def srt (d : Den Rv) : SDen := sbind d fun rv e => some (.rt false e rv)
theorem ds_ret {de : Den Rv} (h : DE X W ex de) : DS X W (.Return (some ex) pos) (srt de) := ⟨ps_weak (ps_ret h.run) fun D σ H q => by
  obtain ⟨c, F, e, ts, R, q⟩ := q
  refine ⟨c, F, e, ts, R, q.sbind (rel := relR) fun F1 H1 e1 x v ef hr q1 => ?_⟩
  obtain ⟨r, hr2, post⟩ := q1
  cases hr2
  exact post F1 H1 σ v (Ex.refl _) (fun _ => Ex.refl _) hr⟩
theorem ds_retN : DS X W (.Return none pos) (fun e => some (.rt false e (.im .non))) := ⟨ps_weak ps_retN fun D σ H q => by
  obtain ⟨c, F, e, ts, R, r, hr, post⟩ := q
  cases hr
  exact post F H σ .non (Ex.refl _) (fun _ => Ex.refl _) ⟨R, rfl⟩⟩
def sdrop (d : Den Rv) : SDen := sbind d fun _ => snext
theorem ds_expr {de : Den Rv} (h : DE X W ex de) (hs : swapsWith ex none pos.line X.env = pure false := by rfl) : DS X W (.Expr ex pos) (sdrop de) := ⟨ps_weak (ps_expr h.run hs) fun D σ H q => by
  obtain ⟨c, F, e, ts, R, q⟩ := q
  refine ⟨c, F, e, ts, R, q.sbind (rel := relR) fun F1 H1 e1 x v ef hr q1 => ?_⟩
  cases x with
  | im d => exact q1.next hr.1
  | new o => exact q1.next (RE.drop hr)
  | bor i o => exact q1.next hr.1⟩
/-- a name takes a value -/
def sset (i : Nat) (d : Den Rv) : SDen := sbind d fun rv e => if e.free i = true then (match rv with
  | .im d => some (.nx false (e.set i (some (false, .im d))))
  | .new o => some (.nx false (e.set i (some (false, o))))
  | .bor j o => match e[j]? with
    | some (some (b, _)) => if Env.free (e.set j (some (b, .im o.flat))) i = true then some (.nx false ((e.set j (some (b, .im o.flat))).set i (some (false, .im o.flat)))) else none
    | _ => none) else none
theorem AtS.set {K : PySem.W.Frag} {c : Ctx} {F H : Hp} {σ : L2.St} {e : Env} {ts : List (V × O)} {D : Ends} {i : Nat} {de : Den Rv} (q : AtS K W (sset i de) D c F σ e ts H) : At relR K W de c F σ e ts H (fun x H1 => D.nx (σ.set i (some x)) H1) := by
  refine q.sbind (rel := relR) fun F1 H1 e1 rv v ef hr q1 => ?_
  obtain ⟨r, hr2, post⟩ := q1
  dsimp only at hr2
  split at hr2
  · rename_i hfree
    cases rv with
    | im d =>
      cases hr2
      exact post F1 H1 _ (Ex.refl _) (fun _ => Ex.refl _) (hr.1.setIm hfree hr.2)
    | new o =>
      cases hr2
      exact post F1 H1 _ (Ex.refl _) (fun _ => Ex.refl _) (RE.setO hr hfree)
    | bor j o =>
      obtain ⟨R1, hv, b, hb⟩ := hr
      dsimp only at hr2
      rw [hb] at hr2
      dsimp only at hr2
      split at hr2
      · rename_i hf2
        cases hr2
        obtain ⟨F2, v2, e2, hv2, R2, hrep⟩ := R1.freezeS hb
        rw [hv] at hv2
        cases hv2
        exact post F2 H1 _ e2 (fun _ => Ex.refl _) (R2.setIm hf2 hrep)
      · cases hr2
  · cases hr2
theorem ds_set {i : Nat} {x : Str} {pos' : Pos} {de : Den Rv} (hN : X.N.Nodup) (hi : X.N[i]? = some x) (hx : Loc X.env.scope x) (h : DE X W ex de) (hs : swapsWith ex (some (.Name x pos')) pos.line X.env = pure false := by rfl)
    (hf : X.fn x = true ∨ X.env.scope.names.lookup x = some .local := by first | exact .inl rfl | exact .inr rfl | assumption) : DS X W (.Assign [.Name x pos'] ex pos) (sset i de) := ⟨ps_weak (ps_set (i := i) hN hi hx h.run hs) fun D σ H q => by
  obtain ⟨c, F, e, ts, R, q⟩ := q
  exact ⟨c, F, e, ts, R, q.set⟩⟩
/-! ### targets -/
/-- what a store leaves: all slots but these -/
def Off (sl : List Nat) (σ σ' : L2.St) : Prop := σ'.length = σ.length ∧ ∀ j, j ∉ sl → σ'[j]? = σ[j]?
theorem Off.refl {sl : List Nat} {σ : L2.St} : Off sl σ σ := ⟨rfl, fun _ _ => rfl⟩
theorem Off.trans {s1 s2 : List Nat} {σ σ1 σ2 : L2.St} (h : Off s1 σ σ1) (h2 : Off s2 σ1 σ2) : Off (s1 ++ s2) σ σ2 :=
  ⟨h2.1.trans h.1, fun j hj => (h2.2 j fun z => hj (List.mem_append_right _ z)).trans (h.2 j fun z => hj (List.mem_append_left _ z))⟩
def tgR (K : PySem.W.Frag) (bind : D → Env → Option Env) (sl : List Nat) : TG := fun v σ H Q => ∃ c F e ts d e', RE K c F H σ e ts ∧ Rep K F d v ∧ bind d e = some e' ∧ ∀ σ', RE K c F H σ' e' ts → Off sl σ σ' → Q σ' H
structure DG (X : Cx) (tg : Expr) (bind : D → Env → Option Env) (sl : List Nat) : Prop where
  run : PG X tg (tgR X.K bind sl)
theorem pg_weak {tg : Expr} {t t' : TG} (h : PG X tg t) (k : ∀ v σ H Q, t' v σ H Q → t v σ H Q) : PG X tg t' := ⟨fun pins s σ H v u Q I r q => h.run pins s σ H v u Q I r (k v σ H Q q)⟩
def bName (i : Nat) : D → Env → Option Env := fun d e => if e.free i = true then some (e.set i (some (false, .im d))) else none
theorem dg_name {i : Nat} {x : Str} (hN : X.N.Nodup) (hi : X.N[i]? = some x) (hx : Loc X.env.scope x) (hf : X.fn x = true ∨ X.env.scope.names.lookup x = some .local := by first | exact .inl rfl | exact .inr rfl | assumption) : DG X (.Name x pos) (bName i) [i] :=
  ⟨pg_weak (pg_name hN hi hx hf) fun v σ H Q q => by
    obtain ⟨c, F, e, ts, d, e', R, hr, hb, k⟩ := q
    unfold bName at hb
    split at hb
    · rename_i hfree
      cases hb
      exact k _ (R.setIm hfree hr) ⟨by rw [List.length_set], fun j hj => List.getElem?_set_ne (fun z => hj (by rw [z]; exact List.mem_cons_self))⟩
    · cases hb⟩
def tgsR (K : PySem.W.Frag) (bind : List D → Env → Option Env) (sl : List Nat) : TGs := fun vs σ H Q => ∃ c F e tt ds e', RE K c F H σ e tt ∧ Reps K F ds vs ∧ bind ds e = some e' ∧ ∀ σ', RE K c F H σ' e' tt → Off sl σ σ' → Q σ' H
structure DGs (X : Cx) (ts : List Expr) (bind : List D → Env → Option Env) (sl : List Nat) : Prop where
  run : PGs X ts (tgsR X.K bind sl)
theorem pgs_weak {tg : List Expr} {t t' : TGs} (h : PGs X tg t) (k : ∀ v σ H Q, t' v σ H Q → t v σ H Q) : PGs X tg t' := ⟨fun pins s σ H v u Q I r q => h.run pins s σ H v u Q I r (k v σ H Q q)⟩
def bNil : List D → Env → Option Env := fun ds e => match ds with
  | [] => some e
  | _ => none
def bCons (b : D → Env → Option Env) (bs : List D → Env → Option Env) : List D → Env → Option Env := fun ds e => match ds with
  | d :: ds => (b d e).bind fun e' => bs ds e'
  | [] => none
theorem dgs_nil : DGs X [] bNil [] := ⟨pgs_weak pgs_nil fun vs σ H Q q => by
  obtain ⟨c, F, e, ts, ds, e', R, hr, hb, k⟩ := q
  cases ds with
  | nil =>
    cases hb
    exact ⟨hr, k σ R Off.refl⟩
  | cons d ds => cases hb⟩
theorem dgs_cons {tg : Expr} {tgs : List Expr} {b : D → Env → Option Env} {bs : List D → Env → Option Env} {s1 s2 : List Nat} (h : DG X tg b s1) (h2 : DGs X tgs bs s2) (hs : (assignEach (tg :: tgs) X.env).map (·.2) = assign tg X.env :: (assignEach tgs X.env).map (·.2) := by rfl) :
    DGs X (tg :: tgs) (bCons b bs) (s1 ++ s2) := ⟨pgs_weak (pgs_cons h.run h2.run hs) fun vs σ H Q q => by
  obtain ⟨c, F, e, ts, ds, e', R, hr, hb, k⟩ := q
  cases ds with
  | nil => cases hb
  | cons d ds =>
    obtain ⟨x, r, e1, h1, h2⟩ := hr
    obtain ⟨e2, hb1, hb2⟩ := Option.bind_eq_some_iff.mp hb
    exact ⟨x, r, e1, c, F, e, ts, d, e2, R, h1, hb1, fun σ' R' o' => ⟨c, F, e2, ts, ds, e', R', h2, hb2, fun σ2 R2 o2 => k σ2 R2 (o'.trans o2)⟩⟩⟩
def bTup (n : Nat) (bs : List D → Env → Option Env) : D → Env → Option Env := fun d e => match d with
  | .tup ds => if ds.length = n then bs ds e else none
  | .wtp ds => if ds.length = n then bs ds e else none
  | _ => none
theorem dg_tup {es : List Expr} {k n : Nat} {bs : List D → Env → Option Env} {sl : List Nat} (hc : X.calm = true) (h : DGs X es bs sl) (hn : (assignEach es X.env).length = n := by rfl) (hst : (assignEach es X.env).findIdx? (·.1) = none := by rfl) :
    DG X (.Tuple es k pos) (bTup n bs) sl := ⟨pg_weak (pg_tup hc h.run hn hst) fun v σ H Q q => by
  obtain ⟨c, F, e, ts, d, e', R, hr, hb, k⟩ := q
  cases d with
  | tup ds =>
    obtain ⟨a, xs, rfl, h1, h2⟩ := hr
    unfold bTup at hb
    dsimp only at hb
    split at hb
    · rename_i hz
      exact ⟨a, xs, rfl, SqT.of (R.fh _ _ h1), by rw [← h2.length]; exact hz, c, F, e, ts, ds, e', R, h2, hb, k⟩
    · cases hb
  | wtp ds =>
    obtain ⟨a, xs, rfl, h1, h2⟩ := hr
    unfold bTup at hb
    dsimp only at hb
    split at hb
    · rename_i hz
      exact ⟨a, xs, rfl, ex_t R.fh h1, by rw [← h2.length]; exact hz, c, F, e, ts, ds, e', R, h2, hb, k⟩
    · cases hb
  | _ => cases hb⟩
/-- target = value, frozen -/
def sasg (b : D → Env → Option Env) (d : Den D) : SDen := sbind d fun x e => (b x e).map fun e' => SRes.nx false e'
theorem ds_asg {tg : Expr} {b : D → Env → Option Env} {sl : List Nat} {de : Den D} (h : DI X W ex de) (hg : DG X tg b sl) (hs : swapsWithSole [tg] ex pos.line X.env = pure false := by rfl) (hw : swappedStores [tg] ex X.env = pure none := by rfl)
    (h1 : (assignEach [tg] X.env).map (·.2) = [assign tg X.env] := by rfl) : DS X W (.Assign [tg] ex pos) (sasg b de) := ⟨ps_weak (ps_asg h.run hg.run hs hw h1) fun D σ H q => by
  obtain ⟨c, F, e, ts, R, q⟩ := q
  refine ⟨c, F, e, ts, R, q.sbind (rel := relI) fun F1 H1 e1 x v ef hr q1 => ?_⟩
  obtain ⟨r, hr2, post⟩ := q1
  obtain ⟨e2, hb, he2⟩ := Option.map_eq_some_iff.mp hr2
  subst he2
  exact ⟨c, F1, e1, ts, x, e2, hr.1, hr.2, hb, fun σ' R' _ => post F1 H1 σ' (Ex.refl _) (fun _ => Ex.refl _) R'⟩⟩
end
end DL

/-! DLE: defs as functions of data; calls. -/
namespace DL
open PySem PySem.Spec PyProof.Rows L2 Evl

inductive FRv where
  | im (d : D) | new (o : O)
inductive FRes where
  | ok (m : Bool) (os : List O) (r : FRv)
  | err (m : Bool) (os : List O) (x : Xn)
abbrev FDen := List O → Option FRes
def frvs : FRv → V → List (V × O)
  | .im _, _ => []
  | .new o, v => [(v, o)]
def FRep (K : PySem.W.Frag) (F : Hp) : FRv → V → Prop
  | .im d, v => Rep K F d v
  | .new _, _ => True
def PostF (K : PySem.W.Frag) (F H : Hp) (fs : List Addr) (Q : VK) (E : XK) (vs : List V) : FRes → Prop
  | .ok m os' rv => ∀ F' H' v fs', Ex F F' → Ex F' H' → (m = false → Ex H H') → (∀ p u, p ∉ fs → H p = some u → H' p = some u) → (∀ p, F' p ≠ none → F p ≠ none ∨ H p = none ∨ p ∈ fs) → FRep K F' rv v →
      Held K F' H' (frvs rv v ++ vs.zip os') fs' → fs'.Nodup → (∀ p ∈ fs', F' p = none ∧ (p ∈ fs ∨ H p = none)) → Q v H'
  | .err m os' x => ∀ F' H' cls d fs', Ex F F' → Ex F' H' → (m = false → Ex H H') → (∀ p u, p ∉ fs → H p = some u → H' p = some u) → (∀ p, F' p ≠ none → F p ≠ none ∨ H p = none ∨ p ∈ fs) → XRel K F' H' x cls d →
      Held K F' H' (vs.zip os') fs' → fs'.Nodup → (∀ p ∈ fs', F' p = none ∧ (p ∈ fs ∨ H p = none)) → E cls d H'
def spD (K : PySem.W.Frag) (n : Nat) (f : FDen) : Sp := fun vs H Q E => vs.length = n ∧ ∃ F os fs r, os.length = n ∧ Held K F H (vs.zip os) fs ∧ fs.Nodup ∧ (∀ p ∈ fs, F p = none) ∧ Ex F H ∧ f os = some r ∧ PostF K F H fs Q E vs r
@[simp] def slot0 : O → Slot
  | .im d => some (false, .im d)
  | o => some (true, o)
def env0 (os : List O) (n : Nat) : Env := os.map slot0 ++ List.replicate (n - os.length) none
def outs : List O → Env → Option (List O)
  | [], _ => some []
  | .im d :: os, _ :: e => (outs os e).map fun r => O.im d :: r
  | _ :: os, some (true, o') :: e => (outs os e).map fun r => o' :: r
  | _, _ => none
def fnden (n : Nat) (den : SDen) : FDen := fun os => match den (env0 os n) with
  | some (.nx m e) => (outs os e).map fun os' => .ok m os' (.im .non)
  | some (.rt m e (.im d)) => (outs os e).map fun os' => .ok m os' (.im d)
  | some (.rt m e (.new o)) => (outs os e).map fun os' => .ok m os' (.new o)
  | some (.rt m e (.bor i o)) => match e[i]? with
    | some (some (false, _)) => (outs os (e.set i none)).map fun os' => .ok m os' (.new o)
    | _ => none
  | some (.er m e x) => (outs os e).map fun os' => .err m os' x
  | _ => none
section
variable {K : PySem.W.Frag} {c : Ctx} {F F' H H' : Hp} {σ : L2.St} {e : Env} {ts : List (V × O)}
theorem slot0_eq (o : O) : ∃ b, slot0 o = some (b, o) := by
  cases o <;> exact ⟨_, rfl⟩
theorem slots_none : ∀ (n : Nat) (σ0 : L2.St), Slots (List.replicate n none) (List.replicate n none) σ0 []
  | 0, σ0 => ⟨rfl, rfl⟩
  | n + 1, σ0 => ⟨none, _, rfl, slots_none n _⟩
theorem slots_start : ∀ (vs : List V) (os : List O) (n : Nat) (τ : L2.St), vs.length = os.length → Slots (os.map slot0 ++ List.replicate n none) (vs.map some ++ List.replicate n none) (vs.map some ++ τ) (vs.zip os)
  | [], [], n, τ, _ => slots_none n _
  | v :: vs, o :: os, n, τ, h => by
    obtain ⟨b, hb⟩ := slot0_eq o
    have ih := slots_start vs os n τ (by simpa using h)
    show Slots (slot0 o :: _) (some v :: _) (some v :: _) ((v, o) :: _)
    rw [hb]
    exact ⟨v, _, _, rfl, fun _ => rfl, rfl, ih⟩
  | [], _ :: _, _, _, h => by simp at h
  | _ :: _, [], _, _, h => by simp at h
/-- a slot's holding, taken out -/
theorem RE.take {i : Nat} {o : O} {v : V} (R : RE K c F H σ e ts) (h : e[i]? = some (some (false, o))) (hv : σ[i]? = some (some v)) : RE K c F H σ (e.set i none) ((v, o) :: ts) := by
  obtain ⟨hs, fs, h1, h2, h3, h4⟩ := R.hd
  obtain ⟨v', A, B, k1, k2, _, _⟩ := h1.at i h
  rw [hv] at k2
  cases k2
  have hfree : e.free i = true := by unfold Env.free; rw [h]; rfl
  obtain ⟨A', M, B', k3, _, k5⟩ := h1.put i hfree
  have hset : σ.set i (some v) = σ := by
    have hl : i < σ.length := (List.getElem?_eq_some_iff.mp hv).1
    have := (List.getElem?_eq_some_iff.mp hv).2
    rw [← this]
    exact List.set_getElem_self hl
  have k5' := k5 (some v)
  rw [hset] at k5'
  -- the split is at the same place
  have key : ∀ (e : Env) (σ σ0 : L2.St) (hs : List (V × O)) (i : Nat), Slots e σ σ0 hs → e[i]? = some (some (false, o)) → σ[i]? = some (some v) → ∃ A B, hs = A ++ (v, o) :: B ∧ Slots (e.set i none) σ σ0 (A ++ B) := by
    intro e
    induction e with
    | nil => intro σ σ0 hs i _ he; simp at he
    | cons s e ih =>
      intro σ σ0 hs i hsl he hvv
      cases i with
      | zero =>
        have es : s = some (false, o) := by simpa using he
        subst es
        obtain ⟨w, r, hr, e1, hb, e2, h5⟩ := hsl
        subst e1
        have : w = v := by simpa using hvv
        subst this
        exact ⟨[], hr, e2, some w, r, rfl, h5⟩
      | succ i =>
        cases s with
        | none =>
          obtain ⟨x, r, e1, h5⟩ := hsl
          subst e1
          obtain ⟨A, B, q1, q2⟩ := ih _ _ _ i h5 (by simpa using he) (by simpa using hvv)
          exact ⟨A, B, q1, x, r, rfl, q2⟩
        | some q =>
          obtain ⟨w, r, hr, e1, hb, e2, h5⟩ := hsl
          subst e1
          obtain ⟨A, B, q1, q2⟩ := ih _ _ _ i h5 (by simpa using he) (by simpa using hvv)
          exact ⟨(w, q.2) :: A, B, by rw [e2, q1]; rfl, w, r, _, rfl, hb, rfl, q2⟩
  obtain ⟨A2, B2, q1, q2⟩ := key e σ c.σ0 hs i h1 h hv
  subst q1
  rw [← List.append_assoc] at h2
  obtain ⟨f1, f2, e1, h5, h6⟩ := h2.split
  obtain ⟨g0, g2, e2, h7, h8⟩ := h6
  subst e2
  subst e1
  obtain ⟨g1, g3, e3, h9, h10⟩ := h5.split
  subst e3
  refine ⟨R.g, R.f0, R.fh, R.nw, A2 ++ B2, g0 ++ (g1 ++ (g3 ++ g2)), q2, ⟨g0, _, rfl, h7, Held.join h9 (Held.join h10 h8)⟩, ?_, fun p hp => h4 p ?_⟩
  · have hp : (g0 ++ (g1 ++ (g3 ++ g2))).Perm (g1 ++ g3 ++ (g0 ++ g2)) := by
      rw [show g0 ++ (g1 ++ (g3 ++ g2)) = (g0 ++ (g1 ++ g3)) ++ g2 by simp, show g1 ++ g3 ++ (g0 ++ g2) = ((g1 ++ g3) ++ g0) ++ g2 by simp]
      exact List.Perm.append_right g2 List.perm_append_comm
    exact hp.nodup_iff.mpr h3
  · rcases List.mem_append.mp hp with z | z
    · exact List.mem_append_right _ (List.mem_append_left _ z)
    · rcases List.mem_append.mp z with z | z
      · exact List.mem_append_left _ (List.mem_append_left _ z)
      · rcases List.mem_append.mp z with z | z
        · exact List.mem_append_left _ (List.mem_append_right _ z)
        · exact List.mem_append_right _ (List.mem_append_right _ z)
theorem outs_ok (ef : Ex F F') : ∀ (os : List O) (vs : List V) (e : Env) (σ σ0 : L2.St) (hs : List (V × O)) (fs fz : List Addr) (os' : List O), Slots e σ σ0 hs → Held K F' H' hs fs → vs.length = os.length →
    (∀ (i : Nat) (v : V), vs[i]? = some v → σ0[i]? = some (some v)) → Held K F H (vs.zip os) fz → outs os e = some os' → os'.length = os.length ∧ ∃ fs1, Held K F' H' (vs.zip os') fs1 ∧ fs1.Sublist fs
  | [], [], e, σ, σ0, hs, fs, fz, os', h1, h2, hl, h0, hz, ho => by
    cases e <;> (cases ho; exact ⟨rfl, [], rfl, List.nil_sublist _⟩)
  | o :: os, v :: vs, [], σ, σ0, hs, fs, fz, os', h1, h2, hl, h0, hz, ho => by
    cases o <;> cases ho
  | o :: os, v :: vs, s :: e, σ, σ0, hs, fs, fz, os', h1, h2, hl, h0, hz, ho => by
    obtain ⟨z1, z2, _, hz1, hz2⟩ := hz
    -- the rest of the slots
    have rest : ∃ (σ1 : L2.St) (hs1 : List (V × O)) (f1 f2 : List Addr), Slots e σ1 σ0.tail hs1 ∧ fs = f1 ++ f2 ∧ Held K F' H' hs1 f2 ∧ (∀ b o', s = some (b, o') → ∃ w, (b = true → σ0.head? = some (some w)) ∧ Own K F' H' o' w f1) := by
      cases s with
      | none =>
        obtain ⟨x, r, e1, h3⟩ := h1
        exact ⟨r, hs, [], fs, h3, rfl, h2, fun b o' z => by cases z⟩
      | some q =>
        obtain ⟨w, r, hr, e1, hb, e2, h3⟩ := h1
        subst e2
        obtain ⟨f1, f2, e3, h4, h5⟩ := h2
        exact ⟨r, hr, f1, f2, h3, e3, h5, fun b o' z => by
          cases z
          exact ⟨w, hb, h4⟩⟩
    obtain ⟨σ1, hs1, f1, f2, h3, e3, h4, hown⟩ := rest
    subst e3
    have h0' : ∀ (i : Nat) (v : V), vs[i]? = some v → σ0.tail[i]? = some (some v) := fun i w hw => by
      have := h0 (i + 1) w (by simpa using hw)
      cases σ0 with
      | nil => simp at this
      | cons a b => simpa using this
    have hv0 : σ0.head? = some (some v) := by
      have := h0 0 v rfl
      cases σ0 with
      | nil => simp at this
      | cons a b => simpa using this
    have own_case : ∀ (hb : ∃ o', s = some (true, o') ∧ (outs os e).map (fun r => o' :: r) = some os'), os'.length = (o :: os).length ∧ ∃ fs1, Held K F' H' ((v :: vs).zip os') fs1 ∧ fs1.Sublist (f1 ++ f2) := by
      rintro ⟨o', es, hm⟩
      obtain ⟨r, hr, e5⟩ := Option.map_eq_some_iff.mp hm
      subst e5
      obtain ⟨l1, g, hg, hsub⟩ := outs_ok ef os vs e σ1 σ0.tail hs1 f2 z2 r h3 h4 (by simpa using hl) h0' hz2 hr
      obtain ⟨w, hw, how⟩ := hown true o' es
      have := hw rfl
      rw [hv0] at this
      cases this
      exact ⟨by rw [List.length_cons, List.length_cons, l1], f1 ++ g, ⟨f1, g, rfl, how, hg⟩, List.Sublist.append_left hsub f1⟩
    cases o with
    | im d =>
      obtain ⟨r, hr, e5⟩ := Option.map_eq_some_iff.mp (show (outs os e).map (fun r => O.im d :: r) = some os' from ho)
      subst e5
      obtain ⟨l1, g, hg, hsub⟩ := outs_ok ef os vs e σ1 σ0.tail hs1 f2 z2 r h3 h4 (by simpa using hl) h0' hz2 hr
      exact ⟨by rw [List.length_cons, List.length_cons, l1], g, ⟨[], g, rfl, ⟨rfl, Rep.mono ef _ _ hz1.2⟩, hg⟩, hsub.trans (List.sublist_append_right f1 f2)⟩
    | lst os2 => cases s with
      | none => cases ho
      | some q => obtain ⟨b, o'⟩ := q; cases b with
        | false => cases ho
        | true => exact own_case ⟨o', rfl, ho⟩
    | tup os2 => cases s with
      | none => cases ho
      | some q => obtain ⟨b, o'⟩ := q; cases b with
        | false => cases ho
        | true => exact own_case ⟨o', rfl, ho⟩
    | dct ks os2 => cases s with
      | none => cases ho
      | some q => obtain ⟨b, o'⟩ := q; cases b with
        | false => cases ho
        | true => exact own_case ⟨o', rfl, ho⟩
    | ins C ns os2 => cases s with
      | none => cases ho
      | some q => obtain ⟨b, o'⟩ := q; cases b with
        | false => cases ho
        | true => exact own_case ⟨o', rfl, ho⟩
  | [], v :: vs, e, σ, σ0, hs, fs, fz, os', h1, h2, hl, h0, hz, ho => by simp at hl
  | o :: os, [], e, σ, σ0, hs, fs, fz, os', h1, h2, hl, h0, hz, ho => by simp at hl
end
/-- THE RULE for a def: what its body's denotation says, it does -/
theorem fn_okD {P : Program} {w : World} {K : PySem.W.Frag} {mg : Str → Option Value} {base : Heap} {x qual : Str} {st : Stmt} {f : Addr} {fd : FuncData} {N ps : List Str} {k : Nat} {den : SDen} (Fn : Fun K x qual st f fd) (S : FnScope N ps (defScope st))
    (hb : ∀ (cdv : Value) (A : Around) (outer : List PySem.Env) (s : Shared) (H : Hp) (E : XK), Room k (A.deeper (envOfC qual (defScope st) s.heap.objs.size f cdv)) →
      DSs (cxOf (L2.CX P w) P w K mg base N qual (defScope st) f cdv A outer s H E) (fun cls d _ H' => E cls d H') (defBody st) den) :
    FnOk P w K mg base (L2.CX P w) (k + 1) f fd ps (spD K ps.length (fnden N.length den)) := by
  refine Fn.okX S (fun vs H Q E h => h.1) (fun cdv A outer s H vs Q E hr h => ?_)
  refine ⟨rdS K (fun cls d _ H' => E cls d H') den, (hb cdv A outer s H E hr).run, ?_⟩
  obtain ⟨hl, F, os, fs, r, hlo, hh, nd, fr, ef, hf, post⟩ := h
  have hlv : vs.length = os.length := hl.trans hlo.symm
  have hN : ps.length ≤ N.length := by
    have := congrArg List.length S.pre
    rw [List.length_take] at this
    omega
  have hst : L2.start N vs = vs.map some ++ List.replicate (N.length - os.length) none := by rw [← hlv]; rfl
  let c : Ctx := ⟨fun p => if p ∈ fs then none else H p, F, L2.start N vs⟩
  have gin : ∀ p, p ∈ fs → c.G p = none := fun p hp => if_pos hp
  have gout : ∀ p, p ∉ fs → c.G p = H p := fun p hp => if_neg hp
  have R : RE K c F H (L2.start N vs) (env0 os N.length) [] := by
    refine ⟨fun p u z => ?_, Ex.refl _, ef, fun p hp => .inl hp, vs.zip os, fs, ?_, hh, nd, fun p hp => ⟨fr p hp, gin p hp⟩⟩
    · by_cases hp : p ∈ fs
      · rw [gin p hp] at z
        cases z
      · rw [gout p hp] at z
        exact z
    · show Slots _ (L2.start N vs) (L2.start N vs) _
      rw [hst]
      exact slots_start vs os _ _ hlv
  have hσ0 : ∀ (i : Nat) (v : V), vs[i]? = some v → (L2.start N vs)[i]? = some (some v) := fun i v hv => by
    have hi : i < vs.length := (List.getElem?_eq_some_iff.mp hv).1
    unfold L2.start
    rw [List.getElem?_append_left (by rw [List.length_map]; exact hi), List.getElem?_map, hv]
    rfl
  -- what a state at the end says
  have fin : ∀ {F' H' : Hp} {σ' : L2.St} {e' : Env} {ts : List (V × O)} {os' : List O}, RE K c F' H' σ' e' ts → Ex F F' → outs os e' = some os' →
      Ex F' H' ∧ (∀ p u, p ∉ fs → H p = some u → H' p = some u) ∧ (∀ p, F' p ≠ none → F p ≠ none ∨ H p = none ∨ p ∈ fs) ∧ ∃ fs', Held K F' H' (ts ++ vs.zip os') fs' ∧ fs'.Nodup ∧ ∀ p ∈ fs', F' p = none ∧ (p ∈ fs ∨ H p = none) := by
    intro F' H' σ' e' ts os' R' ef' ho
    refine ⟨R'.fh, fun p u hp z => R'.g p u ((gout p hp).trans z), fun p hp => ?_, ?_⟩
    · rcases R'.nw p hp with z | z
      · exact .inl z
      · by_cases hp2 : p ∈ fs
        · exact .inr (.inr hp2)
        · rw [gout p hp2] at z
          exact .inr (.inl z)
    · obtain ⟨hs, ff, h1, h2, h3, h4⟩ := R'.hd
      obtain ⟨f1, f2, e1, h5, h6⟩ := h2.split
      obtain ⟨_, g, hg, hsub⟩ := outs_ok ef' os vs e' σ' (L2.start N vs) hs f2 fs os' h1 h6 hlv hσ0 hh ho
      subst e1
      have sub2 : (f1 ++ g).Sublist (f1 ++ f2) := List.Sublist.append_left hsub f1
      refine ⟨f1 ++ g, Held.join h5 hg, h3.sublist sub2, fun p hp => ?_⟩
      obtain ⟨q1, q2⟩ := h4 p (sub2.subset hp)
      refine ⟨q1, ?_⟩
      by_cases hp2 : p ∈ fs
      · exact .inl hp2
      · rw [gout p hp2] at q2
        exact .inr q2
  refine ⟨c, F, env0 os N.length, [], R, ?_⟩
  unfold fnden at hf
  cases hd : den (env0 os N.length) with
  | none => rw [hd] at hf; cases hf
  | some q =>
    rw [hd] at hf
    refine ⟨q, hd, ?_⟩
    cases q with
    | nx m e1 =>
      obtain ⟨os', ho, e2⟩ := Option.map_eq_some_iff.mp hf
      subst e2
      intro F' H' σ' ef' eh' R'
      obtain ⟨a1, a2, a3, fs', a4, a5, a6⟩ := fin R' ef' ho
      exact post F' H' .non fs' ef' a1 eh' a2 a3 rfl a4 a5 a6
    | rt m e1 rv =>
      cases rv with
      | im d =>
        obtain ⟨os', ho, e2⟩ := Option.map_eq_some_iff.mp hf
        subst e2
        intro F' H' σ' v ef' eh' R'
        obtain ⟨a1, a2, a3, fs', a4, a5, a6⟩ := fin R'.1 ef' ho
        exact post F' H' v fs' ef' a1 eh' a2 a3 R'.2 a4 a5 a6
      | new o =>
        obtain ⟨os', ho, e2⟩ := Option.map_eq_some_iff.mp hf
        subst e2
        intro F' H' σ' v ef' eh' R'
        obtain ⟨a1, a2, a3, fs', a4, a5, a6⟩ := fin (ts := [(v, o)]) R' ef' ho
        exact post F' H' v fs' ef' a1 eh' a2 a3 True.intro a4 a5 a6
      | bor i o =>
        dsimp only at hf
        cases he : e1[i]? with
        | none => rw [he] at hf; cases hf
        | some s =>
          rw [he] at hf
          cases s with
          | none => cases hf
          | some s =>
            obtain ⟨b, o1⟩ := s
            cases b with
            | true => cases hf
            | false =>
              obtain ⟨os', ho, e2⟩ := Option.map_eq_some_iff.mp hf
              subst e2
              intro F' H' σ' v ef' eh' R'
              obtain ⟨R2, hv, b, hb⟩ := R'
              rw [he] at hb
              cases hb
              obtain ⟨a1, a2, a3, fs', a4, a5, a6⟩ := fin (ts := [(v, o)]) (R2.take he hv) ef' ho
              exact post F' H' v fs' ef' a1 eh' a2 a3 True.intro a4 a5 a6
    | bk m e1 => cases hf
    | ct m e1 => cases hf
    | er m e1 x =>
      obtain ⟨os', ho, e2⟩ := Option.map_eq_some_iff.mp hf
      subst e2
      intro F' H' σ' cls d ef' eh' R' hx
      obtain ⟨a1, a2, a3, fs', a4, a5, a6⟩ := fin R' ef' ho
      exact post F' H' cls d fs' ef' a1 eh' a2 a3 hx a4 a5 a6

/-! ### calls -/
/-- a def's denotation at frozen arguments, as an expression's -/
def dfn (f : FDen) (ds : List D) : Den Rv := fun e => match f (ds.map O.im) with
  | some (.ok _ _ (.im d)) => some (.ok false e (.im d))
  | some (.ok _ _ (.new o)) => some (.ok false e (.new o))
  | some (.err _ _ x) => some (.err false e x)
  | none => none
section
variable {K : PySem.W.Frag} {c : Ctx} {F F' H H' : Hp} {σ : L2.St} {e : Env} {ts : List (V × O)}
theorem held_im : ∀ {ds : List D} {vs : List V}, Reps K F ds vs → Held K F H (vs.zip (ds.map O.im)) []
  | [], vs, h => by rw [show vs = [] from h]; rfl
  | d :: ds, vs, h => by
    obtain ⟨x, r, rfl, h1, h2⟩ := h
    exact ⟨[], [], rfl, ⟨rfl, h1⟩, held_im h2⟩
/-- behind a call of frozen arguments: a new thing is a temporary -/
theorem RE.called {v : V} {o : O} {fs : List Addr} (R : RE K c F H σ e ts) (ef : Ex F F') (eh : Ex H H') (fh : Ex F' H') (fr : Fresh F H F') (ho : Own K F' H' o v fs) (nd : fs.Nodup) (hn : ∀ p ∈ fs, F' p = none ∧ H p = none) :
    RE K c F' H' σ e ((v, o) :: ts) := by
  have R' := R.grow ef eh fh fr
  obtain ⟨hs0, fs0, h10, h20, h30, h40⟩ := R.hd
  obtain ⟨r1, r2, r3, r4, hs, fs1, h1, h2, h3, h4⟩ := R'
  have th : ∀ p ∈ fs0, H p ≠ none := Held.there h20
  have ff : ∀ p ∈ fs0, F' p = none := fun p hp => by
    cases q : F' p with
    | none => rfl
    | some u =>
      rcases fr p (by rw [q]; simp) with z | z
      · exact absurd (h40 p hp).1 z
      · exact absurd z (th p hp)
  refine ⟨r1, r2, r3, r4, hs0, fs ++ fs0, h10, ⟨fs, fs0, rfl, ho, Held.mono ef (fun q _ w z => eh q w z) h20⟩, List.nodup_append.mpr ⟨nd, h30, fun a ha b hb z => ?_⟩, fun p hp => ?_⟩
  · subst z
    exact th a hb (hn a ha).2
  · rcases List.mem_append.mp hp with z | z
    · exact ⟨(hn p z).1, none_of_ex R.g (hn p z).2⟩
    · exact ⟨ff p z, (h40 p z).2⟩
theorem held_frvs {rv : FRv} {v : V} {vs : List V} {os : List O} {fs : List Addr} (h : Held K F' H' (frvs rv v ++ vs.zip os) fs) : match rv with
    | .im _ => True
    | .new o => ∃ f1, Own K F' H' o v f1 ∧ f1.Sublist fs := by
  cases rv with
  | im d => exact True.intro
  | new o =>
    obtain ⟨f1, f2, e1, h1, _⟩ := h
    exact ⟨f1, h1, by rw [e1]; exact List.sublist_append_left f1 f2⟩
/-- the wish of a called def, from what follows -/
theorem spD_of {W : WX} {n : Nat} {f : FDen} {ds : List D} {vs : List V} {Q : VK} (R : RE K c F H σ e ts) (hr : Reps K F ds vs) (hn : ds.length = n) (q : At relR K W (dfn f ds) c F σ e ts H Q) : spD K n f vs H Q (fun cls d H' => W cls d σ H') := by
  obtain ⟨r, hr2, post⟩ := q
  unfold dfn at hr2
  refine ⟨hr.length.symm.trans hn, F, ds.map O.im, [], ?_⟩
  cases hf : f (ds.map O.im) with
  | none => rw [hf] at hr2; cases hr2
  | some fr =>
    rw [hf] at hr2
    refine ⟨fr, by rw [List.length_map]; exact hn, held_im hr, List.nodup_nil, fun p hp => (nomatch hp), R.fh, rfl, ?_⟩
    cases fr with
    | ok m os rv =>
      intro F' H' v fs' ef fh _ keep fr hrep hh nd hfs
      have eh : Ex H H' := fun p u z => keep p u (fun q => nomatch q) z
      have fresh : Fresh F H F' := fun p hp => by
        rcases fr p hp with z | z | z
        · exact .inl z
        · exact .inr z
        · cases z
      cases rv with
      | im d =>
        cases hr2
        exact post F' H' v ef (fun _ => eh) ⟨R.grow ef eh fh fresh, hrep⟩
      | new o =>
        cases hr2
        obtain ⟨f1, h1, hsub⟩ := held_frvs hh
        refine post F' H' v ef (fun _ => eh) (R.called ef eh fh fresh h1 (nd.sublist hsub) fun p hp => ?_)
        obtain ⟨z1, z2⟩ := hfs p (hsub.subset hp)
        rcases z2 with z2 | z2
        · cases z2
        · exact ⟨z1, z2⟩
    | err m os x =>
      cases hr2
      intro F' H' cls d fs' ef fh _ keep fr hx hh nd hfs
      have eh : Ex H H' := fun p u z => keep p u (fun q => nomatch q) z
      exact post F' H' cls d ef (fun _ => eh) (R.grow ef eh fh fun p hp => by
        rcases fr p hp with z | z | z
        · exact .inl z
        · exact .inr z
        · cases z) hx
end
section
variable {X : Cx} {W : WX} {a : Expr} {es : List Expr} {pos p : Pos} {x : Str} {k : Nat} {f C : Addr} {fd : FuncData} {ps : List Str} {fn : FDen} {ds : Den (List D)}
def dcall (n : Nat) (f : FDen) (ds : Den (List D)) : Den Rv := dbind ds fun vs => if vs.length = n then dfn f vs else fun _ => none
/-- f(a, ..): a def called, its arguments frozen -/
theorem de_callI {n : Nat} (Fn : FnOk X.prog X.w X.K X.mg X.base (L2.CX X.prog X.w) k f fd ps (spD X.K n fn)) (tk : Takes X W) (hr : Room k X.A) (hg : Gl X x) (hm : X.mg x = some (.ref f)) (hk : PySem.W.keepIn X.K (.ref f) = true) (hb : Binds X.K fd ps [])
    (ha : DA X W (a :: es) ds) (hdb : (x == ("__debug__" : Str)) = false := by decide) (he : starEach (a :: es) X.env = (false, eval a X.env) :: starEach es X.env := by rfl) (hpl : (backTo pos (starEach es X.env)).any (·.1) = false := by rfl) :
    DE X W (.Call (.Name x p) (a :: es) [] pos) (dcall n fn ds) := ⟨pe_weak (pe_callS Fn hr hg hm hk hb (fun σ => passAt tk σ) ha.run hdb he hpl) fun σ H Q q => by
  obtain ⟨c, F, e, ts, R, q⟩ := q
  refine ⟨c, F, e, ts, R, q.bind (rel := relA) fun F1 H1 e1 dl v ef hr1 q1 => ?_⟩
  split at q1
  · rename_i hz
    exact spD_of hr1.1 hr1.2 hz q1
  · obtain ⟨r, hr2, _⟩ := q1
    cases hr2⟩
/-- a new instance: __init__ is handed the empty one -/
def dmake (C : Addr) (n : Nat) (f : FDen) (ds : List D) : Den Rv := fun e => if ds.length + 1 = n then (match f (.ins C [] [] :: ds.map O.im) with
  | some (.ok _ (o :: _) (.im .non)) => some (.ok false e (.new o))
  | some (.err _ _ x) => some (.err false e x)
  | _ => none) else none
theorem ex_made {H : Hp} {x dx C : Addr} (hx : H x = none) (hdx : H dx = none) : Ex H (upd (upd H dx (.own x)) x (.ins C dx [])) := fun p u z => by
  rw [upd_ne (ne_of_none z hx), upd_ne (ne_of_none z hdx)]
  exact z
theorem spD_make {K : PySem.W.Frag} {c : Ctx} {F H : Hp} {σ : L2.St} {e : Env} {ts : List (V × O)} {n : Nat} {f : FDen} {ds : List D} {vs : List V} {Q : VK} {C : Addr} (R : RE K c F H σ e ts) (hr : Reps K F ds vs) (q : At relR K W (dmake C n f ds) c F σ e ts H Q) (x dx : Addr) (hx : H x = none) (hdx : H dx = none) :
    spD K n f (.ref x :: vs) (upd (upd H dx (.own x)) x (.ins C dx [])) (fun v H2 => v = .non ∧ Q (.ref x) H2) (fun cls d H' => W cls d σ H') := by
  obtain ⟨r, hr2, post⟩ := q
  unfold dmake at hr2
  split at hr2
  · rename_i hn
    have em := ex_made (C := C) hx hdx
    refine ⟨by rw [List.length_cons, ← hr.length]; exact hn, F, .ins C [] [] :: ds.map O.im, [x], ?_⟩
    cases hf : f (.ins C [] [] :: ds.map O.im) with
    | none => rw [hf] at hr2; cases hr2
    | some fr =>
      rw [hf] at hr2
      refine ⟨fr, by rw [List.length_cons, List.length_map]; exact hn, ⟨[x], [], rfl, ⟨x, dx, [], [], rfl, rfl, upd_same, rfl, ⟨rfl, rfl⟩⟩, held_im hr⟩, List.nodup_cons.mpr ⟨fun z => (nomatch z), List.nodup_nil⟩, fun p hp => ?_, R.fh.trans em, rfl, ?_⟩
      · have e1 : p = x := by simpa using hp
        subst e1
        exact none_of_ex R.fh hx
      · -- what is new in the made heap is new
        have keepH : ∀ {H' : Hp}, (∀ p u, p ∉ [x] → (upd (upd H dx (.own x)) x (.ins C dx [])) p = some u → H' p = some u) → Ex H H' := fun keep p u z => keep p u (fun hm => by
          have e1 : p = x := by simpa using hm
          subst e1
          rw [hx] at z
          cases z) (em p u z)
        have freshH : ∀ {F' : Hp}, (∀ p, F' p ≠ none → F p ≠ none ∨ (upd (upd H dx (.own x)) x (.ins C dx [])) p = none ∨ p ∈ [x]) → Fresh F H F' := fun fr p hp => by
          rcases fr p hp with z | z | z
          · exact .inl z
          · exact .inr (none_of_ex em z)
          · have e1 : p = x := by simpa using z
            subst e1
            exact .inr hx
        cases fr with
        | ok m os rv =>
          cases os with
          | nil => cases hr2
          | cons o os =>
            cases rv with
            | new o' => cases hr2
            | im d =>
              cases d with
              | non =>
                cases hr2
                intro F' H' v fs' ef fh _ keep fr hrep hh nd hfs
                refine ⟨hrep, ?_⟩
                obtain ⟨f1, f2, e1, h1, _⟩ := hh
                subst e1
                exact post F' H' (.ref x) ef (fun _ => keepH keep) (R.called ef (keepH keep) fh (freshH fr) h1 (List.nodup_append.mp nd).1 fun p hp => by
                  obtain ⟨z1, z2⟩ := hfs p (List.mem_append_left _ hp)
                  refine ⟨z1, ?_⟩
                  rcases z2 with z2 | z2
                  · have e1 : p = x := by simpa using z2
                    subst e1
                    exact hx
                  · exact none_of_ex em z2)
              | _ => cases hr2
        | err m os x' =>
          cases hr2
          intro F' H' cls d fs' ef fh _ keep fr hxr hh nd hfs
          exact post F' H' cls d ef (fun _ => keepH keep) (R.grow ef (keepH keep) fh (freshH fr)) hxr
  · cases hr2
end
end DL

/-! DLF: what the operators are over data. -/
namespace DL
open PySem PySem.Spec PyProof.Rows L2 Evl

theorem ok_of_val {K : PySem.W.Frag} {F H : Hp} {d : D} {v : V} {Q : VK} (fh : Ex F H) (hr : Rep K F d v) (k : ∀ F' H' v, Ex F F' → Ex H H' → Ex F' H' → Fresh F H F' → Rep K F' d v → Q v H') : Q v H := k F H v (Ex.refl _) (Ex.refl _) fh Fresh.refl hr
theorem ok_of_int {K : PySem.W.Frag} {F H : Hp} {i : Int} {Q : VK} (fh : Ex F H) (k : ∀ F' H' v, Ex F F' → Ex H H' → Ex F' H' → Fresh F H F' → Rep K F' (.int i) v → Q v H') : Q (.int i) H := ok_of_val fh (d := .int i) rfl k
theorem ok_of_str {K : PySem.W.Frag} {F H : Hp} {i : Str} {Q : VK} (fh : Ex F H) (k : ∀ F' H' v, Ex F F' → Ex H H' → Ex F' H' → Fresh F H F' → Rep K F' (.str i) v → Q v H') : Q (.str i) H := ok_of_val fh (d := .str i) rfl k
/-- a result that is a new object, frozen -/
theorem ok_of_new {K : PySem.W.Frag} {F H : Hp} {d : D} {Q : VK} {o : HO} {p : Addr} (fh : Ex F H) (hp : H p = none) (hr : Rep K (upd F p o) d (.ref p)) (k : ∀ F' H' v, Ex F F' → Ex H H' → Ex F' H' → Fresh F H F' → Rep K F' d v → Q v H') : Q (.ref p) (upd H p o) :=
  k (upd F p o) (upd H p o) (.ref p) (Ex.new (none_of_ex fh hp)) (Ex.new hp) (fun a u z => by
    by_cases q : a = p
    · subst q
      rw [upd_same] at z ⊢
      exact z
    · rw [upd_ne q] at z ⊢
      exact fh a u z) (fun a z => by
    by_cases q : a = p
    · subst q
      exact .inr hp
    · rw [upd_ne q] at z
      exact .inl z) hr

/-! ### arithmetic -/
@[simp] def addD : D → D → Option D
  | .int i, .int j => some (.int (i + j))
  | .str x, .str y => if x.length + y.length ≤ sizeLine then some (.str (x ++ y)) else none
  | .tup xs, .tup ys => if xs ≠ [] ∧ xs.length + ys.length ≤ sizeLine then some (.tup (xs ++ ys)) else none
  | .tup xs, .wtp ys => if xs ≠ [] ∧ xs.length + ys.length ≤ sizeLine then some (.tup (xs ++ ys)) else none
  | .wtp xs, .tup ys => if xs ≠ [] ∧ ys ≠ [] ∧ xs.length + ys.length ≤ sizeLine then some (.tup (xs ++ ys)) else none
  | _, _ => none
theorem reps_ne {K : PySem.W.Frag} {F : Hp} {ds : List D} {xs : List V} (h : Reps K F ds xs) (e : ds ≠ []) : xs ≠ [] := fun z => by
  subst z
  have := h.length
  cases ds with
  | nil => exact e rfl
  | cons _ _ => simp at this
theorem reps_nil {K : PySem.W.Frag} {F : Hp} {ds : List D} (h : Reps K F ds []) : ds = [] := by
  have := h.length
  cases ds with
  | nil => rfl
  | cons _ _ => simp at this
section
variable {X : Cx}
def rAdd3 (K : PySem.W.Frag) : R2 := fun x y H Q => rI0 (fun i j => V.int (i + j)) x y H Q ∨ (∃ i j, x = .str i ∧ y = .str j ∧ i.length + j.length ≤ sizeLine ∧ Q (.str (i ++ j)) H) ∨ rCatT K x y H Q
theorem op_add3 : OpR X (binaryOp .Add) (rAdd3 X.K) := op_add.or (op_add_str.or op_catT)
theorem cat_ok {K : PySem.W.Frag} {F H : Hp} {xs ys : List V} {ds es : List D} {a b : Addr} (fh : Ex F H) (ha : SqT K H a xs) (hb : SqT K H b ys) (h1 : Reps K F ds xs) (h2 : Reps K F es ys) (hne : ds ≠ []) (hz : ds.length + es.length ≤ sizeLine) (hl : es ≠ [] ∨ Rep K F (.tup ds) (.ref a))
    (Q : VK) (k : ∀ F' H' v, Ex F F' → Ex H H' → Ex F' H' → Fresh F H F' → Rep K F' (.tup (ds ++ es)) v → Q v H') : rCatT K (.ref a) (.ref b) H Q := by
  refine ⟨a, b, xs, ys, rfl, rfl, ha, hb, reps_ne h1 hne, by rw [← h1.length, ← h2.length]; exact hz, fun e => ?_, fun e p hp => ?_⟩
  · subst e
    have e2 := reps_nil h2
    subst e2
    rcases hl with hl | hl
    · exact absurd rfl hl
    · refine ok_of_val fh (d := .tup (ds ++ [])) ?_ k
      rw [List.append_nil]
      exact hl
  · exact ok_of_new fh hp (d := .tup (ds ++ es)) ⟨p, xs ++ ys, rfl, upd_same, Reps.mono (Ex.new (none_of_ex fh hp)) _ _ (h1.append h2)⟩ k
theorem ok_add {K : PySem.W.Frag} : OpOk K (rAdd3 K) addD := by
  intro F H x y dx dy d fh h1 h2 hg Q k
  unfold addD at hg
  split at hg
  · cases hg
    exact .inl ⟨_, _, h1, h2, ok_of_int fh k⟩
  · split at hg
    · rename_i hz
      cases hg
      exact .inr (.inl ⟨_, _, h1, h2, hz, ok_of_str fh k⟩)
    · cases hg
  · split at hg
    · rename_i hz
      cases hg
      obtain ⟨a, xs, rfl, ha, hr⟩ := id h1
      obtain ⟨b, ys, rfl, hb, hr2⟩ := h2
      exact .inr (.inr (cat_ok fh (SqT.of (fh _ _ ha)) (SqT.of (fh _ _ hb)) hr hr2 hz.1 hz.2 (.inr h1) Q k))
    · cases hg
  · split at hg
    · rename_i hz
      cases hg
      obtain ⟨a, xs, rfl, ha, hr⟩ := id h1
      obtain ⟨b, ys, rfl, hb, hr2⟩ := h2
      exact .inr (.inr (cat_ok fh (SqT.of (fh _ _ ha)) (ex_t fh hb) hr hr2 hz.1 hz.2 (.inr h1) Q k))
    · cases hg
  · split at hg
    · rename_i hz
      cases hg
      obtain ⟨a, xs, rfl, ha, hr⟩ := id h1
      obtain ⟨b, ys, rfl, hb, hr2⟩ := h2
      exact .inr (.inr (cat_ok fh (ex_t fh ha) (SqT.of (fh _ _ hb)) hr hr2 hz.1 hz.2.2 (.inl hz.2.1) Q k))
    · cases hg
  · cases hg
@[simp] def subD : D → D → Option D
  | .int i, .int j => some (.int (i - j))
  | _, _ => none
theorem ok_sub {K : PySem.W.Frag} : OpOk K (rI0 fun i j => V.int (i - j)) subD := by
  intro F H x y dx dy d fh h1 h2 hg Q k
  unfold subD at hg
  split at hg
  · cases hg
    exact ⟨_, _, h1, h2, ok_of_int fh k⟩
  · cases hg
def mulOk (i j : Int) : Bool := decide (i.natAbs < 2 ^ 64) || decide (j.natAbs < 2 ^ 64) || decide (i.natAbs.log2 + j.natAbs.log2 < 1000000)
@[simp] def mulD : D → D → Option D
  | .int i, .int j => if mulOk i j = true then some (.int (i * j)) else none
  | _, _ => none
def rMul2 : R2 := fun x y H Q => rI CMul (fun i j => V.int (i * j)) x y H Q ∨ rI CMulW (fun i j => V.int (i * j)) x y H Q
theorem op_mul2 : OpR X (binaryOp .Mult) rMul2 := op_mul.or op_mulW
theorem ok_mul {K : PySem.W.Frag} : OpOk K rMul2 mulD := by
  intro F H x y dx dy d fh h1 h2 hg Q k
  unfold mulD at hg
  split at hg
  · split at hg
    · rename_i i j hz
      cases hg
      unfold mulOk at hz
      rw [Bool.or_eq_true, Bool.or_eq_true, decide_eq_true_eq, decide_eq_true_eq, decide_eq_true_eq] at hz
      rcases hz with (hz | hz) | hz
      · exact .inl ⟨i, j, h1, h2, .inl (by omega), ok_of_int fh k⟩
      · exact .inl ⟨i, j, h1, h2, .inr (by omega), ok_of_int fh k⟩
      · exact .inr ⟨i, j, h1, h2, hz, ok_of_int fh k⟩
    · cases hg
  · cases hg
def CDivX (i j : Int) : Prop := j ≠ 0 ∧ j.natAbs.log2 < 9000
theorem op_fdivX : OpR X (binaryOp .FloorDiv) (rI CDivX fun i j => .int (i.fdiv j)) := opI fun _ _ _ _ _ _ _ hc q => floordiv_int hc.1 q (.inl (PyProof.noPylong_of_log2 hc.2))
@[simp] def divD : D → D → Option D
  | .int i, .int j => if j ≠ 0 ∧ j.natAbs.log2 < 9000 then some (.int (i.fdiv j)) else none
  | _, _ => none
theorem ok_div {K : PySem.W.Frag} : OpOk K (rI CDivX fun i j => .int (i.fdiv j)) divD := by
  intro F H x y dx dy d fh h1 h2 hg Q k
  unfold divD at hg
  split at hg
  · split at hg
    · rename_i i j hz
      cases hg
      exact ⟨i, j, h1, h2, hz, ok_of_int fh k⟩
    · cases hg
  · cases hg
@[simp] def modD : D → D → Option D
  | .int i, .int j => if j ≠ 0 then some (.int (i.fmod j)) else none
  | _, _ => none
theorem ok_mod {K : PySem.W.Frag} : OpOk K (rI (fun _ j => j ≠ 0) fun i j => .int (i.fmod j)) modD := by
  intro F H x y dx dy d fh h1 h2 hg Q k
  unfold modD at hg
  split at hg
  · split at hg
    · rename_i i j hz
      cases hg
      exact ⟨i, j, h1, h2, hz, ok_of_int fh k⟩
    · cases hg
  · cases hg
@[simp] def powD : D → D → Option D
  | .int i, .int j => if 0 ≤ j ∧ j ≤ 1000000 ∧ i.natAbs < 2 ^ 64 then some (.int (i ^ j.toNat)) else none
  | _, _ => none
theorem ok_pow {K : PySem.W.Frag} : OpOk K (rI CPow fun i j => .int (i ^ j.toNat)) powD := by
  intro F H x y dx dy d fh h1 h2 hg Q k
  unfold powD at hg
  split at hg
  · split at hg
    · rename_i i j hz
      cases hg
      exact ⟨i, j, h1, h2, hz, ok_of_int fh k⟩
    · cases hg
  · cases hg
variable {W : WX} {a b : Expr} {pos : Pos} {da db : Den D}
theorem di_add (ha : DI X W a da) (hb : DI X W b db) : DI X W (.BinOp a .Add b pos) (dbin da db addD) := di_op op_add3 ok_add ha hb
theorem di_sub (ha : DI X W a da) (hb : DI X W b db) : DI X W (.BinOp a .Sub b pos) (dbin da db subD) := di_op op_sub ok_sub ha hb
theorem di_mul (ha : DI X W a da) (hb : DI X W b db) : DI X W (.BinOp a .Mult b pos) (dbin da db mulD) := di_op op_mul2 ok_mul ha hb
theorem di_div (ha : DI X W a da) (hb : DI X W b db) : DI X W (.BinOp a .FloorDiv b pos) (dbin da db divD) := di_op op_fdivX ok_div ha hb
theorem di_mod (ha : DI X W a da) (hb : DI X W b db) : DI X W (.BinOp a .Mod b pos) (dbin da db modD) := di_op op_modN ok_mod ha hb
theorem di_pow (ha : DI X W a da) (hb : DI X W b db) : DI X W (.BinOp a .Pow b pos) (dbin da db powD) := di_op op_pow ok_pow ha hb
@[simp] def negD : D → Option D
  | .int i => some (.int (-i))
  | _ => none
theorem di_neg (ha : DI X W a da) : DI X W (.UnaryOp .USub a pos) (dbind da fun x => dlift (negD x)) := ⟨pe_weak (pe_un un_neg ha.run) fun σ H Q q => by
  obtain ⟨c, F, e, ts, R, q⟩ := q
  refine ⟨c, F, e, ts, R, q.bind (rel := relI) fun F1 H1 e1 x v ef hr q1 => ?_⟩
  obtain ⟨d, hd, k⟩ := q1.lift
  cases x <;> cases hd
  exact ⟨_, hr.2, k F1 H1 _ (Ex.refl _) (Ex.refl _) ⟨hr.1, rfl⟩⟩⟩

/-! ### comparisons -/
@[simp] def ltD : D → D → Option Bool
  | .int i, .int j => some (decide (i < j))
  | .str x, .str y => some (decide (x.cps.toList < y.cps.toList))
  | _, _ => none
def rLt2 : R2 := fun x y H Q => rI0 (fun i j => V.bl (decide (i < j))) x y H Q ∨ (∃ i j, x = .str i ∧ y = .str j ∧ Q (.bl (decide (i.cps.toList < j.cps.toList))) H)
theorem op_lt2 : OpR X (compareOp .Lt) rLt2 := op_lt.or op_lt_str
theorem ok_lt {K : PySem.W.Frag} : CmpOk K rLt2 ltD := by
  intro H x y dx dy b h1 h2 hg Q q
  unfold ltD at hg
  split at hg
  · cases hg
    exact .inl ⟨_, _, h1, h2, q⟩
  · cases hg
    exact .inr ⟨_, _, h1, h2, q⟩
  · cases hg
@[simp] def leD : D → D → Option Bool
  | .int i, .int j => some (decide (i ≤ j))
  | _, _ => none
@[simp] def gtD : D → D → Option Bool
  | .int i, .int j => some (decide (j < i))
  | _, _ => none
@[simp] def geD : D → D → Option Bool
  | .int i, .int j => some (decide (j ≤ i))
  | _, _ => none
theorem ok_le {K : PySem.W.Frag} : CmpOk K (rI0 fun i j => V.bl (decide (i ≤ j))) leD := by
  intro H x y dx dy b h1 h2 hg Q q
  unfold leD at hg
  split at hg
  · cases hg
    exact ⟨_, _, h1, h2, q⟩
  · cases hg
theorem ok_gt {K : PySem.W.Frag} : CmpOk K (rI0 fun i j => V.bl (decide (j < i))) gtD := by
  intro H x y dx dy b h1 h2 hg Q q
  unfold gtD at hg
  split at hg
  · cases hg
    exact ⟨_, _, h1, h2, q⟩
  · cases hg
theorem ok_ge {K : PySem.W.Frag} : CmpOk K (rI0 fun i j => V.bl (decide (j ≤ i))) geD := by
  intro H x y dx dy b h1 h2 hg Q q
  unfold geD at hg
  split at hg
  · cases hg
    exact ⟨_, _, h1, h2, q⟩
  · cases hg
theorem ok_eq {K : PySem.W.Frag} : CmpOk K (rEqD K) eqD := by
  intro H x y dx dy b h1 h2 hg Q q
  unfold eqD at hg
  split at hg
  · rename_i p1 p2 e1 e2
    split at hg
    · rename_i hs
      cases hg
      rw [Bool.and_eq_true] at hs
      exact ⟨p1, p2, Rep.dp _ _ _ h1 e1, Rep.dp _ _ _ h2 e2, hs.1, hs.2, q⟩
    · cases hg
  · cases hg
@[simp] def neD (a b : D) : Option Bool := (eqD a b).map (!·)
theorem ok_ne {K : PySem.W.Frag} : CmpOk K (rNeD K) neD := by
  intro H x y dx dy b h1 h2 hg Q q
  obtain ⟨b', hb, rfl⟩ := Option.map_eq_some_iff.mp hg
  unfold eqD at hb
  split at hb
  · rename_i p1 p2 e1 e2
    split at hb
    · rename_i hs
      cases hb
      rw [Bool.and_eq_true] at hs
      exact ⟨p1, p2, Rep.dp _ _ _ h1 e1, Rep.dp _ _ _ h2 e2, hs.1, hs.2, q⟩
    · cases hb
  · cases hb
/-- x in y -/
def flatD : D → Bool
  | .non => true
  | .bl _ => true
  | .int _ => true
  | .str _ => true
  | _ => false
def toV : D → V
  | .bl b => .bl b
  | .int i => .int i
  | .str x => .str x
  | _ => .non
theorem rep_flat {K : PySem.W.Frag} {F : Hp} {d : D} {v : V} (h : Rep K F d v) (f : flatD d = true) : v = toV d ∧ flatV v = true := by
  cases d <;> first | (refine ⟨h, ?_⟩; rw [show v = _ from h]; rfl) | cases f
theorem reps_flat {K : PySem.W.Frag} {F : Hp} : ∀ {ds : List D} {xs : List V}, Reps K F ds xs → ds.all flatD = true → xs = ds.map toV ∧ xs.all flatV = true
  | [], xs, h, _ => by rw [show xs = [] from h]; exact ⟨rfl, rfl⟩
  | d :: ds, xs, h, f => by
    obtain ⟨x, r, rfl, h1, h2⟩ := h
    rw [List.all_cons, Bool.and_eq_true] at f
    obtain ⟨e1, f1⟩ := rep_flat h1 f.1
    obtain ⟨e2, f2⟩ := reps_flat h2 f.2
    exact ⟨by rw [List.map_cons, ← e1, ← e2], by rw [List.all_cons, f1, f2]; rfl⟩
def inD : D → D → Option Bool
  | d, .lst ds => match d.py, D.pys ds with
    | some p, some ps => if SeqAt.shaped p && SeqAt.shaped (.list ps) then some (ps.any fun z => PyData.eqv z p) else none
    | _, _ => none
  | d, .scr ds => match d.py, D.pys ds with
    | some p, some ps => if SeqAt.shaped p && SeqAt.shaped (.list ps) then some (ps.any fun z => PyData.eqv z p) else none
    | _, _ => none
  | d, .tup ds => if flatD d && ds.all flatD then some (inV (toV d) (ds.map toV)) else none
  | d, .wtp ds => if flatD d && ds.all flatD then some (inV (toV d) (ds.map toV)) else none
  | .str i, .str j => some (!(Builtin.Str.occurrences j i 0 j.length 1).isEmpty)
  | _, _ => none
def rIn3 (K : PySem.W.Frag) : R2 := fun x y H Q => rInD K x y H Q ∨ rIn K false x y H Q ∨ (∃ i j, x = .str i ∧ y = .str j ∧ Q (.bl (!(Builtin.Str.occurrences j i 0 j.length 1).isEmpty)) H)
theorem op_in3 (hu : X.A.units + 65 < cLine) : OpR X (compareOp .In) (rIn3 X.K) := (op_inD hu).or (op_in_seq.or op_in_str)
theorem ok_in {K : PySem.W.Frag} : CmpOk K (rIn3 K) inD := by
  intro H x y dx dy b h1 h2 hg Q q
  unfold inD at hg
  split at hg
  · obtain ⟨a, xs, rfl, ha, hr⟩ := id h2
    split at hg
    · rename_i p1 p2 e1 e2
      split at hg
      · rename_i hs
        cases hg
        rw [Bool.and_eq_true] at hs
        exact .inl ⟨p1, p2, Rep.dp _ _ _ h1 e1, .lst (SqL.of ha) (Reps.dp _ _ _ hr e2), hs.1, hs.2, q⟩
      · cases hg
    · cases hg
  · obtain ⟨a, xs, rfl, ha, hr⟩ := id h2
    split at hg
    · rename_i p1 p2 e1 e2
      split at hg
      · rename_i hs
        cases hg
        rw [Bool.and_eq_true] at hs
        exact .inl ⟨p1, p2, Rep.dp _ _ _ h1 e1, .lst ha (Reps.dp _ _ _ hr e2), hs.1, hs.2, q⟩
      · cases hg
    · cases hg
  · obtain ⟨a, xs, rfl, ha, hr⟩ := id h2
    split at hg
    · rename_i hs
      cases hg
      rw [Bool.and_eq_true] at hs
      obtain ⟨e1, f1⟩ := rep_flat h1 hs.1
      obtain ⟨e2, f2⟩ := reps_flat hr hs.2
      refine .inr (.inl ⟨a, xs, rfl, .inr (SqT.of ha), f1, f2, ?_⟩)
      rw [if_neg Bool.false_ne_true, e1, e2]
      exact q
    · cases hg
  · obtain ⟨a, xs, rfl, ha, hr⟩ := id h2
    split at hg
    · rename_i hs
      cases hg
      rw [Bool.and_eq_true] at hs
      obtain ⟨e1, f1⟩ := rep_flat h1 hs.1
      obtain ⟨e2, f2⟩ := reps_flat hr hs.2
      refine .inr (.inl ⟨a, xs, rfl, .inr ha, f1, f2, ?_⟩)
      rw [if_neg Bool.false_ne_true, e1, e2]
      exact q
    · cases hg
  · cases hg
    exact .inr (.inr ⟨_, _, h1, h2, q⟩)
  · cases hg
def rNotIn3 (K : PySem.W.Frag) : R2 := fun x y H Q => rNotInD K x y H Q ∨ rIn K true x y H Q ∨ (∃ i j, x = .str i ∧ y = .str j ∧ Q (.bl (!(!(Builtin.Str.occurrences j i 0 j.length 1).isEmpty))) H)
theorem op_notin3 (hu : X.A.units + 65 < cLine) : OpR X (compareOp .NotIn) (rNotIn3 X.K) := (op_notInD hu).or (op_notIn_seq.or op_notin_str)
@[simp] def notinD (a b : D) : Option Bool := (inD a b).map (!·)
theorem ok_notin {K : PySem.W.Frag} : CmpOk K (rNotIn3 K) notinD := by
  intro H x y dx dy b h1 h2 hg' Q q
  obtain ⟨b', hg, rfl⟩ := Option.map_eq_some_iff.mp hg'
  unfold inD at hg
  split at hg
  · obtain ⟨a, xs, rfl, ha, hr⟩ := id h2
    split at hg
    · rename_i p1 p2 e1 e2
      split at hg
      · rename_i hs
        cases hg
        rw [Bool.and_eq_true] at hs
        exact .inl ⟨p1, p2, Rep.dp _ _ _ h1 e1, .lst (SqL.of ha) (Reps.dp _ _ _ hr e2), hs.1, hs.2, q⟩
      · cases hg
    · cases hg
  · obtain ⟨a, xs, rfl, ha, hr⟩ := id h2
    split at hg
    · rename_i p1 p2 e1 e2
      split at hg
      · rename_i hs
        cases hg
        rw [Bool.and_eq_true] at hs
        exact .inl ⟨p1, p2, Rep.dp _ _ _ h1 e1, .lst ha (Reps.dp _ _ _ hr e2), hs.1, hs.2, q⟩
      · cases hg
    · cases hg
  · obtain ⟨a, xs, rfl, ha, hr⟩ := id h2
    split at hg
    · rename_i hs
      cases hg
      rw [Bool.and_eq_true] at hs
      obtain ⟨e1, f1⟩ := rep_flat h1 hs.1
      obtain ⟨e2, f2⟩ := reps_flat hr hs.2
      refine .inr (.inl ⟨a, xs, rfl, .inr (SqT.of ha), f1, f2, ?_⟩)
      rw [if_pos rfl, e1, e2]
      exact q
    · cases hg
  · obtain ⟨a, xs, rfl, ha, hr⟩ := id h2
    split at hg
    · rename_i hs
      cases hg
      rw [Bool.and_eq_true] at hs
      obtain ⟨e1, f1⟩ := rep_flat h1 hs.1
      obtain ⟨e2, f2⟩ := reps_flat hr hs.2
      refine .inr (.inl ⟨a, xs, rfl, .inr ha, f1, f2, ?_⟩)
      rw [if_pos rfl, e1, e2]
      exact q
    · cases hg
  · cases hg
    exact .inr (.inr ⟨_, _, h1, h2, q⟩)
  · cases hg
@[simp] def isNoneD (d : D) : Bool := match d with
  | .non => true
  | _ => false
theorem rep_none {K : PySem.W.Frag} {F : Hp} {d : D} {v : V} (h : Rep K F d v) (hd : d ≠ .any) : decide (v = .non) = isNoneD d := by
  cases d
  case any => exact absurd rfl hd
  case non => rw [show v = V.non from h]; rfl
  case bl b => rw [show v = V.bl b from h]; rfl
  case int b => rw [show v = V.int b from h]; rfl
  case str b => rw [show v = V.str b from h]; rfl
  case ty b => rw [show v = V.ty b from h]; rfl
  case adr b => rw [show v = V.ref b from h]; rfl
  all_goals
    obtain ⟨a, h⟩ := h
    first
      | (obtain ⟨xs, e, _⟩ := h; rw [e]; rfl)
      | (obtain ⟨xs, ys, e, _⟩ := h; rw [e]; rfl)
@[simp] def noneD : D → Option D
  | .any => none
  | d => some (.bl (isNoneD d))
@[simp] def notNoneD : D → Option D
  | .any => none
  | d => some (.bl (!isNoneD d))
variable {j : Nat} {p2 : Pos}
theorem di_isN (ha : DV X W a da) : DI X W (.Compare a [.Is] [.Constant .none j p2] pos) (dbind da fun x => dlift (noneD x)) := ⟨pe_weak (pe_cmp (pc_isN ha.run)) fun σ H Q q => by
  obtain ⟨c, F, e, ts, R, q⟩ := q
  refine ⟨c, F, e, ts, R, q.bind (rel := relV) fun F1 H1 e1 x v ef hr q1 => ?_⟩
  obtain ⟨d, hd, k⟩ := q1.lift
  have hx : x ≠ .any := fun z => by subst z; cases hd
  rw [rep_none hr.2 hx]
  have hd' : d = .bl (isNoneD x) := by cases x <;> first | exact absurd rfl hx | (cases hd; rfl)
  subst hd'
  exact k F1 H1 _ (Ex.refl _) (Ex.refl _) ⟨hr.1, rfl⟩⟩
theorem di_notN (ha : DV X W a da) : DI X W (.Compare a [.IsNot] [.Constant .none j p2] pos) (dbind da fun x => dlift (notNoneD x)) := ⟨pe_weak (pe_cmp (pc_notN ha.run)) fun σ H Q q => by
  obtain ⟨c, F, e, ts, R, q⟩ := q
  refine ⟨c, F, e, ts, R, q.bind (rel := relV) fun F1 H1 e1 x v ef hr q1 => ?_⟩
  obtain ⟨d, hd, k⟩ := q1.lift
  have hx : x ≠ .any := fun z => by subst z; cases hd
  rw [rep_none hr.2 hx]
  have hd' : d = .bl (!isNoneD x) := by cases x <;> first | exact absurd rfl hx | (cases hd; rfl)
  subst hd'
  exact k F1 H1 _ (Ex.refl _) (Ex.refl _) ⟨hr.1, rfl⟩⟩
end
end DL

/-! DLG: what is owned, lent to a def; loops over what is owned. -/
namespace DL
open PySem PySem.Spec PyProof.Rows L2 Evl

section
variable {K : PySem.W.Frag} {c : Ctx} {F F' H H' : Hp} {σ : L2.St} {e : Env} {ts : List (V × O)}
/-- a slot's holding, out and in again -/
theorem Slots.out : ∀ (e : Env) (σ σ0 : L2.St) (hs : List (V × O)) (i : Nat) {b : Bool} {o : O}, Slots e σ σ0 hs → e[i]? = some (some (b, o)) →
    ∃ v A B, hs = A ++ (v, o) :: B ∧ σ[i]? = some (some v) ∧ (b = true → σ0[i]? = some (some v)) ∧ Slots (e.set i none) σ σ0 (A ++ B)
  | [], σ, σ0, hs, i, b, o, h, he => by simp at he
  | none :: e, σ, σ0, hs, 0, b, o, h, he => by simp at he
  | some q :: e, σ, σ0, hs, 0, b, o, h, he => by
    obtain ⟨v, r, hr, e1, hb, e2, h1⟩ := h
    have eq : q = (b, o) := by simpa using he
    subst eq
    subst e1
    refine ⟨v, [], hr, e2, rfl, fun z => ?_, some v, r, rfl, h1⟩
    have z' := hb z
    cases σ0 with
    | nil => simp at z'
    | cons y ys => simpa using z'
  | none :: e, σ, σ0, hs, i + 1, b, o, h, he => by
    obtain ⟨x, r, e1, h1⟩ := h
    subst e1
    obtain ⟨v, A, B, k1, k2, k3, k4⟩ := Slots.out e r σ0.tail hs i h1 (by simpa using he)
    refine ⟨v, A, B, k1, by simpa using k2, fun z => ?_, x, r, rfl, k4⟩
    have z' := k3 z
    cases σ0 with
    | nil => simp at z'
    | cons y ys => simpa using z'
  | some q :: e, σ, σ0, hs, i + 1, b, o, h, he => by
    obtain ⟨v0, r, hr, e1, hb, e2, h1⟩ := h
    subst e1
    obtain ⟨v, A, B, k1, k2, k3, k4⟩ := Slots.out e r σ0.tail hr i h1 (by simpa using he)
    refine ⟨v, (v0, q.2) :: A, B, by rw [e2, k1]; rfl, by simpa using k2, fun z => ?_, v0, r, A ++ B, rfl, hb, rfl, k4⟩
    have z' := k3 z
    cases σ0 with
    | nil => simp at z'
    | cons y ys => simpa using z'
theorem Slots.inn : ∀ (e : Env) (σ σ0 : L2.St) (hs : List (V × O)) (i : Nat) {b : Bool} {v : V}, Slots e σ σ0 hs → e[i]? = some none → σ[i]? = some (some v) → (b = true → σ0[i]? = some (some v)) →
    ∃ A B, hs = A ++ B ∧ ∀ o, Slots (e.set i (some (b, o))) σ σ0 (A ++ (v, o) :: B)
  | [], σ, σ0, hs, i, b, v, h, he, hv, hb => by simp at he
  | none :: e, σ, σ0, hs, 0, b, v, h, he, hv, hb => by
    obtain ⟨x, r, e1, h1⟩ := h
    subst e1
    have ex : x = some v := by simpa using hv
    subst ex
    exact ⟨[], hs, rfl, fun o => ⟨v, r, hs, rfl, fun z => by
      have z' := hb z
      cases σ0 with
      | nil => simp at z'
      | cons y ys => simpa using z', rfl, h1⟩⟩
  | some q :: e, σ, σ0, hs, 0, b, v, h, he, hv, hb => by simp at he
  | none :: e, σ, σ0, hs, i + 1, b, v, h, he, hv, hb => by
    obtain ⟨x, r, e1, h1⟩ := h
    subst e1
    obtain ⟨A, B, k1, k2⟩ := Slots.inn e r σ0.tail hs i h1 (by simpa using he) (by simpa using hv) (fun z => by
      have z' := hb z
      cases σ0 with
      | nil => simp at z'
      | cons y ys => simpa using z')
    exact ⟨A, B, k1, fun o => ⟨x, r, rfl, k2 o⟩⟩
  | some q :: e, σ, σ0, hs, i + 1, b, v, h, he, hv, hb => by
    obtain ⟨v0, r, hr, e1, hb0, e2, h1⟩ := h
    subst e1
    obtain ⟨A, B, k1, k2⟩ := Slots.inn e r σ0.tail hr i h1 (by simpa using he) (by simpa using hv) (fun z => by
      have z' := hb z
      cases σ0 with
      | nil => simp at z'
      | cons y ys => simpa using z')
    exact ⟨(v0, q.2) :: A, B, by rw [e2, k1]; rfl, fun o => ⟨v0, r, _, rfl, hb0, rfl, k2 o⟩⟩
theorem perm_out {α : Type} (a b c d : List α) : (b ++ (a ++ (c ++ d))).Perm (a ++ (c ++ (b ++ d))) := by
  rw [show b ++ (a ++ (c ++ d)) = (b ++ (a ++ c)) ++ d by simp, show a ++ (c ++ (b ++ d)) = ((a ++ c) ++ b) ++ d by simp]
  exact List.Perm.append_right d List.perm_append_comm
theorem RE.out {i : Nat} {b : Bool} {o : O} (R : RE K c F H σ e ts) (h : e[i]? = some (some (b, o))) : ∃ v, σ[i]? = some (some v) ∧ (b = true → c.σ0[i]? = some (some v)) ∧ RE K c F H σ (e.set i none) ((v, o) :: ts) := by
  obtain ⟨hs, fs, h1, h2, h3, h4⟩ := R.hd
  obtain ⟨v, A, B, k1, k2, k3, k4⟩ := Slots.out e σ c.σ0 hs i h1 h
  subst k1
  obtain ⟨f1, f2, e1, h5, h6⟩ := h2.split
  obtain ⟨f3, f4, e2, h7, h8⟩ := h6.split
  obtain ⟨f5, f6, e3, h9, h10⟩ := h8
  subst e3
  subst e2
  subst e1
  have hp := perm_out f1 f5 f3 f6
  refine ⟨v, k2, k3, R.g, R.f0, R.fh, R.nw, A ++ B, f5 ++ (f1 ++ (f3 ++ f6)), k4, ⟨f5, _, rfl, h9, Held.join h5 (Held.join h7 h10)⟩, hp.nodup_iff.mpr h3, fun p hp2 => h4 p (hp.mem_iff.mp hp2)⟩
theorem RE.inn {i : Nat} {b : Bool} {o : O} {v : V} (R : RE K c F H σ e ((v, o) :: ts)) (h : e[i]? = some none) (hv : σ[i]? = some (some v)) (hb : b = true → c.σ0[i]? = some (some v)) : RE K c F H σ (e.set i (some (b, o))) ts := by
  obtain ⟨hs, fs, h1, h2, h3, h4⟩ := R.hd
  obtain ⟨A, B, k1, k2⟩ := Slots.inn e σ c.σ0 hs i h1 h hv hb
  subst k1
  obtain ⟨f5, fr, e1, h9, hr⟩ := h2
  obtain ⟨f1, f2, e2, h5, h6⟩ := Held.split (A := ts) (B := A ++ B) hr
  obtain ⟨f3, f6, e3, h7, h10⟩ := h6.split
  subst e3
  subst e2
  subst e1
  have hp := perm_out f1 f5 f3 f6
  refine ⟨R.g, R.f0, R.fh, R.nw, _, f1 ++ (f3 ++ (f5 ++ f6)), k2 o, Held.join h5 (Held.join h7 ⟨f5, f6, rfl, h9, h10⟩), hp.nodup_iff.mp h3, fun p hp2 => h4 p (hp.mem_iff.mpr hp2)⟩
/-- a slot is emptied -/
theorem RE.clear {i : Nat} {b : Bool} {o : O} (R : RE K c F H σ e ts) (h : e[i]? = some (some (b, o))) : RE K c F H σ (e.set i none) ts := by
  obtain ⟨v, _, _, R'⟩ := R.out h
  exact R'.drop
theorem held_ims : ∀ {os : List O} {vs : List V} {fs : List Addr}, (∀ o ∈ os, ∃ d, o = O.im d) → Held K F H (vs.zip os) fs → fs = []
  | [], vs, fs, k, h => by cases vs <;> exact h
  | o :: os, [], fs, k, h => h
  | o :: os, v :: vs, fs, k, h => by
    obtain ⟨d, rfl⟩ := k o List.mem_cons_self
    obtain ⟨f1, f2, e1, h1, h2⟩ := h
    rw [e1, h1.1, held_ims (fun o ho => k o (List.mem_cons_of_mem _ ho)) h2]
    rfl
/-- what a def is handed stands ahead of the temporaries -/
theorem RE.callee {n : Nat} {f : FDen} {vs : List V} {os : List O} {r : FRes} {Q : VK} {E : XK} (R : RE K c F H σ e (vs.zip os ++ ts)) (hv : vs.length = n) (ho : os.length = n) (hf : f os = some r)
    (post : match r with
      | .ok m os' rv => ∀ F' H' v, Ex F F' → (m = false ∨ (∀ o ∈ os, ∃ d, o = O.im d) → Ex H H') → RE K c F' H' σ e (frvs rv v ++ vs.zip os' ++ ts) → FRep K F' rv v → Q v H'
      | .err m os' x => ∀ F' H' cls d, Ex F F' → (m = false ∨ (∀ o ∈ os, ∃ d, o = O.im d) → Ex H H') → RE K c F' H' σ e (vs.zip os' ++ ts) → XRel K F' H' x cls d → E cls d H') : spD K n f vs H Q E := by
  obtain ⟨hs, fs, h1, h2, h3, h4⟩ := R.hd
  rw [List.append_assoc] at h2
  obtain ⟨f1, f2, e1, h5, h6⟩ := h2.split
  subst e1
  obtain ⟨n1, n2, n3⟩ := List.nodup_append.mp h3
  have th2 : ∀ p ∈ f2, H p ≠ none := Held.there h6
  have none1 : (∀ o ∈ os, ∃ d, o = O.im d) → f1 = [] := fun k => held_ims k h5
  have whole : ∀ {H' : Hp} {m : Bool}, (m = false → Ex H H') → (∀ p u, p ∉ f1 → H p = some u → H' p = some u) → (m = false ∨ (∀ o ∈ os, ∃ d, o = O.im d) → Ex H H') := fun eh keep z => by
    rcases z with z | z
    · exact eh z
    · have e0 := none1 z
      exact fun p u q => keep p u (by rw [e0]; exact fun w => nomatch w) q
  have core : ∀ {F' H' : Hp} {L : List (V × O)} {fs' : List Addr}, Ex F F' → Ex F' H' → (∀ p u, p ∉ f1 → H p = some u → H' p = some u) → (∀ p, F' p ≠ none → F p ≠ none ∨ H p = none ∨ p ∈ f1) → Held K F' H' L fs' → fs'.Nodup → (∀ p ∈ fs', F' p = none ∧ (p ∈ f1 ∨ H p = none)) →
      RE K c F' H' σ e (L ++ ts) := by
    intro F' H' L fs' ef fh keep nw hh nd hfs
    have out2 : ∀ p ∈ f2, p ∉ f1 := fun p hp hp1 => n3 p hp1 p hp rfl
    refine ⟨fun p u z => keep p u (fun hp => ?_) (R.g p u z), R.f0.trans ef, fh, fun p hp => ?_, hs, fs' ++ f2, h1, ?_, List.nodup_append.mpr ⟨nd, n2, fun a ha b hb z => ?_⟩, fun p hp => ?_⟩
    · rw [(h4 p (List.mem_append_left _ hp)).2] at z
      cases z
    · rcases nw p hp with z | z | z
      · exact R.nw p z
      · exact .inr (none_of_ex R.g z)
      · exact .inr (h4 p (List.mem_append_left _ z)).2
    · rw [List.append_assoc]
      exact Held.join hh (Held.mono ef (fun p hp u z => keep p u (out2 p hp) z) h6)
    · subst z
      rcases (hfs a ha).2 with z | z
      · exact out2 a hb z
      · exact th2 a hb z
    · rcases List.mem_append.mp hp with z | z
      · refine ⟨(hfs p z).1, ?_⟩
        rcases (hfs p z).2 with w | w
        · exact (h4 p (List.mem_append_left _ w)).2
        · exact none_of_ex R.g w
      · obtain ⟨q1, q2⟩ := h4 p (List.mem_append_right _ z)
        refine ⟨?_, q2⟩
        cases q : F' p with
        | none => rfl
        | some u =>
          rcases nw p (by rw [q]; simp) with w | w | w
          · exact absurd q1 w
          · exact absurd w (th2 p z)
          · exact absurd w (out2 p z)
  refine ⟨hv, F, os, f1, r, ho, h5, n1, fun p hp => (h4 p (List.mem_append_left _ hp)).1, R.fh, hf, ?_⟩
  cases r with
  | ok m os' rv =>
    intro F' H' v fs' ef fh eh keep nw hrep hh nd hfs
    exact post F' H' v ef (whole eh keep) (core ef fh keep nw hh nd hfs) hrep
  | err m os' x =>
    intro F' H' cls d fs' ef fh eh keep nw hx hh nd hfs
    exact post F' H' cls d ef (whole eh keep) (core ef fh keep nw hh nd hfs) hx
end

/-! ### arguments: frozen ones, lent slots -/
inductive AR where
  | im (d : D) | bor (i : Nat)
def ARel (K : PySem.W.Frag) (F : Hp) (σ : L2.St) : List AR → List V → Prop
  | [], vs => vs = []
  | .im d :: as, vs => ∃ v r, vs = v :: r ∧ Rep K F d v ∧ ARel K F σ as r
  | .bor i :: as, vs => ∃ v r, vs = v :: r ∧ σ[i]? = some (some v) ∧ ARel K F σ as r
def relAR : Rel (List AR) (List V) := fun K c F H σ e ts as vs => RE K c F H σ e ts ∧ ARel K F σ as vs
theorem ARel.mono {K : PySem.W.Frag} {F F' : Hp} {σ : L2.St} (ef : Ex F F') : ∀ {as : List AR} {vs : List V}, ARel K F σ as vs → ARel K F' σ as vs
  | [], vs, h => h
  | .im d :: as, vs, h => by
    obtain ⟨v, r, e1, h1, h2⟩ := h
    exact ⟨v, r, e1, Rep.mono ef _ _ h1, ARel.mono ef h2⟩
  | .bor i :: as, vs, h => by
    obtain ⟨v, r, e1, h1, h2⟩ := h
    exact ⟨v, r, e1, h1, ARel.mono ef h2⟩
theorem ARel.length {K : PySem.W.Frag} {F : Hp} {σ : L2.St} : ∀ {as : List AR} {vs : List V}, ARel K F σ as vs → vs.length = as.length
  | [], vs, h => by rw [show vs = [] from h]; rfl
  | .im d :: as, vs, h => by
    obtain ⟨v, r, rfl, h1, h2⟩ := h
    rw [List.length_cons, List.length_cons, ARel.length h2]
  | .bor i :: as, vs, h => by
    obtain ⟨v, r, rfl, h1, h2⟩ := h
    rw [List.length_cons, List.length_cons, ARel.length h2]
/-- what the def is handed; the slots that are lent are empty meanwhile -/
def lend : List AR → Env → Option (List O × List (Option (Nat × Bool)) × Env)
  | [], e => some ([], [], e)
  | .im d :: as, e => (lend as e).map fun r => (.im d :: r.1, none :: r.2.1, r.2.2)
  | .bor i :: as, e => match lend as e with
    | some r => match r.2.2[i]? with
      | some (some (b, o)) => some (o :: r.1, some (i, b) :: r.2.1, r.2.2.set i none)
      | _ => none
    | none => none
def unlend : List (Option (Nat × Bool)) → List O → Env → Option Env
  | [], [], e => some e
  | none :: ks, _ :: os, e => unlend ks os e
  | some (i, b) :: ks, o :: os, e => match e[i]? with
    | some none => unlend ks os (e.set i (some (b, o)))
    | _ => none
  | _, _, _ => none
section
variable {K : PySem.W.Frag} {c : Ctx} {F F' H H' : Hp} {σ : L2.St}
/-- the slots that are lent stand for what is at hand -/
def Lent (c : Ctx) (σ : L2.St) : List (Option (Nat × Bool)) → List V → Prop
  | [], vs => vs = []
  | none :: ks, vs => ∃ v r, vs = v :: r ∧ Lent c σ ks r
  | some (i, b) :: ks, vs => ∃ v r, vs = v :: r ∧ σ[i]? = some (some v) ∧ (b = true → c.σ0[i]? = some (some v)) ∧ Lent c σ ks r
theorem RE.lend {ts : List (V × O)} : ∀ {as : List AR} {vs : List V} {e : Env} {os : List O} {ks : List (Option (Nat × Bool))} {e' : Env}, RE K c F H σ e ts → ARel K F σ as vs → DL.lend as e = some (os, ks, e') →
    RE K c F H σ e' (vs.zip os ++ ts) ∧ os.length = as.length ∧ Lent c σ ks vs
  | [], vs, e, os, ks, e', R, h, hl => by
    cases hl
    rw [show vs = [] from h]
    exact ⟨R, rfl, rfl⟩
  | .im d :: as, vs, e, os, ks, e', R, h, hl => by
    obtain ⟨v, r, rfl, h1, h2⟩ := h
    obtain ⟨q, hq, e1⟩ := Option.map_eq_some_iff.mp hl
    obtain ⟨os1, ks1, e2⟩ := q
    cases e1
    obtain ⟨R1, l1, k1⟩ := RE.lend R h2 hq
    refine ⟨?_, by rw [List.length_cons, List.length_cons, l1], v, r, rfl, k1⟩
    obtain ⟨hs, fs, a1, a2, a3, a4⟩ := R1.hd
    exact ⟨R1.g, R1.f0, R1.fh, R1.nw, hs, fs, a1, ⟨[], fs, rfl, ⟨rfl, h1⟩, a2⟩, a3, a4⟩
  | .bor i :: as, vs, e, os, ks, e', R, h, hl => by
    obtain ⟨v, r, rfl, h1, h2⟩ := h
    unfold DL.lend at hl
    cases hq : DL.lend as e with
    | none => rw [hq] at hl; cases hl
    | some q =>
      rw [hq] at hl
      obtain ⟨os1, ks1, e2⟩ := q
      obtain ⟨R1, l1, k1⟩ := RE.lend R h2 hq
      dsimp only at hl
      cases hi : e2[i]? with
      | none => rw [hi] at hl; cases hl
      | some s =>
        rw [hi] at hl
        cases s with
        | none => cases hl
        | some s =>
          obtain ⟨b, o⟩ := s
          cases hl
          obtain ⟨w, hw, hb, R2⟩ := R1.out hi
          rw [h1] at hw
          cases hw
          exact ⟨R2, by rw [List.length_cons, List.length_cons, l1], v, r, rfl, h1, hb, k1⟩
theorem RE.unlend {ts : List (V × O)} : ∀ {ks : List (Option (Nat × Bool))} {vs : List V} {os : List O} {e e' : Env}, RE K c F H σ e (vs.zip os ++ ts) → Lent c σ ks vs → DL.unlend ks os e = some e' → RE K c F H σ e' ts
  | [], vs, [], e, e', R, h, hu => by
    cases hu
    rw [show vs = [] from h] at R
    exact R
  | none :: ks, vs, o :: os, e, e', R, h, hu => by
    obtain ⟨v, r, rfl, h1⟩ := h
    exact RE.unlend (RE.drop (t := (v, o)) R) h1 hu
  | some (i, b) :: ks, vs, o :: os, e, e', R, h, hu => by
    obtain ⟨v, r, rfl, h1, hb, h2⟩ := h
    unfold DL.unlend at hu
    cases hi : e[i]? with
    | none => rw [hi] at hu; cases hu
    | some s =>
      rw [hi] at hu
      cases s with
      | some s => cases hu
      | none => exact RE.unlend (RE.inn (v := v) (o := o) R hi h1 hb) h2 hu
  | [], vs, o :: os, e, e', R, h, hu => by cases hu
  | none :: ks, vs, [], e, e', R, h, hu => by cases hu
  | some (i, b) :: ks, vs, [], e, e', R, h, hu => by cases hu
/-- temporaries change places -/
theorem RE.perm {e : Env} {ts ts' : List (V × O)} (R : RE K c F H σ e ts) (p : ts.Perm ts') : RE K c F H σ e ts' := by
  obtain ⟨hs, fs, h1, h2, h3, h4⟩ := R.hd
  have key : ∀ {A B : List (V × O)}, A.Perm B → ∀ {fs : List Addr}, Held K F H A fs → ∃ fs', Held K F H B fs' ∧ fs.Perm fs' := by
    intro A B p
    induction p with
    | nil => intro fs h; exact ⟨fs, h, .refl _⟩
    | cons x _ ih =>
      intro fs h
      obtain ⟨f1, f2, e1, a1, a2⟩ := h
      obtain ⟨f3, b1, b2⟩ := ih a2
      exact ⟨f1 ++ f3, ⟨f1, f3, rfl, a1, b1⟩, by rw [e1]; exact List.Perm.append_left f1 b2⟩
    | swap x y l =>
      intro fs h
      obtain ⟨f1, f2, e1, a1, f3, f4, e2, a2, a3⟩ := h
      refine ⟨f3 ++ (f1 ++ f4), ⟨f3, _, rfl, a2, f1, f4, rfl, a1, a3⟩, ?_⟩
      rw [e1, e2, ← List.append_assoc, ← List.append_assoc]
      exact List.Perm.append_right f4 List.perm_append_comm
    | trans _ _ ih1 ih2 =>
      intro fs h
      obtain ⟨f1, a1, a2⟩ := ih1 h
      obtain ⟨f2, b1, b2⟩ := ih2 a1
      exact ⟨f2, b1, a2.trans b2⟩
  obtain ⟨fs', k1, k2⟩ := key (List.Perm.append_right hs p) h2
  exact ⟨R.g, R.f0, R.fh, R.nw, hs, fs', h1, k1, k2.nodup_iff.mp h3, fun p hp => h4 p (k2.mem_iff.mpr hp)⟩
end
/-- frozen all -/
@[simp] def allIm : List O → Bool
  | [] => true
  | .im _ :: os => allIm os
  | _ => false
theorem allIm_ok : ∀ {os : List O}, allIm os = true → ∀ o ∈ os, ∃ d, o = O.im d
  | [], _, o, ho => by cases ho
  | .im d :: os, h, o, ho => by
    rcases List.mem_cons.mp ho with e | ho
    · exact ⟨d, e⟩
    · exact allIm_ok (os := os) h o ho
  | .lst _ :: _, h, _, _ => by cases h
  | .tup _ :: _, h, _, _ => by cases h
  | .dct _ _ :: _, h, _, _ => by cases h
  | .ins _ _ _ :: _, h, _, _ => by cases h
/-- a called def, of any arguments -/
def dfnA (n : Nat) (f : FDen) (as : List AR) : Den Rv := fun e => if as.length = n then (match lend as e with
  | some (os, ks, e1) => match f os with
    | some (.ok m os' (.im d)) => (unlend ks os' e1).map fun e2 => .ok (m && !allIm os) e2 (.im d)
    | some (.ok m os' (.new o)) => (unlend ks os' e1).map fun e2 => .ok (m && !allIm os) e2 (.new o)
    | some (.err m os' x) => (unlend ks os' e1).map fun e2 => .err (m && !allIm os) e2 x
    | none => none
  | none => none) else none
theorem and_allIm {m : Bool} {os : List O} (h : (m && !allIm os) = false) : m = false ∨ ∀ o ∈ os, ∃ d, o = O.im d := by
  cases m with
  | false => exact .inl rfl
  | true =>
    refine .inr (allIm_ok ?_)
    cases q : allIm os with
    | true => rfl
    | false => rw [q] at h; cases h
theorem spD_ofA {K : PySem.W.Frag} {c : Ctx} {F H : Hp} {σ : L2.St} {e : Env} {ts : List (V × O)} {W : WX} {n : Nat} {f : FDen} {as : List AR} {vs : List V} {Q : VK} (R : RE K c F H σ e ts) (hr : ARel K F σ as vs) (q : At relR K W (dfnA n f as) c F σ e ts H Q) :
    spD K n f vs H Q (fun cls d H' => W cls d σ H') := by
  obtain ⟨r, hr2, post⟩ := q
  unfold dfnA at hr2
  split at hr2
  · rename_i hn
    cases hl : lend as e with
    | none => rw [hl] at hr2; cases hr2
    | some q =>
      rw [hl] at hr2
      obtain ⟨os, ks, e1⟩ := q
      obtain ⟨R1, l1, k1⟩ := R.lend hr hl
      dsimp only at hr2
      cases hf : f os with
      | none => rw [hf] at hr2; cases hr2
      | some fr =>
        rw [hf] at hr2
        refine R1.callee (hr.length.trans hn) (l1.trans hn) hf ?_
        cases fr with
        | ok m os' rv =>
          intro F' H' v ef eh R2 hrep
          cases rv with
          | im d =>
            obtain ⟨e2, hu, e3⟩ := Option.map_eq_some_iff.mp hr2
            subst e3
            exact post F' H' v ef (fun z => eh (and_allIm z)) ⟨RE.unlend R2 k1 hu, hrep⟩
          | new o =>
            obtain ⟨e2, hu, e3⟩ := Option.map_eq_some_iff.mp hr2
            subst e3
            have R3 : RE K c F' H' σ e1 (vs.zip os' ++ ((v, o) :: ts)) := R2.perm (by
              show ((v, o) :: (vs.zip os' ++ ts)).Perm _
              exact (List.perm_middle).symm)
            exact post F' H' v ef (fun z => eh (and_allIm z)) (RE.unlend R3 k1 hu)
        | err m os' x =>
          intro F' H' cls d ef eh R2 hx
          obtain ⟨e2, hu, e3⟩ := Option.map_eq_some_iff.mp hr2
          subst e3
          exact post F' H' cls d ef (fun z => eh (and_allIm z)) (RE.unlend R2 k1 hu) hx
  · cases hr2
section
variable {X : Cx} {W : WX} {a : Expr} {es : List Expr} {pos p : Pos} {x : Str} {k : Nat} {f C : Addr} {fd : FuncData} {ps : List Str} {fn : FDen}
structure DAR (X : Cx) (W : WX) (es : List Expr) (den : Den (List AR)) : Prop where
  run : PA X es (rd relAR X.K W den)
theorem dar_nil : DAR X W [] (dpure []) := ⟨pa_weak pa_nil fun σ H Q q => by
  obtain ⟨c, F, e, ts, R, q⟩ := q
  exact At.pure q F H [] (Ex.refl _) (Ex.refl _) ⟨R, rfl⟩⟩
def darg (r : Rv) : AR := match r with
  | .im d => .im d
  | .new o => .im o.flat
  | .bor i _ => .bor i
def darcons (d : Den Rv) (ds : Den (List AR)) : Den (List AR) := dbind d fun x => dbind ds fun xs => dpure (darg x :: xs)
theorem dar_cons {da : Den Rv} {ds : Den (List AR)} (h : DE X W a da) (hr : DAR X W es ds) (hs : starEach (a :: es) X.env = (false, eval a X.env) :: starEach es X.env := by rfl) : DAR X W (a :: es) (darcons da ds) :=
  ⟨pa_weak (pa_cons h.run hr.run hs) fun σ H Q q => by
    obtain ⟨c, F, e, ts, R, q⟩ := q
    refine ⟨c, F, e, ts, R, q.bind (rel := relR) fun F1 H1 e1 x v ef hr q1 => ?_⟩
    cases x with
    | im d =>
      refine ⟨c, F1, e1, ts, hr.1, q1.bind (rel := relAR) fun F2 H2 e2 y u ef2 hr2 q2 => ?_⟩
      exact At.pure q2 F2 H2 (v :: u) (Ex.refl _) (Ex.refl _) ⟨hr2.1, v, u, rfl, Rep.mono ef2 _ _ hr.2, hr2.2⟩
    | new o =>
      obtain ⟨F3, e3, R3, h3⟩ := RE.freezeT hr
      have q1' : At relAR X.K W (dbind ds fun xs => dpure (darg (.new o) :: xs)) c F3 σ e1 ts H1 Q := by
        obtain ⟨r, hr4, post⟩ := q1
        refine ⟨r, hr4, ?_⟩
        cases r with
        | ok m e5 a => exact fun F' H' v' ef' eh hrel => post F' H' v' (e3.trans ef') eh hrel
        | err m e5 x => exact fun F' H' cls d ef' eh R hx => post F' H' cls d (e3.trans ef') eh R hx
      refine ⟨c, F3, e1, ts, R3, q1'.bind (rel := relAR) fun F2 H2 e2 y u ef2 hr2 q2 => ?_⟩
      exact At.pure q2 F2 H2 (v :: u) (Ex.refl _) (Ex.refl _) ⟨hr2.1, v, u, rfl, Rep.mono ef2 _ _ h3, hr2.2⟩
    | bor i o =>
      refine ⟨c, F1, e1, ts, hr.1, q1.bind (rel := relAR) fun F2 H2 e2 y u ef2 hr2 q2 => ?_⟩
      exact At.pure q2 F2 H2 (v :: u) (Ex.refl _) (Ex.refl _) ⟨hr2.1, v, u, rfl, hr.2.1, hr2.2⟩⟩
/-- f(a, ..) -/
theorem de_call {n : Nat} {ds : Den (List AR)} (Fn : FnOk X.prog X.w X.K X.mg X.base (L2.CX X.prog X.w) k f fd ps (spD X.K n fn)) (tk : Takes X W) (hr : Room k X.A) (hg : Gl X x) (hm : X.mg x = some (.ref f)) (hk : PySem.W.keepIn X.K (.ref f) = true) (hb : Binds X.K fd ps [])
    (ha : DAR X W (a :: es) ds) (hdb : (x == ("__debug__" : Str)) = false := by decide) (he : starEach (a :: es) X.env = (false, eval a X.env) :: starEach es X.env := by rfl) (hpl : (backTo pos (starEach es X.env)).any (·.1) = false := by rfl) :
    DE X W (.Call (.Name x p) (a :: es) [] pos) (dbind ds fun as => dfnA n fn as) := ⟨pe_weak (pe_callS Fn hr hg hm hk hb (fun σ => passAt tk σ) ha.run hdb he hpl) fun σ H Q q => by
  obtain ⟨c, F, e, ts, R, q⟩ := q
  refine ⟨c, F, e, ts, R, q.bind (rel := relAR) fun F1 H1 e1 dl v ef hr1 q1 => ?_⟩
  exact spD_ofA hr1.1 hr1.2 q1⟩
end
end DL

/-! DLH: loops. -/
namespace DL
open PySem PySem.Spec PyProof.Rows L2 Evl

section
variable {X : Cx} {tg : Expr}
/-- what is walked may be a list or a tuple -/
def iSeq (K : PySem.W.Frag) (tl : TE) : TI := fun σ H R => tl σ H fun x H1 => ∃ a, x = .ref a ∧ (((∃ xs, SqL K H1 a xs) ∧ R (Itl K a) H1) ∨ ((∃ xs, SqT K H1 a xs) ∧ R (Itt K a) H1))
theorem pi_seq {l : Expr} {tl : TE} (hl : PE X l tl) : PI X tg l (iSeq X.K tl) := by
  refine ⟨fun pins s σ H R I h => ?_⟩
  refine thn (hl.run pins s σ H _ I h) fun v s1 ⟨x, H1, I1, r1, q1⟩ => ?_
  obtain ⟨a, e, q⟩ := q1
  subst e
  cases r1
  rcases q with ⟨⟨xs, hq⟩, q⟩ | ⟨⟨xs, hq⟩, q⟩
  · obtain ⟨its, rv, p, hz⟩ := I1.list hq
    refine wpAny_pyIter_list p.isList ?_
    refine ⟨s1.heap.objs.size, [s1.heap.objs.size], _, _, H1, rfl, I1.kept (t' := s1.toks) fun b o e => Heap.get?_push_of_some _ e, turn_list a _, ⟨_, Heap.get?_push_size _ rfl, rfl, rfl⟩, fun b hb => ?_, q⟩
    have e : b = s1.heap.objs.size := by simpa using hb
    subst e
    exact I1.fpOk (Nat.le_refl _) (I1.hok.fresh (Nat.le_refl _))
  · obtain ⟨its, rv, p, hz⟩ := I1.tuple hq
    refine wpAny_pyIter_tuple (show s1.heap.IsTuple a its.toArray from p) ?_
    refine ⟨s1.heap.objs.size, [s1.heap.objs.size], _, _, H1, rfl, I1.kept (t' := s1.toks) fun b o e => Heap.get?_push_of_some _ e, turn_tuple a _, ⟨_, Heap.get?_push_size _ rfl, rfl, rfl⟩, fun b hb => ?_, q⟩
    have e : b = s1.heap.objs.size := by simpa using hb
    subst e
    exact I1.fpOk (Nat.le_refl _) (I1.hok.fresh (Nat.le_refl _))
end
/-- a loop's turn, then the rest -/
def sturn (r : Option SRes) (rest : SDen) : Option SRes := match r with
  | some (.nx m e) => SRes.more m (rest e)
  | some (.ct m e) => SRes.more m (rest e)
  | some (.bk m e) => some (.nx m e)
  | some (.rt m e v) => some (.rt m e v)
  | some (.er m e x) => some (.er m e x)
  | none => none
def sloop (bind : D → Env → Option Env) (body : SDen) : List D → SDen
  | [] => snext
  | d :: ds => fun e => match bind d e with
    | some e1 => sturn (body e1) (sloop bind body ds)
    | none => none
section
variable {K : PySem.W.Frag} {W : WX} {c : Ctx} {F H : Hp} {σ : L2.St} {e : Env} {ts : List (V × O)}
theorem AtS.turn {b rest : SDen} {D : Ends} {N : L2.St → Hp → Prop} (h : ∃ r, sturn (b e) rest = some r ∧ PostS K W D c F ts H r)
    (k : ∀ F1 H1 σ1 e1, Ex F F1 → RE K c F1 H1 σ1 e1 ts → AtS K W rest D c F1 σ1 e1 ts H1 → N σ1 H1) : AtS K W b { D with nx := N, ct := N, bk := D.nx } c F σ e ts H := by
  obtain ⟨r, hr, post⟩ := h
  cases hd : b e with
  | none => rw [hd] at hr; cases hr
  | some r1 =>
    rw [hd] at hr
    refine ⟨r1, hd, ?_⟩
    cases r1 with
    | nx m e1 => exact fun F1 H1 σ1 ef eh R => k F1 H1 σ1 e1 ef R (AtS.more hr ef eh post)
    | ct m e1 => exact fun F1 H1 σ1 ef eh R => k F1 H1 σ1 e1 ef R (AtS.more hr ef eh post)
    | bk m e1 => cases hr; exact post
    | rt m e1 v => cases hr; exact post
    | er m e1 x => cases hr; exact post
/-- what an iterator walks: P says what stands there -/
structure Src (J : It) (P : List V → Hp → Prop) : Prop where
  go : ∀ i xs H, P xs H → i < xs.length → J.go i H
  stop : ∀ i xs H, P xs H → xs.length ≤ i → J.stop i H
  yld : ∀ i xs H x H', P xs H → i < xs.length → J.yld i H x H' → H' = H ∧ xs[i]? = some x
theorem src_list {a : Addr} : Src (Itl K a) (fun xs H => SqL K H a xs) where
  go := fun i xs H h hi => ⟨xs, xs[i], h, List.getElem?_eq_getElem hi⟩
  stop := fun i xs H h hi => ⟨xs, h, hi⟩
  yld := fun i xs H x H' h _ hy => ⟨hy.1, hy.2 xs h⟩
theorem src_tup {a : Addr} : Src (Itt K a) (fun xs H => SqT K H a xs) where
  go := fun i xs H h hi => ⟨xs, xs[i], h, List.getElem?_eq_getElem hi⟩
  stop := fun i xs H h hi => ⟨xs, h, hi⟩
  yld := fun i xs H x H' h _ hy => ⟨hy.1, hy.2 xs h⟩
/-- the loop -/
theorem loop_ok {X : Cx} {J : It} {P : List V → Hp → Prop} (S : Src J P) {bind : D → Env → Option Env} {sl : List Nat} {body : SDen} {ds : List D} {D0 : Ends} (hP : ∀ F' H' σ' e', Ex F F' → RE X.K c F' H' σ' e' ts → ∃ xs, P xs H' ∧ Reps X.K F' ds xs) (R : RE X.K c F H σ e ts)
    (h : AtS X.K W (sloop bind body ds) D0 c F σ e ts H) :
    ∃ Wv : Nat → Nat → L2.St → Hp → Prop, (∃ m, Wv 0 m σ H) ∧ ∀ i m σ H, Wv i m σ H → (J.stop i H ∧ D0.nx σ H) ∨ (J.go i H ∧ ∃ N : L2.St → Hp → Prop, (∀ σ' H', N σ' H' → ∃ m', m' < m ∧ Wv (i + 1) m' σ' H') ∧
      ∀ x H', J.yld i H x H' → tgR X.K bind sl x σ H' fun σ2 H2 => rdS X.K W body { D0 with nx := N, ct := N, bk := D0.nx } σ2 H2) := by
  refine ⟨fun i m σ H => ∃ F1 e1, Ex F F1 ∧ RE X.K c F1 H σ e1 ts ∧ AtS X.K W (sloop bind body (ds.drop i)) D0 c F1 σ e1 ts H ∧ m + i = ds.length, ⟨ds.length, F, e, Ex.refl _, R, h, by omega⟩, ?_⟩
  rintro i m σ1 H1 ⟨F1, e1, ef, R1, h1, hm⟩
  obtain ⟨xs, p1, hr⟩ := hP F1 H1 σ1 e1 ef R1
  have hlen := hr.length
  by_cases hi : i < xs.length
  · refine .inr ⟨S.go i xs H1 p1 hi, fun σ' H' => ∃ F2 e2, Ex F F2 ∧ RE X.K c F2 H' σ' e2 ts ∧ AtS X.K W (sloop bind body (ds.drop (i + 1))) D0 c F2 σ' e2 ts H', ?_, ?_⟩
    · rintro σ' H' ⟨F2, e2, ef2, R2, h2⟩
      exact ⟨m - 1, by omega, F2, e2, ef2, R2, h2, by omega⟩
    · intro x H' hy
      obtain ⟨rfl, hx⟩ := S.yld i xs H1 x H' p1 hi hy
      obtain ⟨d, hd, hrep⟩ := hr.getV i hx
      have hdrop : ds.drop i = d :: ds.drop (i + 1) := by
        have hl : i < ds.length := by omega
        rw [List.drop_eq_getElem_cons hl]
        have := (List.getElem?_eq_some_iff.mp hd).2
        rw [this]
      rw [hdrop] at h1
      obtain ⟨r, hr2, post⟩ := h1
      unfold sloop at hr2
      cases hb : bind d e1 with
      | none => rw [hb] at hr2; cases hr2
      | some e2 =>
        rw [hb] at hr2
        refine ⟨c, F1, e1, ts, d, e2, R1, hrep, hb, fun σ' R' _ => ⟨c, F1, e2, ts, R', ?_⟩⟩
        exact AtS.turn ⟨r, hr2, post⟩ fun F3 H3 σ3 e3 ef3 R3 h3 => ⟨F3, e3, ef.trans ef3, R3, h3⟩
  · refine .inl ⟨S.stop i xs H1 p1 (by omega), ?_⟩
    have hdrop : ds.drop i = [] := List.drop_eq_nil_of_le (by omega)
    rw [hdrop] at h1
    exact AtS.next h1 R1
/-- what is pinned -/
def pins (e : Env) : List Bool := e.map fun s => match s with
  | some (true, _) => true
  | _ => false
theorem pins_get {e e' : Env} (h : pins e = pins e') {j : Nat} {o : O} (hj : e[j]? = some (some (true, o))) : ∃ o', e'[j]? = some (some (true, o')) := by
  have h1 : (pins e)[j]? = some true := by unfold pins; rw [List.getElem?_map, hj]; rfl
  rw [h] at h1
  unfold pins at h1
  rw [List.getElem?_map] at h1
  cases q : e'[j]? with
  | none => rw [q] at h1; cases h1
  | some s =>
    rw [q] at h1
    cases s with
    | none => cases h1
    | some s =>
      obtain ⟨b, o'⟩ := s
      cases b with
      | false => cases h1
      | true => exact ⟨o', rfl⟩
theorem Slots.repin : ∀ {e : Env} {σ τ τ' : L2.St} {hs : List (V × O)}, Slots e σ τ hs → (∀ (j : Nat) (v : V) (o : O), e[j]? = some (some (true, o)) → σ[j]? = some (some v) → τ'[j]? = some (some v)) → Slots e σ τ' hs
  | [], σ, τ, τ', hs, h, k => h
  | none :: e, σ, τ, τ', hs, h, k => by
    obtain ⟨x, r, e1, h1⟩ := h
    subst e1
    refine ⟨x, r, rfl, Slots.repin h1 fun j v o hj hv => ?_⟩
    have := k (j + 1) v o (by simpa using hj) (by simpa using hv)
    cases τ' with
    | nil => simp at this
    | cons y ys => simpa using this
  | some q :: e, σ, τ, τ', hs, h, k => by
    obtain ⟨v, r, hr, e1, hb, e2, h1⟩ := h
    subst e1
    refine ⟨v, r, hr, rfl, fun z => ?_, e2, Slots.repin h1 fun j w o hj hv => ?_⟩
    · have := k 0 v q.2 (by rw [show q = (q.1, q.2) from rfl, z]; rfl) rfl
      cases τ' with
      | nil => simp at this
      | cons y ys => simpa using this
    · have := k (j + 1) w o (by simpa using hj) (by simpa using hv)
      cases τ' with
      | nil => simp at this
      | cons y ys => simpa using this
theorem RE.repin {τ' : L2.St} (R : RE K c F H σ e ts) (k : ∀ (j : Nat) (v : V) (o : O), e[j]? = some (some (true, o)) → σ[j]? = some (some v) → τ'[j]? = some (some v)) : RE K { c with σ0 := τ' } F H σ e ts := by
  obtain ⟨hs, fs, h1, h2, h3, h4⟩ := R.hd
  exact ⟨R.g, R.f0, R.fh, R.nw, hs, fs, h1.repin k, h2, h3, h4⟩
/-- a slot lent to what follows: nothing is known of it, it is not stored to -/
def slend (i : Nat) (d : SDen) : SDen := fun e => match e[i]? with
  | some (some (b, o)) =>
    let e0 := e.set i (some (true, .im .any))
    let back : Env → Option Env := fun e' => if pins e' = pins e0 then (match e'[i]? with
      | some (some (true, _)) => some (e'.set i (some (b, o)))
      | _ => none) else none
    match d e0 with
    | some (.nx m e') => (back e').map fun e2 => SRes.nx m e2
    | some (.rt m e' (.im x)) => (back e').map fun e2 => SRes.rt m e2 (.im x)
    | some (.rt m e' (.new x)) => (back e').map fun e2 => SRes.rt m e2 (.new x)
    | some (.rt m e' (.bor j x)) => if j = i then none else (back e').map fun e2 => SRes.rt m e2 (.bor j x)
    | some (.er m e' x) => (back e').map fun e2 => SRes.er m e2 x
    | _ => none
  | _ => none
theorem AtS.lend {i : Nat} {d : SDen} {D0 : Ends} (h : AtS K W (slend i d) D0 c F σ e ts H) (R : RE K c F H σ e ts) : ∃ b o v, e[i]? = some (some (b, o)) ∧ σ[i]? = some (some v) ∧
    RE K { c with σ0 := σ } F H σ (e.set i (some (true, .im .any))) ((v, o) :: ts) ∧ AtS K W d D0 { c with σ0 := σ } F σ (e.set i (some (true, .im .any))) ((v, o) :: ts) H := by
  obtain ⟨r, hr, post⟩ := h
  unfold slend at hr
  cases he : e[i]? with
  | none => rw [he] at hr; cases hr
  | some s =>
    rw [he] at hr
    cases s with
    | none => cases hr
    | some s =>
      obtain ⟨b, o⟩ := s
      obtain ⟨v, hv, hb, R1⟩ := R.out he
      have hi : i < e.length := (List.getElem?_eq_some_iff.mp he).1
      have hnone : (e.set i none)[i]? = some none := List.getElem?_set_self hi
      have R2 : RE K { c with σ0 := σ } F H σ (e.set i none) ((v, o) :: ts) := R1.repin fun j w o' _ hw => hw
      have R3 : RE K { c with σ0 := σ } F H σ (e.set i (some (true, .im .any))) ((v, o) :: ts) := by
        have R4 : RE K { c with σ0 := σ } F H σ (e.set i none) ((v, .im .any) :: (v, o) :: ts) := by
          obtain ⟨hs, fs, a1, a2, a3, a4⟩ := R2.hd
          exact ⟨R2.g, R2.f0, R2.fh, R2.nw, hs, fs, a1, ⟨[], fs, rfl, ⟨rfl, True.intro⟩, a2⟩, a3, a4⟩
        have := R4.inn (b := true) hnone hv (fun _ => hv)
        rwa [List.set_set] at this
      refine ⟨b, o, v, rfl, hv, R3, ?_⟩
      dsimp only at hr
      -- back again
      have back : ∀ {F' H' : Hp} {σ' : L2.St} {e' e2 : Env} {tt : List (V × O)}, (if pins e' = pins (e.set i (some (true, .im .any))) then (match e'[i]? with
            | some (some (true, _)) => some (e'.set i (some (b, o)))
            | _ => none) else none) = some e2 → RE K { c with σ0 := σ } F' H' σ' e' ((v, o) :: tt) → RE K c F' H' σ' e2 tt ∧ ∀ j, j ≠ i → e2[j]? = e'[j]? := by
        intro F' H' σ' e' e2 tt hbk R'
        split at hbk
        · rename_i hp
          split at hbk
          · rename_i o1 hi1
            cases hbk
            obtain ⟨w, hw, hw2, R5⟩ := R'.out hi1
            have ew : w = v := by
              have := hw2 rfl
              dsimp only at this
              rw [hv] at this
              cases this
              rfl
            subst ew
            have R6 : RE K { c with σ0 := σ } F' H' σ' (e'.set i none) ((w, o) :: tt) := R5.drop
            have R7 : RE K c F' H' σ' (e'.set i none) ((w, o) :: tt) := by
              refine R6.repin (τ' := c.σ0) fun j u o' hj hu => ?_
              have hji : j ≠ i := fun z => by
                subst z
                rw [List.getElem?_set_self (List.getElem?_eq_some_iff.mp hi1).1] at hj
                cases hj
              rw [List.getElem?_set_ne (Ne.symm hji)] at hj
              obtain ⟨o2, ho2⟩ := pins_get hp hj
              have ho3 := ho2
              rw [List.getElem?_set_ne (Ne.symm hji)] at ho3
              obtain ⟨y, hy, hy2, _⟩ := R.out ho3
              obtain ⟨z, hz, hz2, _⟩ := R'.out hj
              have e1 := hz2 rfl
              dsimp only at e1
              rw [hu] at hz
              cases hz
              rw [hy] at e1
              cases e1
              exact hy2 rfl
            have hn2 : (e'.set i none)[i]? = some none := List.getElem?_set_self (List.getElem?_eq_some_iff.mp hi1).1
            have := R7.inn (b := b) hn2 hw hb
            rw [List.set_set] at this
            exact ⟨this, fun j hj => List.getElem?_set_ne (Ne.symm hj)⟩
          · cases hbk
        · cases hbk
      cases hd : d (e.set i (some (true, .im .any))) with
      | none => rw [hd] at hr; cases hr
      | some r1 =>
        rw [hd] at hr
        refine ⟨r1, hd, ?_⟩
        cases r1 with
        | nx m e1 =>
          obtain ⟨e2, hb2, e3⟩ := Option.map_eq_some_iff.mp hr
          subst e3
          exact fun F' H' σ' ef eh R' => post F' H' σ' ef eh (back hb2 R').1
        | rt m e1 rv =>
          cases rv with
          | im x =>
            obtain ⟨e2, hb2, e3⟩ := Option.map_eq_some_iff.mp hr
            subst e3
            exact fun F' H' σ' w ef eh R' => post F' H' σ' w ef eh ⟨(back hb2 R'.1).1, R'.2⟩
          | new x =>
            obtain ⟨e2, hb2, e3⟩ := Option.map_eq_some_iff.mp hr
            subst e3
            exact fun F' H' σ' w ef eh R' => post F' H' σ' w ef eh (back hb2 (RE.perm (ts' := (v, o) :: (w, x) :: ts) R' (List.Perm.swap _ _ _))).1
          | bor j x =>
            dsimp only at hr
            split at hr
            · cases hr
            · rename_i hj
              obtain ⟨e2, hb2, e3⟩ := Option.map_eq_some_iff.mp hr
              subst e3
              exact fun F' H' σ' w ef eh R' => post F' H' σ' w ef eh ⟨(back hb2 R'.1).1, R'.2.1, by
                rw [(back hb2 R'.1).2 j hj]
                exact R'.2.2⟩
        | bk m e1 => cases hr
        | ct m e1 => cases hr
        | er m e1 x =>
          obtain ⟨e2, hb2, e3⟩ := Option.map_eq_some_iff.mp hr
          subst e3
          exact fun F' H' σ' cls d ef eh R' hx => post F' H' σ' cls d ef eh (back hb2 R').1 hx
end
/-- the items of what is frozen; of what is owned, where all are frozen -/
@[simp] def seqD : D → Option (List D)
  | .tup ds => some ds
  | .wtp ds => some ds
  | .lst ds => some ds
  | .scr ds => some ds
  | _ => none
@[simp] def ims : List O → Option (List D)
  | [] => some []
  | .im d :: os => (ims os).map fun ds => d :: ds
  | _ :: _ => none
theorem ims_eq : ∀ {os : List O} {ds : List D}, ims os = some ds → os = ds.map O.im
  | [], ds, h => by cases h; rfl
  | .im d :: os, ds, h => by
    obtain ⟨r, hr, e⟩ := Option.map_eq_some_iff.mp h
    subst e
    rw [List.map_cons, ← ims_eq hr]
  | .lst _ :: _, ds, h => by cases h
  | .tup _ :: _, ds, h => by cases h
  | .dct _ _ :: _, ds, h => by cases h
  | .ins _ _ _ :: _, ds, h => by cases h
@[simp] def seqO : O → Option (List D)
  | .lst os => ims os
  | .tup os => ims os
  | _ => none
def sfor (it : Den Rv) (bind : D → Env → Option Env) (body : SDen) : SDen := sbind it fun rv e => match rv with
  | .im d => match seqD d with
    | some ds => sloop bind body ds e
    | none => none
  | .new o => match seqD o.flat with
    | some ds => sloop bind body ds e
    | none => none
  | .bor i _ => match e[i]? with
    | some (some (_, o)) => match seqO o with
      | some ds => slend i (sloop bind body ds) e
      | none => none
    | _ => none
section
variable {X : Cx} {W : WX} {tg iter : Expr} {body : List Stmt} {pos : Pos} {it : Den Rv} {bind : D → Env → Option Env} {sl : List Nat} {db : SDen}
theorem seq_src {K : PySem.W.Frag} {F : Hp} {d : D} {ds : List D} {v : V} (h : Rep K F d v) (hs : seqD d = some ds) : ∃ a xs, v = .ref a ∧ Reps K F ds xs ∧ ((SqL K F a xs) ∨ (SqT K F a xs)) := by
  cases d with
  | tup es => cases hs; obtain ⟨a, xs, e1, h1, h2⟩ := h; exact ⟨a, xs, e1, h2, .inr (SqT.of h1)⟩
  | wtp es => cases hs; obtain ⟨a, xs, e1, h1, h2⟩ := h; exact ⟨a, xs, e1, h2, .inr h1⟩
  | lst es => cases hs; obtain ⟨a, xs, e1, h1, h2⟩ := h; exact ⟨a, xs, e1, h2, .inl (SqL.of h1)⟩
  | scr es => cases hs; obtain ⟨a, xs, e1, h1, h2⟩ := h; exact ⟨a, xs, e1, h2, .inl h1⟩
  | _ => cases hs
theorem ds_for (hp : PassesOwn (model X.prog X.w) X.A X.env X.xe) (hc : X.calm = true) (hi : DE X W iter it) (hg : DG X tg bind sl) (hb : DSs X W body db) (hs : ∀ x, foldedSetIterable iter X.env x = pure x := by intro _; rfl) :
    DS X W (.For tg iter body [] pos) (sfor it bind db) := ⟨ps_weak (ps_for hp hc (pi_seq hi.run) hg.run hb.run hs) fun D0 σ H q => by
  obtain ⟨c, F, e, ts, R, q⟩ := q
  refine ⟨c, F, e, ts, R, q.sbind (rel := relR) fun F1 H1 e1 rv v ef hr q1 => ?_⟩
  -- frozen
  have fz : ∀ {F2 : Hp} {d : D} {ds : List D}, RE X.K c F2 H1 σ e1 ts → Rep X.K F2 d v → seqD d = some ds → AtS X.K W (sloop bind db ds) D0 c F2 σ e1 ts H1 → ∃ a, v = .ref a ∧
      (((∃ xs, SqL X.K H1 a xs) ∧ (fun J H1 => ∃ Wv : Nat → Nat → L2.St → Hp → Prop, (∃ m, Wv 0 m σ H1) ∧ ∀ i m σ H, Wv i m σ H → (J.stop i H ∧ D0.nx σ H) ∨ (J.go i H ∧ ∃ N : L2.St → Hp → Prop, (∀ σ' H', N σ' H' → ∃ m', m' < m ∧ Wv (i + 1) m' σ' H') ∧
        ∀ x H', J.yld i H x H' → tgR X.K bind sl x σ H' fun σ2 H2 => rdS X.K W db { D0 with nx := N, ct := N, bk := D0.nx } σ2 H2)) (Itl X.K a) H1) ∨
      ((∃ xs, SqT X.K H1 a xs) ∧ (fun J H1 => ∃ Wv : Nat → Nat → L2.St → Hp → Prop, (∃ m, Wv 0 m σ H1) ∧ ∀ i m σ H, Wv i m σ H → (J.stop i H ∧ D0.nx σ H) ∨ (J.go i H ∧ ∃ N : L2.St → Hp → Prop, (∀ σ' H', N σ' H' → ∃ m', m' < m ∧ Wv (i + 1) m' σ' H') ∧
        ∀ x H', J.yld i H x H' → tgR X.K bind sl x σ H' fun σ2 H2 => rdS X.K W db { D0 with nx := N, ct := N, bk := D0.nx } σ2 H2)) (Itt X.K a) H1)) := by
    intro F2 d ds R2 hrep hsq h2
    obtain ⟨a, xs, rfl, hrs, hsrc⟩ := seq_src hrep hsq
    refine ⟨a, rfl, ?_⟩
    rcases hsrc with hsrc | hsrc
    · exact .inl ⟨⟨xs, ex_l R2.fh hsrc⟩, loop_ok src_list (fun F' H' σ' e' ef' R' => ⟨xs, ex_l (ef'.trans R'.fh) hsrc, Reps.mono ef' _ _ hrs⟩) R2 h2⟩
    · exact .inr ⟨⟨xs, ex_t R2.fh hsrc⟩, loop_ok src_tup (fun F' H' σ' e' ef' R' => ⟨xs, ex_t (ef'.trans R'.fh) hsrc, Reps.mono ef' _ _ hrs⟩) R2 h2⟩
  obtain ⟨r, hr2, post⟩ := q1
  cases rv with
  | im d =>
    dsimp only at hr2
    cases hsq : seqD d with
    | none => rw [hsq] at hr2; cases hr2
    | some ds =>
      rw [hsq] at hr2
      exact fz hr.1 hr.2 hsq ⟨r, hr2, post⟩
  | new o =>
    dsimp only at hr2
    cases hsq : seqD o.flat with
    | none => rw [hsq] at hr2; cases hr2
    | some ds =>
      rw [hsq] at hr2
      obtain ⟨F3, e3, R3, h3⟩ := RE.freezeT hr
      refine fz R3 h3 hsq ⟨r, hr2, ?_⟩
      cases r with
      | nx m e5 => exact fun F' H' σ' ef' eh R' => post F' H' σ' (e3.trans ef') eh R'
      | rt m e5 rv => exact fun F' H' σ' v' ef' eh R' => post F' H' σ' v' (e3.trans ef') eh R'
      | bk m e5 => exact fun F' H' σ' ef' eh R' => post F' H' σ' (e3.trans ef') eh R'
      | ct m e5 => exact fun F' H' σ' ef' eh R' => post F' H' σ' (e3.trans ef') eh R'
      | er m e5 x => exact fun F' H' σ' cls d ef' eh R' hx => post F' H' σ' cls d (e3.trans ef') eh R' hx
  | bor i o0 =>
    dsimp only at hr2
    cases hi1 : e1[i]? with
    | none => rw [hi1] at hr2; cases hr2
    | some s =>
      rw [hi1] at hr2
      cases s with
      | none => cases hr2
      | some s =>
        obtain ⟨b, o⟩ := s
        dsimp only at hr2
        cases hsq : seqO o with
        | none => rw [hsq] at hr2; cases hr2
        | some ds =>
          rw [hsq] at hr2
          obtain ⟨b', o', v', hb', hv', R3, h3⟩ := AtS.lend ⟨r, hr2, post⟩ hr.1
          rw [hi1] at hb'
          cases hb'
          rw [hr.2.1] at hv'
          cases hv'
          obtain ⟨fs, hown⟩ := R3.temp
          cases o with
          | lst os =>
            have eo := ims_eq hsq
            subst eo
            obtain ⟨a, xs, rr, rfl, _, ha, hos⟩ := hown
            exact ⟨a, rfl, .inl ⟨⟨xs, SqL.of ha⟩, loop_ok src_list (fun F' H' σ' e' ef' R' => by
              obtain ⟨fs', a', xs', rr', e1, _, ha', hos'⟩ := R'.temp
              cases e1
              exact ⟨xs', SqL.of ha', (of_owns_im hos').1⟩) R3 h3⟩⟩
          | tup os =>
            have eo := ims_eq hsq
            subst eo
            obtain ⟨a, xs, rr, rfl, _, ha, hos⟩ := hown
            exact ⟨a, rfl, .inr ⟨⟨xs, SqT.of ha⟩, loop_ok src_tup (fun F' H' σ' e' ef' R' => by
              obtain ⟨fs', a', xs', rr', e1, _, ha', hos'⟩ := R'.temp
              cases e1
              exact ⟨xs', SqT.of ha', (of_owns_im hos').1⟩) R3 h3⟩⟩
          | _ => cases hsq⟩
end
end DL

/-! DLI: ranges, while, lists that grow, items, fields. -/
namespace DL
open PySem PySem.Spec PyProof.Rows L2 Evl

def rangeD (lo : Int) (n : Nat) : List D := (List.range n).map fun (i : Nat) => D.int (lo + (i : Int))
@[simp] def rng1D : List D → Option (List D)
  | [.int n] => if -(2 ^ 62) ≤ n ∧ n < 2 ^ 62 then some (rangeD 0 n.toNat) else none
  | _ => none
@[simp] def rng2D : List D → Option (List D)
  | [.int a, .int b] => if -(2 ^ 62) ≤ a ∧ a < 2 ^ 62 ∧ -(2 ^ 62) ≤ b ∧ b < 2 ^ 62 then some (rangeD a (b - a).toNat) else none
  | _ => none
theorem reps_range {K : PySem.W.Frag} {F : Hp} {lo : Int} {n : Nat} : Reps K F (rangeD lo n) ((List.range n).map fun (i : Nat) => V.int (lo + (i : Int))) := by
  unfold rangeD
  have key : ∀ l : List Nat, Reps K F (l.map fun (i : Nat) => D.int (lo + (i : Int))) (l.map fun (i : Nat) => V.int (lo + (i : Int))) := by
    intro l
    induction l with
    | nil => exact rfl
    | cons a l ih => exact ⟨_, _, rfl, rfl, ih⟩
  exact key _
theorem src_range {lo : Int} {n : Nat} : Src (Itr lo n) (fun xs _ => xs = (List.range n).map fun (i : Nat) => V.int (lo + (i : Int))) where
  go := fun i xs H h hi => by
    subst h
    show i < n
    simpa using hi
  stop := fun i xs H h hi => by
    subst h
    show n ≤ i
    simpa using hi
  yld := fun i xs H x H' h hi hy => by
    subst h
    obtain ⟨e1, e2⟩ := (show H' = H ∧ x = .int (lo + i) from hy)
    refine ⟨e1, ?_⟩
    have hi' : i < n := by simpa using hi
    rw [List.getElem?_map, List.getElem?_range hi', e2]
    rfl
def sforR (g : List D → Option (List D)) (as : Den (List D)) (bind : D → Env → Option Env) (body : SDen) : SDen := sbind as fun vs => match g vs with
  | some ds => sloop bind body ds
  | none => fun _ => none
section
variable {X : Cx} {W : WX} {tg : Expr} {body : List Stmt} {pos p p2 : Pos} {as : Den (List D)} {bind : D → Env → Option Env} {sl : List Nat} {db : SDen} {a b : Expr}
theorem reps_int {K : PySem.W.Frag} {F : Hp} {i : Int} {vs : List V} (h : Reps K F [.int i] vs) : vs = [.int i] := by
  obtain ⟨x, r, rfl, h1, h2⟩ := h
  rw [show x = V.int i from h1, show r = [] from h2]
theorem reps_int2 {K : PySem.W.Frag} {F : Hp} {i j : Int} {vs : List V} (h : Reps K F [.int i, .int j] vs) : vs = [.int i, .int j] := by
  obtain ⟨x, r, rfl, h1, h2⟩ := h
  rw [show x = V.int i from h1, reps_int h2]
theorem rng1_case {vs : List D} {ds : List D} (h : rng1D vs = some ds) : ∃ n : Int, vs = [.int n] ∧ -(2 ^ 62) ≤ n ∧ n < 2 ^ 62 ∧ ds = rangeD 0 n.toNat := by
  unfold rng1D at h
  split at h
  · split at h
    · rename_i n hz
      cases h
      exact ⟨n, rfl, hz.1, hz.2, rfl⟩
    · cases h
  · cases h
theorem rng2_case {vs : List D} {ds : List D} (h : rng2D vs = some ds) : ∃ a b : Int, vs = [.int a, .int b] ∧ (-(2 ^ 62) ≤ a ∧ a < 2 ^ 62 ∧ -(2 ^ 62) ≤ b ∧ b < 2 ^ 62) ∧ ds = rangeD a (b - a).toNat := by
  unfold rng2D at h
  split at h
  · split at h
    · rename_i a b hz
      cases h
      exact ⟨a, b, rfl, hz, rfl⟩
    · cases h
  · cases h
theorem ds_forR1 (hp : PassesOwn (model X.prog X.w) X.A X.env X.xe) (hc : X.calm = true) (hgl : Gl X "range") (hm : X.mg "range" = none) (ha : DA X W [a] as) (hg : DG X tg bind sl) (hb : DSs X W body db)
    (hs0 : starEach [a] X.env = [(false, eval a X.env)] := by rfl) (hs : ∀ x, foldedSetIterable (.Call (.Name "range" p) [a] [] p2) X.env x = pure x := by intro _; rfl) : DS X W (.For tg (.Call (.Name "range" p) [a] [] p2) body [] pos) (sforR rng1D as bind db) :=
  ⟨ps_weak (ps_for hp hc (pi_range1 hgl hm ha.run hs0) hg.run hb.run hs) fun D0 σ H q => by
    obtain ⟨c, F, e, ts, R, q⟩ := q
    refine ⟨c, F, e, ts, R, q.sbind (rel := relA) fun F1 H1 e1 vs v ef hr q1 => ?_⟩
    cases hq : rng1D vs with
    | none =>
      rw [hq] at q1
      obtain ⟨r, hr2, _⟩ := q1
      cases hr2
    | some ds =>
      rw [hq] at q1
      obtain ⟨n, rfl, b1, b2, rfl⟩ := rng1_case hq
      have ev := reps_int hr.2
      subst ev
      exact ⟨n, rfl, b1, b2, loop_ok src_range (fun F' H' σ' e' ef' R' => ⟨_, rfl, reps_range⟩) hr.1 q1⟩⟩
theorem ds_forR2 (hp : PassesOwn (model X.prog X.w) X.A X.env X.xe) (hc : X.calm = true) (hgl : Gl X "range") (hm : X.mg "range" = none) (ha : DA X W [a, b] as) (hg : DG X tg bind sl) (hb : DSs X W body db)
    (hs0 : starEach [a, b] X.env = [(false, eval a X.env), (false, eval b X.env)] := by rfl) (hs1 : starEach [b] X.env = [(false, eval b X.env)] := by rfl) (hs : ∀ x, foldedSetIterable (.Call (.Name "range" p) [a, b] [] p2) X.env x = pure x := by intro _; rfl) :
    DS X W (.For tg (.Call (.Name "range" p) [a, b] [] p2) body [] pos) (sforR rng2D as bind db) :=
  ⟨ps_weak (ps_for hp hc (pi_range2 hgl hm ha.run hs0 hs1) hg.run hb.run hs) fun D0 σ H q => by
    obtain ⟨c, F, e, ts, R, q⟩ := q
    refine ⟨c, F, e, ts, R, q.sbind (rel := relA) fun F1 H1 e1 vs v ef hr q1 => ?_⟩
    cases hq : rng2D vs with
    | none =>
      rw [hq] at q1
      obtain ⟨r, hr2, _⟩ := q1
      cases hr2
    | some ds =>
      rw [hq] at q1
      obtain ⟨a', b', rfl, hz, rfl⟩ := rng2_case hq
      have ev := reps_int2 hr.2
      subst ev
      exact ⟨a', b', rfl, hz, loop_ok src_range (fun F' H' σ' e' ef' R' => ⟨_, rfl, reps_range⟩) hr.1 q1⟩⟩

/-! ### while -/
def swhile (t : Den Bool) (b : SDen) : Nat → SDen
  | 0 => fun _ => none
  | n + 1 => sbind t fun k => if k then (fun e => sturn (b e) (swhile t b n)) else snext
theorem ds_while {t : Expr} {dt : Den Bool} (n : Nat) (hp : PassesOwn (model X.prog X.w) X.A X.env X.xe) (h : DT X W t dt) (hb : DSs X W body db) : DS X W (.While t body [] pos) (swhile dt db n) := ⟨ps_weak (ps_while hp h.run hb.run) fun D0 σ H q => by
  obtain ⟨c, F, e, ts, R, q⟩ := q
  refine ⟨fun m σ H => ∃ F1 e1, RE X.K c F1 H σ e1 ts ∧ AtS X.K W (swhile dt db m) D0 c F1 σ e1 ts H, ⟨n, F, e, R, q⟩, ?_⟩
  rintro m σ1 H1 ⟨F1, e1, R1, q1⟩
  cases m with
  | zero =>
    obtain ⟨r, hr, _⟩ := q1
    cases hr
  | succ m =>
    refine ⟨c, F1, e1, ts, R1, AtS.sbind (rel := relB) (f := fun k => if k then (fun e => sturn (db e) (swhile dt db m)) else snext) q1 fun F2 H2 e2 k v ef hr q2 => ?_⟩
    obtain ⟨R2, rfl⟩ := hr
    cases k with
    | true =>
      refine iteT ⟨fun σ' H' => ∃ F3 e3, RE X.K c F3 H' σ' e3 ts ∧ AtS X.K W (swhile dt db m) D0 c F3 σ' e3 ts H', fun σ' H' hw => ⟨m, Nat.lt_succ_self m, hw⟩, c, F2, e2, ts, R2, ?_⟩
      obtain ⟨r, hr2, post⟩ := q2
      exact AtS.turn ⟨r, hr2, post⟩ fun F3 H3 σ3 e3 ef3 R3 h3 => ⟨F3, e3, R3, h3⟩
    | false => exact iteF (AtS.next q2 R2)⟩

/-! ### a value as a temporary -/
def relO : Rel O V := fun K c F H σ e ts o v => RE K c F H σ e ((v, o) :: ts)
def rvO (rv : Rv) : Den O := fun e => match rv with
  | .im d => some (.ok false e (.im d))
  | .new o => some (.ok false e o)
  | .bor i _ => match e[i]? with
    | some (some (b, o)) => some (.ok false (e.set i (some (b, .im o.flat))) (.im o.flat))
    | _ => none
theorem RE.imT {K : PySem.W.Frag} {c : Ctx} {F H : Hp} {σ : L2.St} {e : Env} {ts : List (V × O)} {d : D} {v : V} (R : RE K c F H σ e ts) (h : Rep K F d v) : RE K c F H σ e ((v, .im d) :: ts) := by
  obtain ⟨hs, fs, a1, a2, a3, a4⟩ := R.hd
  exact ⟨R.g, R.f0, R.fh, R.nw, hs, fs, a1, ⟨[], fs, rfl, ⟨rfl, h⟩, a2⟩, a3, a4⟩
/-- an expression's value, then a statement's rest, with the value as a temporary -/
theorem AtS.tmp {K : PySem.W.Frag} {c : Ctx} {F H : Hp} {σ : L2.St} {e : Env} {ts : List (V × O)} {D0 : Ends} {de : Den Rv} {f : O → SDen} {Q' : V → Hp → Prop} (h : AtS K W (DL.sbind de fun rv => DL.sbind (rvO rv) f) D0 c F σ e ts H)
    (k : ∀ F1 H1 e1 o v, Ex F F1 → RE K c F1 H1 σ e1 ((v, o) :: ts) → AtS K W (f o) D0 c F1 σ e1 ts H1 → Q' v H1) : At relR K W de c F σ e ts H Q' := by
  refine h.sbind (rel := relR) fun F1 H1 e1 rv v ef hr q1 => ?_
  -- the inner step changes no heap
  have step : ∀ {F2 : Hp} {e2 : Env} {o : O}, rvO rv e1 = some (.ok false e2 o) → Ex F1 F2 → RE K c F2 H1 σ e2 ((v, o) :: ts) → Q' v H1 := by
    intro F2 e2 o h2 ef2 R2
    obtain ⟨r, hr2, post⟩ := q1
    unfold DL.sbind at hr2
    rw [h2] at hr2
    exact k F2 H1 e2 o v (ef.trans ef2) R2 (AtS.more hr2 ef2 (fun _ => Ex.refl _) post)
  cases rv with
  | im d => exact step rfl (Ex.refl _) (hr.1.imT hr.2)
  | new o => exact step rfl (Ex.refl _) hr
  | bor i o =>
    obtain ⟨R1, hv, b, hb⟩ := hr
    obtain ⟨F2, w, e2, hw, R2, hrep⟩ := R1.freezeS hb
    rw [hv] at hw
    cases hw
    refine step (F2 := F2) (e2 := e1.set i (some (b, .im o.flat))) (o := .im o.flat) ?_ e2 (R2.imT hrep)
    unfold rvO
    dsimp only
    rw [hb]
/-- a temporary is laid into a list that is another one -/
theorem RE.push {K : PySem.W.Frag} {c : Ctx} {F H : Hp} {σ : L2.St} {e : Env} {ts : List (V × O)} {os : List O} {o : O} {vl v : V} (R : RE K c F H σ e ((vl, .lst os) :: (v, o) :: ts)) :
    ∃ l xs, vl = .ref l ∧ H l = some (.lst xs) ∧ os.length = xs.length ∧ RE K c F (upd H l (.lst (xs ++ [v]))) σ e ((vl, .lst (os ++ [o])) :: ts) := by
  obtain ⟨hs, fs, h1, h2, h3, h4⟩ := R.hd
  obtain ⟨f1, f2, e1, h5, f3, f4, e2, h6, h7⟩ := h2
  obtain ⟨l, xs, r, el, e3, hl, hos⟩ := h5
  subst e3
  subst e2
  subst e1
  refine ⟨l, xs, el, hl, hos.length, ?_⟩
  obtain ⟨q1, q2, q3⟩ := List.nodup_append.mp h3
  obtain ⟨q4, q5⟩ := List.nodup_cons.mp q1
  have lf : F l = none ∧ c.G l = none := h4 l (List.mem_append_left _ List.mem_cons_self)
  have kp : ∀ p, p ≠ l → ∀ u, H p = some u → upd H l (.lst (xs ++ [v])) p = some u := fun p hp u z => by rw [upd_ne hp]; exact z
  have nl : ∀ p, p ∈ r ∨ p ∈ f3 ++ f4 → p ≠ l := fun p hp z => by
    subst z
    rcases hp with hp | hp
    · exact q4 hp
    · exact q3 p List.mem_cons_self p hp rfl
  refine ⟨fun p u z => ?_, R.f0, fun p u z => ?_, R.nw, hs, (l :: (r ++ f3)) ++ f4, h1, ⟨l :: (r ++ f3), f4, rfl, ⟨l, xs ++ [v], r ++ f3, el, rfl, upd_same, ?_⟩, Held.mono (Ex.refl _) (fun p hp => kp p (nl p (.inr (List.mem_append_right _ hp)))) h7⟩, ?_, fun p hp => h4 p ?_⟩
  · have hp : p ≠ l := fun w => by
      subst w
      rw [lf.2] at z
      cases z
    exact kp p hp u (R.g p u z)
  · have hp : p ≠ l := fun w => by
      subst w
      rw [lf.1] at z
      cases z
    exact kp p hp u (R.fh p u z)
  · refine Owns.append (Owns.mono (Ex.refl _) _ _ _ (fun p hp => kp p (nl p (.inl hp))) hos) ?_
    exact ⟨v, [], f3, [], rfl, (List.append_nil _).symm, Own.mono (Ex.refl _) _ _ _ (fun p hp => kp p (nl p (.inr (List.mem_append_left _ hp)))) h6, rfl, rfl⟩
  · have : (l :: (r ++ f3)) ++ f4 = (l :: r) ++ (f3 ++ f4) := by simp
    rw [this]
    exact h3
  · have : (l :: (r ++ f3)) ++ f4 = (l :: r) ++ (f3 ++ f4) := by simp
    rw [this] at hp
    exact hp
/-- x.append(e) -/
def sapp (i : Nat) (de : Den Rv) : SDen := fun e0 => match e0[i]? with
  | some (some (_, .lst _)) => sbind de (fun rv => sbind (rvO rv) fun o e => match e[i]? with
    | some (some (b, .lst os)) => if os.length < sizeLine then some (.nx true (e.set i (some (b, .lst (os ++ [o]))))) else none
    | _ => none) e0
  | _ => none
theorem ds_app {i : Nat} {x : Str} {de : Den Rv} {apos px : Pos} (hx : PE X (.Name x px) (tVar i)) (h : DE X W a de)
    (hpe : ∀ {t : TA}, PA X [a] t → PE X (.Call (.Attribute (.Name x px) "append" apos) [a] [] p) (tBM X.K "list" rAppend (tVar i) t))
    (hs0 : starEach (a :: []) X.env = (false, eval a X.env) :: starEach [] X.env := by rfl) (hs : swapsWith (.Call (.Attribute (.Name x px) "append" apos) [a] [] p) none pos.line X.env = pure false := by rfl) :
    DS X W (.Expr (.Call (.Attribute (.Name x px) "append" apos) [a] [] p) pos) (sapp i de) :=
  ⟨ps_weak (ps_expr (hpe (pa_cons h.run pa_nil hs0)) hs) fun D0 σ H q => by
    obtain ⟨c, F, e, ts, R, r, hr, post⟩ := q
    unfold sapp at hr
    cases he : e[i]? with
    | none => rw [he] at hr; cases hr
    | some s =>
      rw [he] at hr
      cases s with
      | none => cases hr
      | some s =>
        obtain ⟨b, o⟩ := s
        cases o with
        | lst os =>
          obtain ⟨v, fs, hv, l, xs, rr, ev, _, hl, _⟩ := R.slot he
          subst ev
          refine ⟨.ref l, hv, .inl ⟨rfl, xs, SqL.of hl⟩, c, F, e, ts, R, ?_⟩
          have q0 : AtS X.K W (sbind de (fun rv => sbind (rvO rv) fun o e => match e[i]? with
            | some (some (b, .lst os)) => if os.length < sizeLine then some (.nx true (e.set i (some (b, .lst (os ++ [o]))))) else none
            | _ => none)) D0 c F σ e ts H := ⟨r, hr, post⟩
          refine q0.tmp fun F1 H1 e1 o v ef R1 q1 => ?_
          obtain ⟨r1, hr1, post1⟩ := q1
          dsimp only at hr1
          cases he1 : e1[i]? with
          | none => rw [he1] at hr1; cases hr1
          | some s =>
            rw [he1] at hr1
            cases s with
            | none => cases hr1
            | some s =>
              obtain ⟨b1, o1⟩ := s
              cases o1 with
              | lst os1 =>
                dsimp only at hr1
                split at hr1
                · rename_i hz
                  cases hr1
                  obtain ⟨vl, hvl, hb1, R2⟩ := R1.out he1
                  rw [hv] at hvl
                  cases hvl
                  obtain ⟨l', xs1, e3, hl1, hlen, R3⟩ := R2.push
                  cases e3
                  refine ⟨l, xs1, v, rfl, rfl, hl1, by rw [← hlen]; exact hz, ?_⟩
                  have hn : (e1.set i none)[i]? = some none := List.getElem?_set_self (List.getElem?_eq_some_iff.mp he1).1
                  have R4 := R3.inn (b := b1) hn hv hb1
                  rw [List.set_set] at R4
                  exact post1 F1 _ σ (Ex.refl _) (fun z => by cases z) R4
                · cases hr1
              | _ => cases hr1
        | _ => cases hr⟩
end
end DL

/-! DLJ: sources that are walked; list comprehensions. -/
namespace DL
open PySem PySem.Spec PyProof.Rows L2 Evl

/-- an iterator over frozen things -/
def relJ : Rel (List D) It := fun K c F H σ e ts ds J => RE K c F H σ e ts ∧ ∃ P, Src J P ∧ ∀ F' H', Ex F F' → Ex F' H' → ∃ xs, P xs H' ∧ Reps K F' ds xs
structure DPI (X : Cx) (W : WX) (tg iter : Expr) (den : Den (List D)) : Prop where
  run : PI X tg iter (rd relJ X.K W den)
theorem pi_weak {X : Cx} {tg iter : Expr} {t t' : TI} (h : PI X tg iter t) (k : ∀ σ H R, t' σ H R → t σ H R) : PI X tg iter t' := ⟨fun pins s σ H R I q => h.run pins s σ H R I (k σ H R q)⟩
def sq (d : Den D) : Den (List D) := dbind d fun x => dlift (seqD x)
def rg (g : List D → Option (List D)) (d : Den (List D)) : Den (List D) := dbind d fun x => dlift (g x)
section
variable {X : Cx} {W : WX} {tg iter : Expr} {body : List Stmt} {pos p p2 : Pos} {as : Den (List D)} {bind : D → Env → Option Env} {sl : List Nat} {db : SDen} {a b : Expr}
theorem dpi_seq {d : Den D} (h : DI X W iter d) : DPI X W tg iter (sq d) := ⟨pi_weak (pi_seq h.run) fun σ H R q => by
  obtain ⟨c, F, e, ts, R, q⟩ := q
  refine ⟨c, F, e, ts, R, q.bind (rel := relI) fun F1 H1 e1 x v ef hr q1 => ?_⟩
  obtain ⟨ds, hd, k⟩ := q1.lift
  obtain ⟨a, xs, rfl, hrs, hsrc⟩ := seq_src hr.2 hd
  refine ⟨a, rfl, ?_⟩
  rcases hsrc with hsrc | hsrc
  · exact .inl ⟨⟨xs, ex_l hr.1.fh hsrc⟩, k F1 H1 (Itl X.K a) (Ex.refl _) (Ex.refl _) ⟨hr.1, _, src_list, fun F' H' ef fh => ⟨xs, ex_l (ef.trans fh) hsrc, Reps.mono ef _ _ hrs⟩⟩⟩
  · exact .inr ⟨⟨xs, ex_t hr.1.fh hsrc⟩, k F1 H1 (Itt X.K a) (Ex.refl _) (Ex.refl _) ⟨hr.1, _, src_tup, fun F' H' ef fh => ⟨xs, ex_t (ef.trans fh) hsrc, Reps.mono ef _ _ hrs⟩⟩⟩⟩
theorem dpi_range1 (hgl : Gl X "range") (hm : X.mg "range" = none) (ha : DA X W [a] as) (hs0 : starEach [a] X.env = [(false, eval a X.env)] := by rfl) : DPI X W tg (.Call (.Name "range" p) [a] [] p2) (rg rng1D as) := ⟨pi_weak (pi_range1 hgl hm ha.run hs0) fun σ H R q => by
  obtain ⟨c, F, e, ts, R, q⟩ := q
  refine ⟨c, F, e, ts, R, q.bind (rel := relA) fun F1 H1 e1 vs v ef hr q1 => ?_⟩
  obtain ⟨ds, hd, k⟩ := q1.lift
  obtain ⟨n, rfl, b1, b2, rfl⟩ := rng1_case hd
  have ev := reps_int hr.2
  subst ev
  exact ⟨n, rfl, b1, b2, k F1 H1 _ (Ex.refl _) (Ex.refl _) ⟨hr.1, _, src_range, fun F' H' _ _ => ⟨_, rfl, reps_range⟩⟩⟩⟩
theorem dpi_range2 (hgl : Gl X "range") (hm : X.mg "range" = none) (ha : DA X W [a, b] as) (hs0 : starEach [a, b] X.env = [(false, eval a X.env), (false, eval b X.env)] := by rfl) (hs1 : starEach [b] X.env = [(false, eval b X.env)] := by rfl) :
    DPI X W tg (.Call (.Name "range" p) [a, b] [] p2) (rg rng2D as) := ⟨pi_weak (pi_range2 hgl hm ha.run hs0 hs1) fun σ H R q => by
  obtain ⟨c, F, e, ts, R, q⟩ := q
  refine ⟨c, F, e, ts, R, q.bind (rel := relA) fun F1 H1 e1 vs v ef hr q1 => ?_⟩
  obtain ⟨ds, hd, k⟩ := q1.lift
  obtain ⟨a', b', rfl, hz, rfl⟩ := rng2_case hd
  have ev := reps_int2 hr.2
  subst ev
  exact ⟨a', b', rfl, hz, k F1 H1 _ (Ex.refl _) (Ex.refl _) ⟨hr.1, _, src_range, fun F' H' _ _ => ⟨_, rfl, reps_range⟩⟩⟩⟩
/-- for over a frozen source -/
def sforP (src : Den (List D)) (bind : D → Env → Option Env) (body : SDen) : SDen := sbind src fun ds => sloop bind body ds
theorem ds_forP {src : Den (List D)} (hp : PassesOwn (model X.prog X.w) X.A X.env X.xe) (hc : X.calm = true) (hi : DPI X W tg iter src) (hg : DG X tg bind sl) (hb : DSs X W body db) (hs : ∀ x, foldedSetIterable iter X.env x = pure x := by intro _; rfl) :
    DS X W (.For tg iter body [] pos) (sforP src bind db) := ⟨ps_weak (ps_for hp hc hi.run hg.run hb.run hs) fun D0 σ H q => by
  obtain ⟨c, F, e, ts, R, q⟩ := q
  refine ⟨c, F, e, ts, R, q.sbind (rel := relJ) fun F1 H1 e1 ds J ef hr q1 => ?_⟩
  obtain ⟨R1, P, S, hP⟩ := hr
  exact loop_ok S (fun F' H' σ' e' ef' R' => hP F' H' ef' R'.fh) R1 q1⟩

/-! ### list comprehensions -/
def W0 : WX := fun _ _ _ _ => False
/-- the block's own slots are empty at a turn's start -/
def wipeE (e : Env) : List Nat → Env
  | [] => e
  | v :: vs => (wipeE e vs).set v none
/-- the slots as they were: frozen ones alone -/
def wiped (e : Env) (vs : List Nat) : Bool := vs.all fun v => match e[v]? with
  | some none => true
  | some (some (_, .im _)) => true
  | _ => false
def restE (e e' : Env) : List Nat → Env
  | [] => e'
  | v :: vs => (restE e e' vs).set v (e[v]?.getD none)
def cloop (bind : D → Env → Option Env) (tt : Den Bool) (elt : Den Rv) (vs : List Nat) : List D → List O → Env → Option (Res (List O))
  | [], acc, e => some (.ok false e acc)
  | d :: ds, acc, e => match bind d e with
    | none => none
    | some e1 => match tt e1 with
      | some (.ok m1 e2 false) => Res.more (α := Bool) m1 (cloop bind tt elt vs ds acc (wipeE e2 vs))
      | some (.ok m1 e2 true) => match elt e2 with
        | some (.ok m2 e3 rv) => match rvO rv e3 with
          | some (.ok _ e4 o) => if acc.length < sizeLine then Res.more (α := Bool) (m1 || m2) (cloop bind tt elt vs ds (acc ++ [o]) (wipeE e4 vs)) else none
          | _ => none
        | _ => none
      | _ => none
def dcomp (src : Den (List D)) (bind : D → Env → Option Env) (tt : Den Bool) (elt : Den Rv) (vs : List Nat) : Den Rv := dbind src fun ds e => if wiped e vs = true then (match cloop bind tt elt vs ds [] (wipeE e vs) with
  | some (.ok m e' os) => some (.ok m (restE e e' vs) (.new (.lst os)))
  | _ => none) else none
structure DTs (X : Cx) (W : WX) (ifs : List Expr) (den : Den Bool) : Prop where
  run : PTs X ifs (rd relB X.K W den)
theorem pts_weak {ifs : List Expr} {t t' : TT} (h : PTs X ifs t) (k : ∀ σ H Q, t' σ H Q → t σ H Q) : PTs X ifs t' := ⟨fun pins s σ H Q I q => h.run pins s σ H Q I (k σ H Q q)⟩
theorem dts_nil : DTs X W [] (dpure true) := ⟨pts_weak pts_nil fun σ H Q q => by
  obtain ⟨c, F, e, ts, R, q⟩ := q
  exact At.pure (a := true) q F H true (Ex.refl _) (Ex.refl _) ⟨R, rfl⟩⟩
theorem dts_one {c : Expr} {den : Den Bool} (h : DT X W c den) : DTs X W [c] den := ⟨pts_one h.run⟩
end
section
variable {K : PySem.W.Frag} {c : Ctx} {F H : Hp} {σ : L2.St} {e : Env} {ts : List (V × O)}
theorem RE.clr {i : Nat} {x : Option V} (R : RE K c F H σ e ts) (h : e[i]? = some none ∨ ∃ b o, e[i]? = some (some (b, o))) : RE K c F H σ (e.set i none) ts := by
  rcases h with h | ⟨b, o, h⟩
  · have : e.set i none = e := by
      have := (List.getElem?_eq_some_iff.mp h)
      obtain ⟨h1, h2⟩ := this
      conv => rhs; rw [← List.set_getElem_self h1, h2]
    rw [this]
    exact R
  · exact R.clear h
theorem Slots.forget : ∀ {e : Env} {σ σ0 : L2.St} {hs : List (V × O)} {i : Nat}, Slots e σ σ0 hs → e[i]? = some none → ∀ x, Slots e (σ.set i x) σ0 hs
  | [], σ, σ0, hs, i, h, he, x => by simp at he
  | none :: e, σ, σ0, hs, 0, h, he, x => by
    obtain ⟨y, r, e1, h1⟩ := h
    subst e1
    exact ⟨x, r, rfl, h1⟩
  | some q :: e, σ, σ0, hs, 0, h, he, x => by simp at he
  | none :: e, σ, σ0, hs, i + 1, h, he, x => by
    obtain ⟨y, r, e1, h1⟩ := h
    subst e1
    exact ⟨y, r.set i x, rfl, Slots.forget h1 (by simpa using he) x⟩
  | some q :: e, σ, σ0, hs, i + 1, h, he, x => by
    obtain ⟨v, r, hr, e1, hb, e2, h1⟩ := h
    subst e1
    exact ⟨v, r.set i x, hr, rfl, hb, e2, Slots.forget h1 (by simpa using he) x⟩
theorem RE.forget {i : Nat} (R : RE K c F H σ e ts) (h : e[i]? = some none) (x : Option V) : RE K c F H (σ.set i x) e ts := by
  obtain ⟨hs, fs, h1, h2, h3, h4⟩ := R.hd
  exact ⟨R.g, R.f0, R.fh, R.nw, hs, fs, h1.forget h x, h2, h3, h4⟩
theorem wipeE_len (e : Env) : ∀ vs : List Nat, (wipeE e vs).length = e.length
  | [] => rfl
  | v :: vs => by unfold wipeE; rw [List.length_set, wipeE_len e vs]
theorem RE.len (R : RE K c F H σ e ts) : σ.length = e.length := by
  obtain ⟨hs, fs, h1, _⟩ := R.hd
  exact h1.len
theorem RE.wipe (R : RE K c F H σ e ts) : ∀ vs : List Nat, (∀ v ∈ vs, v < e.length) → RE K c F H (L2.wipe σ vs) (wipeE e vs) ts
  | [], _ => R
  | v :: vs, hv => by
    have R1 := RE.wipe R vs (fun w hw => hv w (List.mem_cons_of_mem _ hw))
    have hl : v < (wipeE e vs).length := by rw [wipeE_len]; exact hv v List.mem_cons_self
    have R2 : RE K c F H (L2.wipe σ vs) ((wipeE e vs).set v none) ts := by
      cases q : (wipeE e vs)[v]? with
      | none => exact absurd (List.getElem?_eq_none_iff.mp q) (by omega)
      | some s =>
        cases s with
        | none => exact R1.clr (x := none) (.inl q)
        | some s => obtain ⟨b, o⟩ := s; exact R1.clr (x := none) (.inr ⟨b, o, q⟩)
    exact R2.forget (List.getElem?_set_self hl) none
theorem Slots.ext : ∀ {e : Env} {σ τ σ0 : L2.St} {hs : List (V × O)}, Slots e σ σ0 hs → σ.length = τ.length → (∀ (j : Nat) (q : Bool × O), e[j]? = some (some q) → τ[j]? = σ[j]?) → Slots e τ σ0 hs
  | [], σ, τ, σ0, hs, h, hl, k => by
    obtain ⟨e1, e2⟩ := h
    subst e1
    exact ⟨List.length_eq_zero_iff.mp hl.symm, e2⟩
  | none :: e, σ, τ, σ0, hs, h, hl, k => by
    obtain ⟨x, r, e1, h1⟩ := h
    subst e1
    cases τ with
    | nil => simp at hl
    | cons y t => exact ⟨y, t, rfl, Slots.ext h1 (by simpa using hl) fun j q hj => by simpa using k (j + 1) q (by simpa using hj)⟩
  | some q :: e, σ, τ, σ0, hs, h, hl, k => by
    obtain ⟨v, r, hr, e1, hb, e2, h1⟩ := h
    subst e1
    cases τ with
    | nil => simp at hl
    | cons y t =>
      have hy : y = some v := by simpa using k 0 q rfl
      subst hy
      exact ⟨v, t, hr, rfl, hb, e2, Slots.ext h1 (by simpa using hl) fun j q hj => by simpa using k (j + 1) q (by simpa using hj)⟩
theorem wipe_out (σ : L2.St) : ∀ (vs : List Nat) (j : Nat), j ∉ vs → (L2.wipe σ vs)[j]? = σ[j]?
  | [], j, _ => rfl
  | v :: vs, j, h => by
    unfold L2.wipe
    rw [List.getElem?_set_ne (fun z => h (by rw [← z]; exact List.mem_cons_self))]
    exact wipe_out σ vs j fun z => h (List.mem_cons_of_mem _ z)
theorem RE.awake {vs : List Nat} (R : RE K c F H (L2.wipe σ vs) e ts) (hn : ∀ v ∈ vs, e[v]? = some none) : RE K c F H σ e ts := by
  obtain ⟨hs, fs, h1, h2, h3, h4⟩ := R.hd
  refine ⟨R.g, R.f0, R.fh, R.nw, hs, fs, h1.ext (L2.wipe_length σ vs) fun j q hj => ?_, h2, h3, h4⟩
  refine (wipe_out σ vs j fun z => ?_).symm
  rw [hn j z] at hj
  cases hj
/-- what the block forgot is there again -/
theorem RE.unwipe {e' : Env} {F' H' : Hp} {ts' : List (V × O)} (R0 : RE K c F H σ e ts) (ef : Ex F F') : ∀ vs : List Nat, vs.Nodup → wiped e vs = true → RE K c F' H' σ e' ts' → (∀ v ∈ vs, e'[v]? = some none) → RE K c F' H' σ (restE e e' vs) ts' ∧ ∀ j, j ∉ vs → (restE e e' vs)[j]? = e'[j]?
  | [], _, _, R, _ => ⟨R, fun _ _ => rfl⟩
  | v :: vs, nd, hw, R, hn => by
    obtain ⟨n1, n2⟩ := List.nodup_cons.mp nd
    unfold wiped at hw
    rw [List.all_cons, Bool.and_eq_true] at hw
    obtain ⟨R1, k1⟩ := RE.unwipe R0 ef vs n2 hw.2 R (fun w hwm => hn w (List.mem_cons_of_mem _ hwm))
    have hv : (restE e e' vs)[v]? = some none := by rw [k1 v n1]; exact hn v List.mem_cons_self
    refine ⟨?_, fun j hj => ?_⟩
    · unfold restE
      cases q : e[v]? with
      | none => rw [q] at hw; cases hw.1
      | some s =>
        cases s with
        | none =>
          show RE K c F' H' σ ((restE e e' vs).set v none) ts'
          exact R1.clr (x := none) (.inl hv)
        | some s =>
          obtain ⟨b, o⟩ := s
          cases o with
          | im d =>
            obtain ⟨w, hw2, hb, _⟩ := R0.out q
            obtain ⟨w', hw3, hrep⟩ := R0.slotIm q
            rw [hw2] at hw3
            cases hw3
            exact (R1.imT (Rep.mono ef _ _ hrep)).inn hv hw2 hb
          | _ => rw [q] at hw; cases hw.1
    · unfold restE
      rw [List.getElem?_set_ne (fun z => hj (by rw [← z]; exact List.mem_cons_self))]
      exact k1 j fun z => hj (List.mem_cons_of_mem _ z)
theorem wipeE_in (e : Env) : ∀ (vs : List Nat), (∀ v ∈ vs, v < e.length) → ∀ v ∈ vs, (wipeE e vs)[v]? = some none
  | [], _, v, h => by cases h
  | w :: vs, hl, v, h => by
    unfold wipeE
    by_cases q : w = v
    · subst q
      exact List.getElem?_set_self (by rw [wipeE_len]; exact hl w List.mem_cons_self)
    · rw [List.getElem?_set_ne q]
      rcases List.mem_cons.mp h with z | z
      · exact absurd z.symm q
      · exact wipeE_in e vs (fun u hu => hl u (List.mem_cons_of_mem _ hu)) v z
theorem wiped_lt {e : Env} {vs : List Nat} (h : wiped e vs = true) : ∀ v ∈ vs, v < e.length := fun v hv => by
  unfold wiped at h
  have := List.all_eq_true.mp h v hv
  cases q : e[v]? with
  | none => rw [q] at this; cases this
  | some s => exact (List.getElem?_eq_some_iff.mp q).1
theorem wipe_in (σ : L2.St) : ∀ (vs : List Nat) (j : Nat), j ∈ vs → j < σ.length → (L2.wipe σ vs)[j]? = some none
  | [], j, h, _ => by cases h
  | w :: vs, j, h, hl => by
    unfold L2.wipe
    by_cases q : w = j
    · subst q
      exact List.getElem?_set_self (by rw [L2.wipe_length]; exact hl)
    · rw [List.getElem?_set_ne q]
      rcases List.mem_cons.mp h with z | z
      · exact absurd z.symm q
      · exact wipe_in σ vs j z hl
theorem wipe_off {sl vs : List Nat} {σ σ' : L2.St} (h : Off sl (L2.wipe σ vs) σ') (hs : ∀ i ∈ sl, i ∈ vs) : L2.wipe σ' vs = L2.wipe σ vs := by
  refine List.ext_getElem? fun j => ?_
  have hl : σ'.length = σ.length := h.1.trans (L2.wipe_length σ vs)
  by_cases hj : j ∈ vs
  · by_cases hlt : j < σ.length
    · rw [wipe_in σ' vs j hj (by omega), wipe_in σ vs j hj hlt]
    · rw [List.getElem?_eq_none_iff.mpr (by rw [L2.wipe_length]; omega), List.getElem?_eq_none_iff.mpr (by rw [L2.wipe_length]; omega)]
  · rw [wipe_out σ' vs j hj, h.2 j fun z => hj (hs j z)]
theorem more_ok {α β : Type} {m : Bool} {x : Option (Res β)} {m' : Bool} {e' : Env} {b : β} (h : Res.more (α := α) m x = some (.ok m' e' b)) : ∃ m2, x = some (.ok m2 e' b) ∧ m' = (m || m2) := by
  cases x with
  | none => cases h
  | some r =>
    cases r with
    | ok m2 e2 b2 => cases h; exact ⟨m2, rfl, rfl⟩
    | err m2 e2 x => cases h
end
section
variable {X : Cx} {tg iter elt : Expr} {ifs : List Expr} {scope : Scope} {own : List (Str × Nat)} {pos : Pos} {src : Den (List D)} {bind : D → Env → Option Env} {sl : List Nat} {tt : Den Bool} {de : Den Rv} {W : WX}
/-- the comprehension's reading, from its denotation -/
theorem comp_rd {vs : List Nat} {σ : L2.St} {H : Hp} {Q : VK} (nd : vs.Nodup) (hsl : ∀ i ∈ sl, i ∈ vs) (q : rd relR X.K W (dcomp src bind tt de vs) σ H Q) :
    tLc (rd relJ X.K W src) (tgR X.K bind sl) (rd relB X.K W0 tt) (rd relR X.K W0 de) vs σ H Q := by
  obtain ⟨c, F, e, ts, R, q⟩ := q
  refine ⟨c, F, e, ts, R, q.bind (rel := relJ) fun F1 H1 e1 ds J ef hr q1 => ?_⟩
  obtain ⟨R1, P, S, hP⟩ := hr
  intro Dl hD
  obtain ⟨r, hr2, post⟩ := q1
  dsimp only at hr2
  split at hr2
  · rename_i hw
    cases hcl : cloop bind tt de vs ds [] (wipeE e1 vs) with
    | none => rw [hcl] at hr2; cases hr2
    | some r1 =>
      rw [hcl] at hr2
      cases r1 with
      | err m e' x => cases hr2
      | ok m e' os =>
        cases hr2
        have hlt := wiped_lt hw
        have R2 : RE X.K c F1 (upd H1 Dl (.lst [])) (L2.wipe σ vs) (wipeE e1 vs) ((.ref Dl, .lst []) :: ts) := (R1.newO (u := .lst []) (o := .lst []) hD ⟨Dl, [], [], rfl, rfl, upd_same, ⟨rfl, rfl⟩⟩).wipe vs hlt
        refine ⟨fun i k H => ∃ mm m1 F2 e2 os2, (mm = false → Ex H1 H) ∧ Ex F1 F2 ∧ RE X.K c F2 H (L2.wipe σ vs) e2 ((.ref Dl, .lst os2) :: ts) ∧ (∀ v ∈ vs, e2[v]? = some none) ∧ cloop bind tt de vs (ds.drop i) os2 e2 = some (.ok m1 e' os) ∧ m = (mm || m1) ∧ k + i = ds.length,
          ⟨ds.length, false, m, F1, _, [], fun _ => Ex.new hD, Ex.refl _, R2, wipeE_in e1 vs hlt, hcl, by simp, by omega⟩, ?_⟩
        rintro i k H2 ⟨mm, m1, F2, e2, os2, hex, ef2, R3, hn, hc2, hm, hk⟩
        obtain ⟨xs, p1, hrs⟩ := hP F2 H2 ef2 R3.fh
        have hlen := hrs.length
        by_cases hi : i < xs.length
        · refine .inr ⟨S.go i xs H2 p1 hi, fun H' => ∃ mm m1 F2 e2 os2, (mm = false → Ex H1 H') ∧ Ex F1 F2 ∧ RE X.K c F2 H' (L2.wipe σ vs) e2 ((.ref Dl, .lst os2) :: ts) ∧ (∀ v ∈ vs, e2[v]? = some none) ∧ cloop bind tt de vs (ds.drop (i + 1)) os2 e2 = some (.ok m1 e' os) ∧ m = (mm || m1),
            fun H' ⟨mm, m1, F3, e3, os3, a1, a2, a3, a4, a5, a6⟩ => ⟨k - 1, by omega, mm, m1, F3, e3, os3, a1, a2, a3, a4, a5, a6, by omega⟩, ?_⟩
          intro x H' hy
          obtain ⟨rfl, hx⟩ := S.yld i xs H2 x H' p1 hi hy
          obtain ⟨d, hd, hrep⟩ := hrs.getV i hx
          have hdrop : ds.drop i = d :: ds.drop (i + 1) := by
            have hl : i < ds.length := by omega
            rw [List.drop_eq_getElem_cons hl]
            have := (List.getElem?_eq_some_iff.mp hd).2
            rw [this]
          rw [hdrop] at hc2
          unfold cloop at hc2
          cases hb : bind d e2 with
          | none => rw [hb] at hc2; cases hc2
          | some e3 =>
            rw [hb] at hc2
            dsimp only at hc2
            refine ⟨c, F2, e2, (.ref Dl, .lst os2) :: ts, d, e3, R3, hrep, hb, fun σ' R4 hoff => ⟨wipe_off hoff hsl, c, F2, e3, (.ref Dl, .lst os2) :: ts, R4, ?_⟩⟩
            have hwo := wipe_off hoff hsl
            cases htt : tt e3 with
            | none => rw [htt] at hc2; cases hc2
            | some r2 =>
              rw [htt] at hc2
              cases r2 with
              | err m e x => cases hc2
              | ok mt e4 bt =>
                refine ⟨_, htt, fun F4 H4 bt' ef4 eh4 hrel => ?_⟩
                obtain ⟨R5, rfl⟩ := hrel
                have hlen5 : e4.length = σ.length := R5.len.symm.trans (hoff.1.trans (L2.wipe_length σ vs))
                have hlt5 : ∀ v ∈ vs, v < e4.length := fun v hv => by
                  rw [hlen5, R1.len]
                  exact hlt v hv
                cases bt with
                | false =>
                  refine iteF ?_
                  dsimp only at hc2
                  obtain ⟨m2, hc3, hm2⟩ := more_ok hc2
                  have R6 := R5.wipe vs hlt5
                  rw [hwo] at R6
                  refine ⟨mm || mt, m2, F4, wipeE e4 vs, os2, fun z => (hex (or_l z)).trans (eh4 (or_r z)), ef2.trans ef4, R6, wipeE_in e4 vs hlt5, hc3, ?_⟩
                  rw [hm, hm2, Bool.or_assoc]
                | true =>
                  refine iteT ⟨c, F4, e4, (.ref Dl, .lst os2) :: ts, R5, ?_⟩
                  dsimp only at hc2
                  cases hde : de e4 with
                  | none => rw [hde] at hc2; cases hc2
                  | some r3 =>
                    rw [hde] at hc2
                    cases r3 with
                    | err m e x => cases hc2
                    | ok md e5 rv =>
                      refine ⟨_, hde, fun F5 H5 y ef5 eh5 hrel => ?_⟩
                      dsimp only at hc2
                      cases hrv : rvO rv e5 with
                      | none => rw [hrv] at hc2; cases hc2
                      | some r4 =>
                        rw [hrv] at hc2
                        cases r4 with
                        | err m e x => cases hc2
                        | ok mo e6 o =>
                          dsimp only at hc2
                          split at hc2
                          · rename_i hz
                            obtain ⟨m2, hc3, hm2⟩ := more_ok hc2
                            -- the value as a temporary
                            have tmp : ∃ F6, Ex F5 F6 ∧ RE X.K c F6 H5 σ' e6 ((y, o) :: (.ref Dl, .lst os2) :: ts) := by
                              cases rv with
                              | im d => cases hrv; exact ⟨F5, Ex.refl _, hrel.1.imT hrel.2⟩
                              | new o' => cases hrv; exact ⟨F5, Ex.refl _, hrel⟩
                              | bor i2 o' =>
                                obtain ⟨R7, hv7, b7, hb7⟩ := hrel
                                unfold rvO at hrv
                                dsimp only at hrv
                                rw [hb7] at hrv
                                cases hrv
                                obtain ⟨F6, w, e7, hw7, R8, hrep8⟩ := R7.freezeS hb7
                                rw [hv7] at hw7
                                cases hw7
                                exact ⟨F6, e7, R8.imT hrep8⟩
                            obtain ⟨F6, ef6, R6⟩ := tmp
                            obtain ⟨l, xs', el, hl, hlen', R7⟩ := (R6.perm (List.Perm.swap _ _ _)).push
                            cases el
                            have hlen6 : e6.length = σ.length := R6.len.symm.trans (hoff.1.trans (L2.wipe_length σ vs))
                            have hlt6 : ∀ v ∈ vs, v < e6.length := fun v hv => by
                              rw [hlen6, R1.len]
                              exact hlt v hv
                            have R8 := R7.wipe vs hlt6
                            rw [hwo] at R8
                            refine ⟨xs', hl, by rw [← hlen']; exact hz, mm || (mt || md), m2, F6, wipeE e6 vs, os2 ++ [o], fun z => ?_, ((ef2.trans ef4).trans ef5).trans ef6, R8, wipeE_in e6 vs hlt6, hc3, ?_⟩
                            · have z1 := hex (or_l z)
                              have z2 := eh4 (or_l (or_r z))
                              have z3 := eh5 (or_r (or_r z))
                              exact ((z1.trans z2).trans z3).mut hD
                            · rw [hm, hm2]
                              simp only [Bool.or_assoc]
                          · cases hc2
        · refine .inl ⟨S.stop i xs H2 p1 (by omega), ?_⟩
          have hdrop : ds.drop i = [] := List.drop_eq_nil_of_le (by omega)
          rw [hdrop] at hc2
          cases hc2
          obtain ⟨R4, _⟩ := RE.unwipe R1 ef2 vs nd hw (R3.awake hn) hn
          exact post F2 H2 (.ref Dl) ef2 (fun z => hex (by rw [hm] at z; exact or_l z)) R4
  · cases hr2
theorem de_comp (hc : X.calm = true) (hN : X.N.Nodup) (hi : DPI X W tg iter src) (ok : BlkOk X.N X.env.scope scope own) (nd : (own.map (·.2)).Nodup) (hsl : ∀ i ∈ sl, i ∈ own.map (·.2))
    (hg : ∀ (s : Shared) (H : Hp) (C : Addr) (cl : List (Str × Addr)) (fp : List Addr), DG (X.blk s H scope (compEnvC scope cl C X.env) fp) tg bind sl) (ht : ∀ (s : Shared) (H : Hp) (C : Addr) (cl : List (Str × Addr)) (fp : List Addr), DTs (X.blk s H scope (compEnvC scope cl C X.env) fp) W0 ifs tt)
    (he : ∀ (s : Shared) (H : Hp) (C : Addr) (cl : List (Str × Addr)) (fp : List Addr), DE (X.blk s H scope (compEnvC scope cl C X.env) fp) W0 elt de) (hs : ∀ x, foldedSetIterable iter X.env x = pure x := by intro _; rfl) :
    DE X W (.ListComp elt [⟨tg, iter, ifs, 0⟩] scope pos) (dcomp src bind tt de (own.map (·.2))) :=
  ⟨pe_weak (pe_lc hc hN hi.run ok (fun s H C cl fp => (hg s H C cl fp).run) (fun s H C cl fp => (ht s H C cl fp).run) (fun s H C cl fp => (he s H C cl fp).run) hs) fun σ H Q q => comp_rd nd hsl q⟩
/-- name = [..] -/
theorem ds_setLc {i : Nat} {y : Str} {py spos : Pos} (hc : X.calm = true) (hN : X.N.Nodup) (hy : X.N[i]? = some y) (hyl : X.env.scope.names.lookup y = some .local) (hsw : swapsWith (.ListComp elt [⟨tg, iter, ifs, 0⟩] scope pos) (some (.Name y py)) spos.line X.env = pure true)
    (hi : DPI X W tg iter src) (ok : BlkOk X.N X.env.scope scope own) (nd : (own.map (·.2)).Nodup) (hsl : ∀ i ∈ sl, i ∈ own.map (·.2))
    (hg : ∀ (s : Shared) (H : Hp) (C : Addr) (cl : List (Str × Addr)) (fp : List Addr), DG (X.blk s H scope (compEnvC scope cl C X.env) fp) tg bind sl) (ht : ∀ (s : Shared) (H : Hp) (C : Addr) (cl : List (Str × Addr)) (fp : List Addr), DTs (X.blk s H scope (compEnvC scope cl C X.env) fp) W0 ifs tt)
    (he : ∀ (s : Shared) (H : Hp) (C : Addr) (cl : List (Str × Addr)) (fp : List Addr), DE (X.blk s H scope (compEnvC scope cl C X.env) fp) W0 elt de) (hs : ∀ x, foldedSetIterable iter X.env x = pure x := by intro _; rfl) :
    DS X W (.Assign [.Name y py] (.ListComp elt [⟨tg, iter, ifs, 0⟩] scope pos) spos) (sset i (dcomp src bind tt de (own.map (·.2)))) :=
  ⟨ps_weak (ps_setLc hc hN hy hyl hsw hi.run ok (fun s H C cl fp => (hg s H C cl fp).run) (fun s H C cl fp => (ht s H C cl fp).run) (fun s H C cl fp => (he s H C cl fp).run) hs) fun D0 σ H q => by
    obtain ⟨c, F, e, ts, R, q⟩ := q
    show tLc _ _ _ _ _ σ H (fun x H1 => D0.nx (σ.set i (some x)) H1)
    exact comp_rd nd hsl ⟨c, F, e, ts, R, q.set⟩⟩
end
end DL

/-! DLK: items, slices, fields, built-in calls. -/
namespace DL
open PySem PySem.Spec PyProof.Rows L2 Evl

/-! ### a value that is looked into: frozen, or a slot's -/
def relA1 : Rel AR V := fun K c F H σ e ts a v => RE K c F H σ e ts ∧ match a with
  | .im d => Rep K F d v
  | .bor i => σ[i]? = some (some v)
def ar1 (d : Den Rv) : Den AR := dbind d fun r => dpure (darg r)
theorem At.ar {K : PySem.W.Frag} {W : WX} {c : Ctx} {F H : Hp} {σ : L2.St} {e : Env} {ts : List (V × O)} {d : Den Rv} {γ δ : Type} {rel2 : Rel γ δ} {f : AR → Den γ} {Q : δ → Hp → Prop} {Q' : V → Hp → Prop} (h : At rel2 K W (dbind (ar1 d) f) c F σ e ts H Q)
    (k : ∀ F1 H1 e1 a v, Ex F F1 → relA1 K c F1 H1 σ e1 ts a v → At rel2 K W (f a) c F1 σ e1 ts H1 Q → Q' v H1) : At relR K W d c F σ e ts H Q' := by
  obtain ⟨r, hr, post⟩ := h
  unfold dbind at hr
  cases hd : d e with
  | none =>
    unfold ar1 dbind at hr
    rw [hd] at hr
    cases hr
  | some r1 =>
    cases r1 with
    | err m e1 x =>
      unfold ar1 dbind at hr
      rw [hd] at hr
      cases hr
      exact ⟨_, hd, post⟩
    | ok m e1 rv =>
      have h1 : ar1 d e = some (.ok m e1 (darg rv)) := by
        unfold ar1 dbind
        rw [hd]
        show some (Res.ok (m || false) e1 (darg rv)) = _
        rw [Bool.or_false]
      rw [h1] at hr
      refine ⟨_, hd, fun F1 H1 v ef eh hrel => ?_⟩
      have go : ∀ F2, Ex F1 F2 → relA1 K c F2 H1 σ e1 ts (darg rv) v → Q' v H1 := fun F2 e12 hra => by
        refine k F2 H1 e1 (darg rv) v (ef.trans e12) hra ?_
        dsimp only at hr
        cases hf : f (darg rv) e1 with
        | none => rw [hf] at hr; cases hr
        | some r2 =>
          rw [hf] at hr
          refine ⟨r2, hf, ?_⟩
          cases r2 with
          | err m2 e2 x =>
            cases hr
            exact fun F' H' cls d ef' eh' R hx => post F' H' cls d ((ef.trans e12).trans ef') (fun z => (eh (or_l z)).trans (eh' (or_r z))) R hx
          | ok m2 e2 b =>
            cases hr
            exact fun F' H' w ef' eh' hrel' => post F' H' w ((ef.trans e12).trans ef') (fun z => (eh (or_l z)).trans (eh' (or_r z))) hrel'
      cases rv with
      | im d => exact go F1 (Ex.refl _) hrel
      | new o =>
        obtain ⟨F3, e3, R3, h3⟩ := RE.freezeT hrel
        exact go F3 e3 ⟨R3, h3⟩
      | bor i o => exact go F1 (Ex.refl _) ⟨hrel.1, hrel.2.1⟩
/-! ### items -/
@[simp] def elemD : D → D → Option D
  | .tup ds, .int i => atI ds i
  | .wtp ds, .int i => atI ds i
  | .lst ds, .int i => atI ds i
  | .scr ds, .int i => atI ds i
  | .str z, .int i => if z.length ≤ sizeLine then (atI z.cps.toList i).map fun c => .str ⟨#[c]⟩ else none
  | _, _ => none
@[simp] def imO : O → Option D
  | .im d => some d
  | _ => none
def elemO : O → D → Option D
  | .lst os, .int i => (atI os i).bind imO
  | .tup os, .int i => (atI os i).bind imO
  | .im d, i => elemD d i
  | _, _ => none
def slotO (e : Env) (i : Nat) : Option O := match e[i]? with
  | some (some (_, o)) => some o
  | _ => none
def elemA (a : AR) (i : D) : Den D := fun e => match a with
  | .im d => (elemD d i).map fun x => Res.ok false e x
  | .bor k => ((slotO e k).bind fun o => elemO o i).map fun x => Res.ok false e x
def dix (da : Den Rv) (di : Den D) : Den D := dbind (ar1 da) fun a => dbind di fun i => elemA a i
theorem atI_reps {K : PySem.W.Frag} {F : Hp} {ds : List D} {xs : List V} {i : Int} {d : D} (h : Reps K F ds xs) (e : atI ds i = some d) : ∃ x, atI xs i = some x ∧ Rep K F d x := by
  unfold atI at e ⊢
  rw [h.length] at e
  obtain ⟨j, hj, e2⟩ := Option.bind_eq_some_iff.mp e
  obtain ⟨x, hx, hr⟩ := h.get j e2
  exact ⟨x, by rw [hj]; exact hx, hr⟩
theorem atI_owns {K : PySem.W.Frag} {F H : Hp} {os : List O} {xs : List V} {fs : List Addr} {i : Int} {d : D} (h : Owns K F H os xs fs) (e : atI os i = some (.im d)) : ∃ x, atI xs i = some x ∧ Rep K F d x := by
  unfold atI at e ⊢
  rw [h.length] at e
  obtain ⟨j, hj, e2⟩ := Option.bind_eq_some_iff.mp e
  have key : ∀ {os : List O} {xs : List V} {fs : List Addr} {j : Nat}, Owns K F H os xs fs → os[j]? = some (.im d) → ∃ x, xs[j]? = some x ∧ Rep K F d x := by
    intro os
    induction os with
    | nil => intro xs fs j _ z; simp at z
    | cons o os ih =>
      intro xs fs j h z
      obtain ⟨x, r, f1, f2, e1, _, h1, h2⟩ := h
      subst e1
      cases j with
      | zero =>
        have : o = .im d := by simpa using z
        subst this
        exact ⟨x, rfl, h1.2⟩
      | succ j =>
        obtain ⟨y, hy, hr⟩ := ih h2 (by simpa using z)
        exact ⟨y, by simpa using hy, hr⟩
  obtain ⟨x, hx, hr⟩ := key h e2
  exact ⟨x, by rw [hj]; exact hx, hr⟩
theorem imO_eq {o : Option O} {d : D} (h : o.bind imO = some d) : o = some (.im d) := by
  obtain ⟨x, hx, h2⟩ := Option.bind_eq_some_iff.mp h
  cases x <;> cases h2
  exact hx
theorem elemD_ok {K : PySem.W.Frag} {F H : Hp} {d i x : D} {v u : V} {Q : VK} (fh : Ex F H) (h : Rep K F d v) (hi : Rep K F i u) (e : elemD d i = some x) (k : ∀ w, Rep K F x w → Q w H) : rIx K v u H Q := by
  unfold elemD at e
  split at e
  · obtain ⟨a, xs, rfl, h1, h2⟩ := h
    obtain ⟨w, hw, hr⟩ := atI_reps h2 e
    exact .inr (.inl ⟨a, xs, _, w, rfl, hi, SqT.of (fh _ _ h1), hw, k w hr⟩)
  · obtain ⟨a, xs, rfl, h1, h2⟩ := h
    obtain ⟨w, hw, hr⟩ := atI_reps h2 e
    exact .inr (.inl ⟨a, xs, _, w, rfl, hi, ex_t fh h1, hw, k w hr⟩)
  · obtain ⟨a, xs, rfl, h1, h2⟩ := h
    obtain ⟨w, hw, hr⟩ := atI_reps h2 e
    exact .inl ⟨a, xs, _, w, rfl, hi, SqL.of (fh _ _ h1), hw, k w hr⟩
  · obtain ⟨a, xs, rfl, h1, h2⟩ := h
    obtain ⟨w, hw, hr⟩ := atI_reps h2 e
    exact .inl ⟨a, xs, _, w, rfl, hi, ex_l fh h1, hw, k w hr⟩
  · split at e
    · rename_i hz
      obtain ⟨cc, hc, e2⟩ := Option.map_eq_some_iff.mp e
      subst e2
      exact .inr (.inr ⟨_, _, cc, h, hi, hz, hc, k _ rfl⟩)
    · cases e
  · cases e
theorem elemO_ok {K : PySem.W.Frag} {F H : Hp} {o : O} {i x : D} {v u : V} {fs : List Addr} {Q : VK} (fh : Ex F H) (h : Own K F H o v fs) (hi : Rep K F i u) (e : elemO o i = some x) (k : ∀ w, Rep K F x w → Q w H) : rIx K v u H Q := by
  unfold elemO at e
  split at e
  · obtain ⟨a, xs, r, rfl, _, h1, h2⟩ := h
    obtain ⟨w, hw, hr⟩ := atI_owns h2 (imO_eq e)
    exact .inl ⟨a, xs, _, w, rfl, hi, SqL.of h1, hw, k w hr⟩
  · obtain ⟨a, xs, r, rfl, _, h1, h2⟩ := h
    obtain ⟨w, hw, hr⟩ := atI_owns h2 (imO_eq e)
    exact .inr (.inl ⟨a, xs, _, w, rfl, hi, SqT.of h1, hw, k w hr⟩)
  · exact elemD_ok fh h.2 hi e k
  · cases e
theorem slotO_eq {e : Env} {i : Nat} {o : O} (h : slotO e i = some o) : ∃ b, e[i]? = some (some (b, o)) := by
  unfold slotO at h
  split at h
  · rename_i b o' he
    cases h
    exact ⟨b, he⟩
  · cases h
section
variable {X : Cx} {W : WX} {a b ex : Expr} {pos p : Pos} {da : Den Rv} {di : Den D}
theorem di_ix (ha : DE X W a da) (hb : DI X W b di) (hs : PlainIx b := by exact fun _ _ => rfl) : DI X W (.Subscript a b pos) (dix da di) := ⟨pe_weak (pe_ix ix_seq ha.run hb.run hs) fun σ H Q q => by
  obtain ⟨c, F, e, ts, R, q⟩ := q
  refine ⟨c, F, e, ts, R, q.ar fun F1 H1 e1 x v ef hr q1 => ⟨c, F1, e1, ts, hr.1, q1.bind (rel := relI) fun F2 H2 e2 y u ef2 hr2 q2 => ?_⟩⟩
  obtain ⟨r, hr3, post⟩ := q2
  unfold elemA at hr3
  cases x with
  | im d =>
    obtain ⟨z, hz, e3⟩ := Option.map_eq_some_iff.mp hr3
    subst e3
    exact elemD_ok hr2.1.fh (Rep.mono ef2 _ _ hr.2) hr2.2 hz fun w hw => post F2 H2 w (Ex.refl _) (fun _ => Ex.refl _) ⟨hr2.1, hw⟩
  | bor k =>
    obtain ⟨z, hz, e3⟩ := Option.map_eq_some_iff.mp hr3
    subst e3
    obtain ⟨o, ho, hel⟩ := Option.bind_eq_some_iff.mp hz
    obtain ⟨b, hb⟩ := slotO_eq ho
    obtain ⟨w, fs, hw, how⟩ := hr2.1.slot hb
    rw [hr.2] at hw
    cases hw
    exact elemO_ok hr2.1.fh how hr2.2 hel fun w hw => post F2 H2 w (Ex.refl _) (fun _ => Ex.refl _) ⟨hr2.1, hw⟩⟩
/-! ### fields -/
def fldA (Cs : List Addr) (f : Str) (a : AR) : Den D := fun e => match a with
  | .im (.ins C ns ds) => if C ∈ Cs then ((ns.zip ds).lookup f).map fun x => Res.ok false e x else none
  | .im _ => none
  | .bor k => match slotO e k with
    | some (.ins C ns os) => if C ∈ Cs then (((ns.zip os).lookup f).bind imO).map fun x => Res.ok false e x else none
    | _ => none
theorem reps_look {K : PySem.W.Frag} {F : Hp} {f : Str} {d : D} : ∀ {ns : List Str} {ds : List D} {xs : List V}, Reps K F ds xs → (ns.zip ds).lookup f = some d → ∃ x, (ns.zip xs).lookup f = some x ∧ Rep K F d x
  | [], ds, xs, h, e => by simp at e
  | n :: ns, [], xs, h, e => by simp at e
  | n :: ns, d0 :: ds, xs, h, e => by
    obtain ⟨x, r, rfl, h1, h2⟩ := h
    rw [List.zip_cons_cons, List.lookup_cons] at e ⊢
    by_cases q : f == n
    · rw [q] at e ⊢
      cases e
      exact ⟨x, rfl, h1⟩
    · rw [Bool.not_eq_true] at q
      rw [q] at e ⊢
      exact reps_look h2 e
theorem owns_look {K : PySem.W.Frag} {F H : Hp} {f : Str} {d : D} : ∀ {ns : List Str} {os : List O} {xs : List V} {fs : List Addr}, Owns K F H os xs fs → (ns.zip os).lookup f = some (.im d) → ∃ x, (ns.zip xs).lookup f = some x ∧ Rep K F d x
  | [], ds, xs, fs, h, e => by simp at e
  | n :: ns, [], xs, fs, h, e => by simp at e
  | n :: ns, o :: os, xs, fs, h, e => by
    obtain ⟨x, r, f1, f2, rfl, _, h1, h2⟩ := h
    rw [List.zip_cons_cons, List.lookup_cons] at e ⊢
    by_cases q : f == n
    · rw [q] at e ⊢
      cases e
      exact ⟨x, rfl, h1.2⟩
    · rw [Bool.not_eq_true] at q
      rw [q] at e ⊢
      exact owns_look h2 e
theorem di_fld {Cs : List Addr} {f : Str} (ha : DE X W a da) (hC : ∀ C ∈ Cs, Cls X.K C ∧ NoAttr X.K C f) (hb : attributeBase a f X.env (eval a X.env) = eval a X.env := by rfl) : DI X W (.Attribute a f pos) (dbind (ar1 da) (fldA Cs f)) := ⟨pe_weak (pe_fld ha.run hb) fun σ H Q q => by
  obtain ⟨c, F, e, ts, R, q⟩ := q
  refine ⟨c, F, e, ts, R, q.ar fun F1 H1 e1 x v ef hr q1 => ?_⟩
  obtain ⟨r, hr3, post⟩ := q1
  unfold fldA at hr3
  split at hr3
  · split at hr3
    · rename_i C ns ds hmem
      obtain ⟨z, hz, e3⟩ := Option.map_eq_some_iff.mp hr3
      subst e3
      obtain ⟨a, dx, xs, rfl, h1, _, h2⟩ := hr.2
      obtain ⟨w, hw, hrep⟩ := reps_look h2 hz
      exact ⟨a, C, dx, _, w, rfl, hr.1.fh _ _ h1, (hC C hmem).1, (hC C hmem).2, hw, post F1 H1 w (Ex.refl _) (fun _ => Ex.refl _) ⟨hr.1, hrep⟩⟩
    · cases hr3
  · cases hr3
  · split at hr3
    · split at hr3
      · rename_i k C ns os hs hmem
        obtain ⟨z, hz, e3⟩ := Option.map_eq_some_iff.mp hr3
        subst e3
        obtain ⟨b, hb⟩ := slotO_eq hs
        obtain ⟨w, fs, hw, a, dx, xs, rr, rfl, _, h1, _, h2⟩ := hr.1.slot hb
        have ev := hr.2
        dsimp only at ev
        rw [hw] at ev
        cases ev
        obtain ⟨w, hw, hrep⟩ := owns_look h2 (imO_eq hz)
        exact ⟨a, C, dx, _, w, rfl, h1, (hC C hmem).1, (hC C hmem).2, hw, post F1 H1 w (Ex.refl _) (fun _ => Ex.refl _) ⟨hr.1, hrep⟩⟩
      · cases hr3
    · cases hr3⟩
/-! ### built-in calls over what is seen -/
@[simp] def lenD : List D → Option D
  | [.str z] => if z.length ≤ sizeLine then some (.int z.length) else none
  | [.tup ds] => some (.int ds.length)
  | [.wtp ds] => some (.int ds.length)
  | [.lst ds] => some (.int ds.length)
  | [.scr ds] => some (.int ds.length)
  | _ => none
theorem reps1 {K : PySem.W.Frag} {F : Hp} {d : D} {xs : List V} (h : Reps K F [d] xs) : ∃ v, xs = [v] ∧ Rep K F d v := by
  obtain ⟨x, r, rfl, h1, h2⟩ := h
  exact ⟨x, by rw [show r = [] from h2], h1⟩
theorem reps2 {K : PySem.W.Frag} {F : Hp} {d d2 : D} {xs : List V} (h : Reps K F [d, d2] xs) : ∃ v v2, xs = [v, v2] ∧ Rep K F d v ∧ Rep K F d2 v2 := by
  obtain ⟨x, r, rfl, h1, h2⟩ := h
  obtain ⟨y, rfl, h3⟩ := reps1 h2
  exact ⟨x, y, rfl, h1, h3⟩
theorem ok_len : CallOkV X.K (fun xs H Q => ∃ x n, xs = [x] ∧ LenV X.K x H n ∧ Q (.int n) H) lenD := by
  intro H xs ds d h hg
  unfold lenD at hg
  split at hg
  · split at hg
    · rename_i hz
      cases hg
      obtain ⟨v, rfl, h1⟩ := reps1 h
      exact ⟨.int _, fun _ => rfl, fun Q q => ⟨v, _, rfl, by rw [show v = V.str _ from h1]; exact ⟨hz, rfl⟩, q⟩⟩
    · cases hg
  · cases hg
    obtain ⟨v, rfl, a, ys, rfl, h1, h2⟩ := reps1 h
    exact ⟨.int _, fun _ => rfl, fun Q q => ⟨_, _, rfl, .inr ⟨ys, SqT.of h1, h2.length⟩, q⟩⟩
  · cases hg
    obtain ⟨v, rfl, a, ys, rfl, h1, h2⟩ := reps1 h
    exact ⟨.int _, fun _ => rfl, fun Q q => ⟨_, _, rfl, .inr ⟨ys, h1, h2.length⟩, q⟩⟩
  · cases hg
    obtain ⟨v, rfl, a, ys, rfl, h1, h2⟩ := reps1 h
    exact ⟨.int _, fun _ => rfl, fun Q q => ⟨_, _, rfl, .inl ⟨ys, SqL.of h1, h2.length⟩, q⟩⟩
  · cases hg
    obtain ⟨v, rfl, a, ys, rfl, h1, h2⟩ := reps1 h
    exact ⟨.int _, fun _ => rfl, fun Q q => ⟨_, _, rfl, .inl ⟨ys, h1, h2.length⟩, q⟩⟩
  · cases hg
@[simp] def absD : List D → Option D
  | [.int i] => some (.int (if i < 0 then -i else i))
  | _ => none
theorem ok_abs {K : PySem.W.Frag} : CallOkV K (fun xs H Q => ∃ i, xs = [.int i] ∧ Q (.int (if i < 0 then -i else i)) H) absD := by
  intro H xs ds d h hg
  unfold absD at hg
  split at hg
  · cases hg
    exact ⟨.int _, fun _ => rfl, fun Q q => ⟨_, reps_int h, q⟩⟩
  · cases hg
@[simp] def minD : List D → Option D
  | [.int i, .int j] => some (.int (if j < i then j else i))
  | _ => none
@[simp] def maxD : List D → Option D
  | [.int i, .int j] => some (.int (if j > i then j else i))
  | _ => none
theorem ok_min {K : PySem.W.Frag} : CallOkV K (fun xs H Q => ∃ i j, xs = [.int i, .int j] ∧ Q (.int (if j < i then j else i)) H) minD := by
  intro H xs ds d h hg
  unfold minD at hg
  split at hg
  · cases hg
    exact ⟨.int _, fun _ => rfl, fun Q q => ⟨_, _, reps_int2 h, q⟩⟩
  · cases hg
theorem ok_max {K : PySem.W.Frag} : CallOkV K (fun xs H Q => ∃ i j, xs = [.int i, .int j] ∧ Q (.int (if j > i then j else i)) H) maxD := by
  intro H xs ds d h hg
  unfold maxD at hg
  split at hg
  · cases hg
    exact ⟨.int _, fun _ => rfl, fun Q q => ⟨_, _, reps_int2 h, q⟩⟩
  · cases hg
@[simp] def intD : List D → Option D
  | [.int i] => some (.int i)
  | [.bl k] => some (.int (if k then 1 else 0))
  | _ => none
theorem ok_int {K : PySem.W.Frag} : CallOkV K (fun xs H Q => (∃ i, xs = [.int i] ∧ Q (.int i) H) ∨ ∃ k, xs = [.bl k] ∧ Q (.int (if k then 1 else 0)) H) intD := by
  intro H xs ds d h hg
  unfold intD at hg
  split at hg
  · cases hg
    exact ⟨.int _, fun _ => rfl, fun Q q => .inl ⟨_, reps_int h, q⟩⟩
  · cases hg
    obtain ⟨v, rfl, h1⟩ := reps1 h
    exact ⟨.int _, fun _ => rfl, fun Q q => .inr ⟨_, by rw [show v = V.bl _ from h1], q⟩⟩
  · cases hg
@[simp] def strD : List D → Option D
  | [.int i] => if i.natAbs.log2 < 1920 then some (.str (toString i)) else none
  | _ => none
theorem ok_str {K : PySem.W.Frag} : CallOkV K (fun xs H Q => ∃ i, xs = [.int i] ∧ i.natAbs.log2 < 1920 ∧ Q (.str (toString i)) H) strD := by
  intro H xs ds d h hg
  unfold strD at hg
  split at hg
  · split at hg
    · rename_i hz
      cases hg
      exact ⟨.str _, fun _ => rfl, fun Q q => ⟨_, reps_int h, hz, q⟩⟩
    · cases hg
  · cases hg
/-- the ints of a list -/
def intsD : List D → Option (List Int)
  | [] => some []
  | .int i :: ds => (intsD ds).map fun is => i :: is
  | _ :: _ => none
theorem reps_ints {K : PySem.W.Frag} {F : Hp} : ∀ {ds : List D} {xs : List V} {is : List Int}, Reps K F ds xs → intsD ds = some is → xs = is.map V.int
  | [], xs, is, h, e => by cases e; exact h
  | .int i :: ds, xs, is, h, e => by
    obtain ⟨x, r, rfl, h1, h2⟩ := h
    obtain ⟨js, hj, e2⟩ := Option.map_eq_some_iff.mp e
    subst e2
    rw [List.map_cons, ← reps_ints h2 hj, show x = V.int i from h1]
  | .any :: ds, xs, is, h, e => by cases e
  | .non :: ds, xs, is, h, e => by cases e
  | .bl _ :: ds, xs, is, h, e => by cases e
  | .str _ :: ds, xs, is, h, e => by cases e
  | .ty _ :: ds, xs, is, h, e => by cases e
  | .adr _ :: ds, xs, is, h, e => by cases e
  | .tup _ :: ds, xs, is, h, e => by cases e
  | .wtp _ :: ds, xs, is, h, e => by cases e
  | .lst _ :: ds, xs, is, h, e => by cases e
  | .scr _ :: ds, xs, is, h, e => by cases e
  | .dct _ _ :: ds, xs, is, h, e => by cases e
  | .ins _ _ _ :: ds, xs, is, h, e => by cases e
@[simp] def sumD : List D → Option D
  | [.lst ds] => (intsD ds).map fun is => .int is.sum
  | [.scr ds] => (intsD ds).map fun is => .int is.sum
  | _ => none
theorem ok_sum {K : PySem.W.Frag} : CallOkV K (rSum K) sumD := by
  intro H xs ds d h hg
  unfold sumD at hg
  split at hg
  · obtain ⟨is, hi, rfl⟩ := Option.map_eq_some_iff.mp hg
    obtain ⟨v, rfl, a, ys, rfl, h1, h2⟩ := reps1 h
    have e := reps_ints h2 hi
    subst e
    exact ⟨.int _, fun _ => rfl, fun Q q => ⟨a, is, rfl, SqL.of h1, q⟩⟩
  · obtain ⟨is, hi, rfl⟩ := Option.map_eq_some_iff.mp hg
    obtain ⟨v, rfl, a, ys, rfl, h1, h2⟩ := reps1 h
    have e := reps_ints h2 hi
    subst e
    exact ⟨.int _, fun _ => rfl, fun Q q => ⟨a, is, rfl, h1, q⟩⟩
  · cases hg
/-- isinstance against a built-in class -/
@[simp] def tyD : D → Option String
  | .non => some "NoneType"
  | .bl _ => some "bool"
  | .int _ => some "int"
  | .str _ => some "str"
  | .tup _ => some "tuple"
  | .lst _ => some "list"
  | _ => none
theorem tyD_ok {K : PySem.W.Frag} {H : Hp} {d : D} {v : V} {t : String} (h : Rep K H d v) (e : tyD d = some t) : TyX K H v (.type t) := by
  cases d with
  | non => cases e; rw [show v = V.non from h]; exact .base .non
  | bl b => cases e; rw [show v = V.bl b from h]; exact .base (.bl b)
  | int b => cases e; rw [show v = V.int b from h]; exact .base (.int b)
  | str b => cases e; rw [show v = V.str b from h]; exact .base (.str b)
  | tup ds => cases e; obtain ⟨a, xs, rfl, h1, _⟩ := h; exact .base (.tup h1)
  | lst ds => cases e; obtain ⟨a, xs, rfl, h1, _⟩ := h; exact .base (.lst h1)
  | _ => cases e
@[simp] def isiD : List D → Option D
  | [d, .ty n] => (tyD d).bind fun t => (kitB t n).map D.bl
  | _ => none
theorem ok_isi {K : PySem.W.Frag} : CallOkV K (rIsi K) isiD := by
  intro H xs ds d h hg
  unfold isiD at hg
  split at hg
  · obtain ⟨t, ht, hk⟩ := Option.bind_eq_some_iff.mp hg
    obtain ⟨b, hb, rfl⟩ := Option.map_eq_some_iff.mp hk
    obtain ⟨v, v2, rfl, h1, h2⟩ := reps2 h
    exact ⟨.bl b, fun _ => rfl, fun Q q => ⟨v, v2, _, _, b, rfl, by rw [show v2 = V.ty _ from h2]; exact .ty _, tyD_ok h1 ht, kit_ty hb, q⟩⟩
  · cases hg
/-- a built-in class's name -/
theorem di_ty {x : Str} {n : String} (hg : Gl X x) (hm : X.mg x = none) (hv : bootBuiltins x = some (.type n)) (hn : x ≠ "__name__" := by decide) (hd : (x == ("__debug__" : Str)) = false := by decide) : DI X W (.Name x pos) (dpure (.ty n)) := di_c (pe_bltn (v := .ty n) hg hm hv rfl hn hd) fun _ => rfl
/-- a constant of the module -/
theorem di_gint {x : Str} {i : Int} {t : Tok} (hg : Gl X x) (hm : X.mg x = some (.int i t)) (hd : (x == ("__debug__" : Str)) = false := by decide) : DI X W (.Name x pos) (dpure (.int i)) := di_c (pe_glob (v := .int i) hg hm ⟨t, rfl⟩ hd) fun _ => rfl
theorem di_gstr {x : Str} {i : Str} {t : Tok} (hg : Gl X x) (hm : X.mg x = some (.str i t)) (hd : (x == ("__debug__" : Str)) = false := by decide) : DI X W (.Name x pos) (dpure (.str i)) := di_c (pe_glob (v := .str i) hg hm ⟨t, rfl⟩ hd) fun _ => rfl
/-! ### list(x), tuple(x) -/
def seqA (a : AR) : Den (List D) := fun e => match a with
  | .im d => (seqD d).map fun x => Res.ok false e x
  | .bor k => ((slotO e k).bind seqO).map fun x => Res.ok false e x
/-- a list or a tuple at hand -/
theorem seqA_ok {K : PySem.W.Frag} {c : Ctx} {F H : Hp} {σ : L2.St} {e e' : Env} {ts : List (V × O)} {a : AR} {v : V} {ds : List D} {m : Bool} (h : relA1 K c F H σ e ts a v) (hs : seqA a e = some (.ok m e' ds)) : e' = e ∧ m = false ∧ ∃ p xs, v = .ref p ∧ Reps K F ds xs ∧ (SqL K H p xs ∨ SqT K H p xs) := by
  unfold seqA at hs
  cases a with
  | im d =>
    obtain ⟨z, hz, e3⟩ := Option.map_eq_some_iff.mp hs
    cases e3
    obtain ⟨p, xs, e1, h1, h2⟩ := seq_src h.2 hz
    refine ⟨rfl, rfl, p, xs, e1, h1, ?_⟩
    rcases h2 with h2 | h2
    · exact .inl (ex_l h.1.fh h2)
    · exact .inr (ex_t h.1.fh h2)
  | bor k =>
    obtain ⟨z, hz, e3⟩ := Option.map_eq_some_iff.mp hs
    cases e3
    obtain ⟨o, ho, hel⟩ := Option.bind_eq_some_iff.mp hz
    obtain ⟨b, hb⟩ := slotO_eq ho
    obtain ⟨w, fs, hw, how⟩ := h.1.slot hb
    have ev := h.2
    dsimp only at ev
    rw [hw] at ev
    cases ev
    cases o with
    | lst os =>
      have eo := ims_eq hel
      subst eo
      obtain ⟨a, xs, rr, rfl, _, ha, hos⟩ := how
      exact ⟨rfl, rfl, a, xs, rfl, (of_owns_im hos).1, .inl (SqL.of ha)⟩
    | tup os =>
      have eo := ims_eq hel
      subst eo
      obtain ⟨a, xs, rr, rfl, _, ha, hos⟩ := how
      exact ⟨rfl, rfl, a, xs, rfl, (of_owns_im hos).1, .inr (SqT.of ha)⟩
    | _ => cases hel
variable {x : Str}
def dlist (da : Den Rv) : Den Rv := dbind (ar1 da) fun a => dbind (seqA a) fun ds => dpure (.new (.lst (ds.map O.im)))
theorem de_list (hg : Gl X x) (hm : X.mg x = none) (hv : bootBuiltins x = some (.type "list")) (ha : DE X W a da) (hn : x ≠ "__name__" := by decide) (hdb : (x == ("__debug__" : Str)) = false := by decide)
    (he : starEach (a :: []) X.env = (false, eval a X.env) :: starEach [] X.env := by rfl) (hpl : (backTo pos (starEach [] X.env)).any (·.1) = false := by rfl) : DE X W (.Call (.Name x p) [a] [] pos) (dlist da) :=
  ⟨pe_weak (pe_callTy call_list_of hg hm hv (pa_cons ha.run pa_nil he) hn hdb he hpl) fun σ H Q q => by
    obtain ⟨c, F, e, ts, R, q⟩ := q
    refine ⟨c, F, e, ts, R, q.ar fun F1 H1 e1 x v ef hr q1 => ?_⟩
    obtain ⟨r, hr2, post⟩ := q1
    unfold dbind at hr2
    cases hs : seqA x e1 with
    | none => rw [hs] at hr2; cases hr2
    | some r1 =>
      rw [hs] at hr2
      cases r1 with
      | err m e2 y => unfold seqA at hs; cases x <;> (obtain ⟨_, _, z⟩ := Option.map_eq_some_iff.mp hs; cases z)
      | ok m e2 ds =>
        obtain ⟨rfl, rfl, p', xs, rfl, hrs, hsq⟩ := seqA_ok hr hs
        cases hr2
        exact ⟨p', xs, rfl, hsq, fun l hl => post F1 _ (.ref l) (Ex.refl _) (fun _ => Ex.new hl) (hr.1.newO hl ⟨l, xs, [], rfl, rfl, upd_same, owns_im hrs⟩)⟩⟩
/-- tuple(x) of a list: a new one; of a tuple: itself -/
def dtuple (da : Den Rv) : Den D := dbind (ar1 da) fun a e => match a with
  | .im (.lst ds) => some (.ok false e (.tup ds))
  | .im (.scr ds) => some (.ok false e (.tup ds))
  | .im (.tup ds) => some (.ok false e (.tup ds))
  | .im (.wtp ds) => some (.ok false e (.wtp ds))
  | .im _ => none
  | .bor k => match slotO e k with
    | some (.lst os) => (ims os).map fun ds => Res.ok false e (.tup ds)
    | _ => none
theorem di_tuple (hg : Gl X x) (hm : X.mg x = none) (hv : bootBuiltins x = some (.type "tuple")) (ha : DE X W a da) (hn : x ≠ "__name__" := by decide) (hdb : (x == ("__debug__" : Str)) = false := by decide)
    (he : starEach (a :: []) X.env = (false, eval a X.env) :: starEach [] X.env := by rfl) (hpl : (backTo pos (starEach [] X.env)).any (·.1) = false := by rfl) : DI X W (.Call (.Name x p) [a] [] pos) (dtuple da) :=
  ⟨pe_weak (pe_callTy call_tuple_of hg hm hv (pa_cons ha.run pa_nil he) hn hdb he hpl) fun σ H Q q => by
    obtain ⟨c, F, e, ts, R, q⟩ := q
    refine ⟨c, F, e, ts, R, q.ar fun F1 H1 e1 x v ef hr q1 => ?_⟩
    obtain ⟨r, hr2, post⟩ := q1
    have mk : ∀ {ds : List D} {p' : Addr} {xs : List V}, (∀ F' H' v, Ex F1 F' → (false = false → Ex H1 H') → relI X.K c F' H' σ e1 ts (.tup ds) v → Q v H') → Reps X.K F1 ds xs → SqL X.K H1 p' xs → v = .ref p' →
        ∃ p ys, [v] = [V.ref p] ∧ ((SqL X.K H1 p ys ∧ ∀ l, H1 l = none → Q (.ref l) (upd H1 l (.tup ys))) ∨ (SqT X.K H1 p ys ∧ Q (.ref p) H1)) := by
      intro ds p' xs po hrs hsq ev
      subst ev
      refine ⟨p', xs, rfl, .inl ⟨hsq, fun l hl => po (upd F1 l (.tup xs)) (upd H1 l (.tup xs)) (.ref l) (Ex.new (none_of_ex hr.1.fh hl)) (fun _ => Ex.new hl) ⟨hr.1.newF hl, l, xs, rfl, upd_same, Reps.mono (Ex.new (none_of_ex hr.1.fh hl)) _ _ hrs⟩⟩⟩
    dsimp only at hr2
    split at hr2
    · cases hr2
      obtain ⟨p', xs, ev, h1, h2⟩ := hr.2
      exact mk post h2 (SqL.of (hr.1.fh _ _ h1)) ev
    · cases hr2
      obtain ⟨p', xs, ev, h1, h2⟩ := hr.2
      exact mk post h2 (ex_l hr.1.fh h1) ev
    · cases hr2
      obtain ⟨p', xs, rfl, h1, h2⟩ := id hr.2
      exact ⟨p', xs, rfl, .inr ⟨SqT.of (hr.1.fh _ _ h1), post F1 H1 _ (Ex.refl _) (fun _ => Ex.refl _) hr⟩⟩
    · cases hr2
      obtain ⟨p', xs, rfl, h1, h2⟩ := id hr.2
      exact ⟨p', xs, rfl, .inr ⟨ex_t hr.1.fh h1, post F1 H1 _ (Ex.refl _) (fun _ => Ex.refl _) hr⟩⟩
    · cases hr2
    · split at hr2
      · rename_i k os hs
        obtain ⟨ds, hz, e3⟩ := Option.map_eq_some_iff.mp hr2
        subst e3
        obtain ⟨b, hb⟩ := slotO_eq hs
        obtain ⟨w, fs, hw, how⟩ := hr.1.slot hb
        have ev := hr.2
        dsimp only at ev
        rw [hw] at ev
        cases ev
        have eo := ims_eq hz
        subst eo
        obtain ⟨a, xs, rr, ev, _, ha, hos⟩ := how
        exact mk post (of_owns_im hos).1 (SqL.of ha) ev
      · cases hr2⟩
/-! ### x[i] = e -/
def sstI (i : Nat) (de : Den D) (di : Den D) : SDen := sbind de fun x e1 => match slotO e1 i with
  | some _ => sbind di (fun k e => match e[i]?, k with
    | some (some (b, .lst os)), .int j => match ixN os.length j with
      | some n => match os[n]? with
        | some (.im _) => some (.nx true (e.set i (some (b, .lst (os.set n (.im x))))))
        | _ => none
      | none => none
    | _, _ => none) e1
  | none => none
theorem owns_set {K : PySem.W.Frag} {F H : Hp} {x : V} {d : D} (hx : Rep K F d x) : ∀ {os : List O} {xs : List V} {fs : List Addr} {n : Nat} {d0 : D}, Owns K F H os xs fs → os[n]? = some (.im d0) → Owns K F H (os.set n (.im d)) (xs.set n x) fs
  | [], xs, fs, n, d0, h, e => by simp at e
  | o :: os, xs, fs, 0, d0, h, e => by
    have eo : o = .im d0 := by simpa using e
    subst eo
    obtain ⟨y, r, f1, f2, rfl, rfl, h1, h2⟩ := h
    exact ⟨x, r, f1, f2, rfl, rfl, ⟨h1.1, hx⟩, h2⟩
  | o :: os, xs, fs, n + 1, d0, h, e => by
    obtain ⟨y, r, f1, f2, rfl, rfl, h1, h2⟩ := h
    exact ⟨y, r.set n x, f1, f2, rfl, rfl, h1, owns_set hx h2 (by simpa using e)⟩
theorem ds_stI {i : Nat} {y : Str} {py spos : Pos} {dv : Den D} (hx : PE X (.Name y py) (tVar i)) (hv : DI X W ex dv) (hi : DI X W b di)
    (hst : ∀ {te ti}, PE X ex te → PE X b ti → PS X (.Assign [.Subscript (.Name y py) b p] ex spos) (tAsg te (gSub (tVar i) ti rSetL))) : DS X W (.Assign [.Subscript (.Name y py) b p] ex spos) (sstI i dv di) := ⟨ps_weak (hst hv.run hi.run) fun D0 σ H q => by
  obtain ⟨c, F, e, ts, R, q⟩ := q
  refine ⟨c, F, e, ts, R, q.sbind (rel := relI) fun F1 H1 e1 x v ef hr q1 => ?_⟩
  obtain ⟨r1, hr1, post1⟩ := q1
  dsimp only at hr1
  cases hs : slotO e1 i with
  | none => rw [hs] at hr1; cases hr1
  | some o0 =>
    rw [hs] at hr1
    obtain ⟨b0, hb0⟩ := slotO_eq hs
    obtain ⟨w0, fs0, hw0, _⟩ := hr.1.slot hb0
    refine ⟨w0, hw0, c, F1, e1, ts, hr.1, ?_⟩
    have q2 : AtS X.K W (sbind di (fun k e => match e[i]?, k with
      | some (some (b, .lst os)), .int j => match ixN os.length j with
        | some n => match os[n]? with
          | some (.im _) => some (.nx true (e.set i (some (b, .lst (os.set n (.im x))))))
          | _ => none
        | none => none
      | _, _ => none)) D0 c F1 σ e1 ts H1 := ⟨r1, hr1, post1⟩
    refine q2.sbind (rel := relI) fun F2 H2 e2 k u ef2 hr2 q3 => ?_
    obtain ⟨r3, hr3, post3⟩ := q3
    dsimp only at hr3
    split at hr3
    · rename_i bb os j he2
      split at hr3
      · rename_i n hn
        split at hr3
        · rename_i d0 hd0
          cases hr3
          obtain ⟨w, f0, hw, how, nd, fr, hc⟩ := hr2.1.mutSlot he2
          rw [hw0] at hw
          cases hw
          obtain ⟨a, xs, rr, rfl, rfl, ha, hos⟩ := how
          have hrx : Rep X.K F2 x v := Rep.mono ef2 _ _ hr.2
          have fa := fr a List.mem_cons_self
          refine ⟨a, xs, j, n, rfl, hr2.2, ha, by rw [← hos.length]; exact hn, ?_⟩
          refine post3 F2 _ σ (Ex.refl _) (fun z => by cases z) (hc F2 _ (.lst (os.set n (.im x))) (a :: rr) ⟨Ex.refl _, fun p u z => ?_, fun q u hq z => ?_, fun p hp => .inl hp⟩ ⟨a, xs.set n v, rr, rfl, rfl, upd_same, ?_⟩ nd fun q hq => ⟨.inl hq, fr q hq⟩)
          · rw [upd_ne (fun w => by subst w; rw [fa.1] at z; cases z)]
            exact hr2.1.fh p u z
          · rw [upd_ne (fun w => hq (by subst w; exact List.mem_cons_self))]
            exact z
          · refine Owns.mono (Ex.refl _) _ _ _ (fun p hp u z => ?_) (owns_set hrx hos hd0)
            rw [upd_ne (fun w => (List.nodup_cons.mp nd).1 (by subst w; exact hp))]
            exact z
        · cases hr3
      · cases hr3
    · cases hr3⟩
end
end DL

/-! DLL: what is owned, seen through: items and fields of what is nested; loops over it; tuples of what is owned. -/
namespace DL
open PySem PySem.Spec PyProof.Rows L2 Evl

/-- what stands there now, owned or frozen -/
def relW : Rel O V := fun K c F H σ e ts o v => RE K c F H σ e ts ∧ ∃ fs, Own K F H o v fs
structure DO (X : Cx) (W : WX) (ex : Expr) (den : Den O) : Prop where
  run : PE X ex (rd relW X.K W den)
def ow (d : Den Rv) : Den O := dbind d fun r => match r with
  | .im d => dpure (.im d)
  | .new o => dpure (.im o.flat)
  | .bor _ o => dpure o
def imD (d : Den O) : Den D := dbind d fun o => dlift (imO o)
def fl (d : Den O) : Den D := dbind d fun o => dpure o.flat
section
variable {X : Cx} {W : WX} {a b ex : Expr} {pos p : Pos} {da : Den Rv} {di : Den D}
theorem DE.o (h : DE X W ex da) : DO X W ex (ow da) := ⟨pe_weak h.run fun σ H Q q => by
  obtain ⟨c, F, e, ts, R, q⟩ := q
  refine ⟨c, F, e, ts, R, q.bind fun F1 H1 e1 x v ef hrel q2 => ?_⟩
  cases x with
  | im d => exact At.pure (a := O.im d) q2 F1 H1 v (Ex.refl _) (Ex.refl _) ⟨hrel.1, [], rfl, hrel.2⟩
  | new o =>
    obtain ⟨F3, e3, R3, h3⟩ := RE.freezeT hrel
    exact At.pure (a := O.im o.flat) q2 F3 H1 v e3 (Ex.refl _) ⟨R3, [], rfl, h3⟩
  | bor i o =>
    obtain ⟨R2, hv, b, hb⟩ := hrel
    obtain ⟨w, fs, hw, ho⟩ := R2.slot hb
    rw [hv] at hw
    cases hw
    exact At.pure (a := o) q2 F1 H1 v (Ex.refl _) (Ex.refl _) ⟨R2, fs, ho⟩⟩
theorem DO.i {d : Den O} (h : DO X W ex d) : DI X W ex (imD d) := ⟨pe_weak h.run fun σ H Q q => by
  obtain ⟨c, F, e, ts, R, q⟩ := q
  refine ⟨c, F, e, ts, R, q.bind (rel := relW) fun F1 H1 e1 x v ef hrel q2 => ?_⟩
  obtain ⟨d, hd, k⟩ := q2.lift
  cases x <;> cases hd
  exact k F1 H1 v (Ex.refl _) (Ex.refl _) ⟨hrel.1, hrel.2.choose_spec.2⟩⟩
theorem DO.v {d : Den O} (h : DO X W ex d) : DV X W ex (fl d) := ⟨pe_weak h.run fun σ H Q q => by
  obtain ⟨c, F, e, ts, R, q⟩ := q
  refine ⟨c, F, e, ts, R, q.bind (rel := relW) fun F1 H1 e1 x v ef hrel q2 => ?_⟩
  obtain ⟨R1, fs, ho⟩ := hrel
  exact At.pure (a := x.flat) q2 F1 H1 v (Ex.refl _) (Ex.refl _) ⟨R1, ho.view R1.fh⟩⟩
/-! ### items -/
@[simp] def elemOO : O → D → Option O
  | .lst os, .int i => atI os i
  | .tup os, .int i => atI os i
  | .im d, i => (elemD d i).map O.im
  | _, _ => none
def dixO (d : Den O) (di : Den D) : Den O := dbind d fun o => dbind (dq di) fun i => dlift (elemOO o i)
theorem atI_ownsO {K : PySem.W.Frag} {F H : Hp} {os : List O} {xs : List V} {fs : List Addr} {i : Int} {o : O} (h : Owns K F H os xs fs) (e : atI os i = some o) : ∃ x f, atI xs i = some x ∧ Own K F H o x f := by
  unfold atI at e ⊢
  rw [h.length] at e
  obtain ⟨j, hj, e2⟩ := Option.bind_eq_some_iff.mp e
  have key : ∀ {os : List O} {xs : List V} {fs : List Addr} {j : Nat}, Owns K F H os xs fs → os[j]? = some o → ∃ x f, xs[j]? = some x ∧ Own K F H o x f := by
    intro os
    induction os with
    | nil => intro xs fs j _ z; simp at z
    | cons o0 os ih =>
      intro xs fs j h z
      obtain ⟨x, r, f1, f2, e1, _, h1, h2⟩ := h
      subst e1
      cases j with
      | zero =>
        have : o0 = o := by simpa using z
        subst this
        exact ⟨x, f1, rfl, h1⟩
      | succ j =>
        obtain ⟨y, f, hy, hr⟩ := ih h2 (by simpa using z)
        exact ⟨y, f, by simpa using hy, hr⟩
  obtain ⟨x, f, hx, hr⟩ := key h e2
  exact ⟨x, f, by rw [hj]; exact hx, hr⟩
theorem elemOO_ok {K : PySem.W.Frag} {F H : Hp} {o x : O} {i : D} {v u : V} {fs : List Addr} {Q : VK} (fh : Ex F H) (h : Own K F H o v fs) (hi : Rep K F i u) (e : elemOO o i = some x) (k : ∀ w f, Own K F H x w f → Q w H) : rIx K v u H Q := by
  unfold elemOO at e
  split at e
  · obtain ⟨a, xs, r, rfl, _, h1, h2⟩ := h
    obtain ⟨w, f, hw, hr⟩ := atI_ownsO h2 e
    exact .inl ⟨a, xs, _, w, rfl, hi, SqL.of h1, hw, k w f hr⟩
  · obtain ⟨a, xs, r, rfl, _, h1, h2⟩ := h
    obtain ⟨w, f, hw, hr⟩ := atI_ownsO h2 e
    exact .inr (.inl ⟨a, xs, _, w, rfl, hi, SqT.of h1, hw, k w f hr⟩)
  · obtain ⟨d, hd, rfl⟩ := Option.map_eq_some_iff.mp e
    exact elemD_ok fh h.2 hi hd fun w hw => k w [] ⟨rfl, hw⟩
  · cases e
theorem do_ix {d : Den O} (ha : DO X W a d) (hb : DI X W b di) (hs : PlainIx b := by exact fun _ _ => rfl) : DO X W (.Subscript a b pos) (dixO d di) := ⟨pe_weak (pe_ix ix_seq ha.run hb.run hs) fun σ H Q q => by
  obtain ⟨c, F, e, ts, R, q⟩ := q
  refine ⟨c, F, e, ts, R, q.bind (rel := relW) fun F1 H1 e1 x v ef hr q1 => ⟨c, F1, e1, ts, hr.1, ?_⟩⟩
  have q2 := (q1.bind (rel := relI) (Q' := fun u H2 => Ex H1 H2 → rIx X.K v u H2 Q) fun F2 H2 e2 y u ef2 hr2 q2 ee => by
    obtain ⟨o, hd, k⟩ := q2.lift
    obtain ⟨fs, ho⟩ := hr.2
    exact elemOO_ok hr2.1.fh (Own.mono ef2 _ _ _ (fun p _ w z => ee p w z) ho) hr2.2 hd fun w f hw => k F2 H2 w (Ex.refl _) (Ex.refl _) ⟨hr2.1, f, hw⟩).quiet
  obtain ⟨rr, h1, post⟩ := q2
  refine ⟨rr, h1, ?_⟩
  cases rr with
  | err m e1 x => exact post
  | ok m e1 a => exact fun F' H' v' ef' eh hrel => let z := post F' H' v' ef' eh hrel; z.2 z.1 z.1⟩
/-! ### fields -/
def fldO (Cs : List Addr) (f : Str) : O → Option O
  | .im (.ins C ns ds) => if C ∈ Cs then ((ns.zip ds).lookup f).map O.im else none
  | .ins C ns os => if C ∈ Cs then (ns.zip os).lookup f else none
  | _ => none
theorem owns_lookO {K : PySem.W.Frag} {F H : Hp} {f : Str} {o : O} : ∀ {ns : List Str} {os : List O} {xs : List V} {fs : List Addr}, Owns K F H os xs fs → (ns.zip os).lookup f = some o → ∃ x g, (ns.zip xs).lookup f = some x ∧ Own K F H o x g
  | [], ds, xs, fs, h, e => by simp at e
  | n :: ns, [], xs, fs, h, e => by simp at e
  | n :: ns, o0 :: os, xs, fs, h, e => by
    obtain ⟨x, r, f1, f2, rfl, _, h1, h2⟩ := h
    rw [List.zip_cons_cons, List.lookup_cons] at e ⊢
    by_cases q : f == n
    · rw [q] at e ⊢
      cases e
      exact ⟨x, f1, rfl, h1⟩
    · rw [Bool.not_eq_true] at q
      rw [q] at e ⊢
      exact owns_lookO h2 e
theorem do_fld {Cs : List Addr} {f : Str} {d : Den O} (ha : DO X W a d) (hC : ∀ C ∈ Cs, Cls X.K C ∧ NoAttr X.K C f) (hb : attributeBase a f X.env (eval a X.env) = eval a X.env := by rfl) : DO X W (.Attribute a f pos) (dbind d fun o => dlift (fldO Cs f o)) := ⟨pe_weak (pe_fld ha.run hb) fun σ H Q q => by
  obtain ⟨c, F, e, ts, R, q⟩ := q
  refine ⟨c, F, e, ts, R, q.bind (rel := relW) fun F1 H1 e1 x v ef hr q1 => ?_⟩
  obtain ⟨o, hd, k⟩ := q1.lift
  obtain ⟨R1, fs, ho⟩ := hr
  unfold fldO at hd
  split at hd
  · split at hd
    · rename_i C ns ds hmem
      obtain ⟨z, hz, rfl⟩ := Option.map_eq_some_iff.mp hd
      obtain ⟨_, a, dx, xs, rfl, h1, _, h2⟩ := ho
      obtain ⟨w, hw, hrep⟩ := reps_look h2 hz
      exact ⟨a, C, dx, _, w, rfl, R1.fh _ _ h1, (hC C hmem).1, (hC C hmem).2, hw, k F1 H1 w (Ex.refl _) (Ex.refl _) ⟨R1, [], rfl, hrep⟩⟩
    · cases hd
  · split at hd
    · rename_i C ns os hmem
      obtain ⟨a, dx, xs, rr, rfl, _, h1, _, h2⟩ := ho
      obtain ⟨w, g, hw, hrep⟩ := owns_lookO h2 hd
      exact ⟨a, C, dx, _, w, rfl, h1, (hC C hmem).1, (hC C hmem).2, hw, k F1 H1 w (Ex.refl _) (Ex.refl _) ⟨R1, g, hrep⟩⟩
    · cases hd
  · cases hd⟩
/-! ### slices, of lists that come new, of tuples, of texts -/
structure DP (X : Cx) (W : WX) (ex : Option Expr) (den : Den (Option Int)) : Prop where
  run : PO X ex (rd (fun K c F H σ e ts (a b : Option Int) => RE K c F H σ e ts ∧ a = b) X.K W den)
theorem po_weak {ex : Option Expr} {t t' : TO} (h : PO X ex t) (k : ∀ σ H Q, t' σ H Q → t σ H Q) : PO X ex t' := ⟨fun pins s σ H Q I r => h.run pins s σ H Q I (k σ H Q r)⟩
theorem dp_none : DP X W none (dpure none) := ⟨po_weak po_none fun σ H Q q => by
  obtain ⟨c, F, e, ts, R, q⟩ := q
  exact At.pure (a := Option.none) q F H Option.none (Ex.refl _) (Ex.refl _) ⟨R, rfl⟩⟩
@[simp] def partD : D → Option (Option Int)
  | .int i => some (some i)
  | _ => none
theorem dp_some (h : DI X W ex di) : DP X W (some ex) (dbind di fun d => dlift (partD d)) := ⟨po_weak (po_some h.run) fun σ H Q q => by
  obtain ⟨c, F, e, ts, R, q⟩ := q
  refine ⟨c, F, e, ts, R, q.bind (rel := relI) fun F1 H1 e1 x v ef hr q1 => ?_⟩
  obtain ⟨o, hd, k⟩ := q1.lift
  cases x <;> cases hd
  exact ⟨_, hr.2, k F1 H1 _ (Ex.refl _) (Ex.refl _) ⟨hr.1, rfl⟩⟩⟩
def cutD (xs : List D) (lo hi : Option Int) : List D := (xs.drop (HT.sIx xs.length 0 lo)).take (HT.sIx xs.length xs.length hi - HT.sIx xs.length 0 lo)
theorem Reps.drop {K : PySem.W.Frag} {F : Hp} : ∀ {ds : List D} {xs : List V} (n : Nat), Reps K F ds xs → Reps K F (ds.drop n) (xs.drop n)
  | ds, xs, 0, h => h
  | [], xs, n + 1, h => by rw [show xs = [] from h]; rfl
  | d :: ds, xs, n + 1, h => by
    obtain ⟨x, r, rfl, _, h2⟩ := h
    exact Reps.drop n h2
theorem Reps.take {K : PySem.W.Frag} {F : Hp} : ∀ {ds : List D} {xs : List V} (n : Nat), Reps K F ds xs → Reps K F (ds.take n) (xs.take n)
  | ds, xs, 0, h => rfl
  | [], xs, n + 1, h => by rw [show xs = [] from h]; rfl
  | d :: ds, xs, n + 1, h => by
    obtain ⟨x, r, rfl, h1, h2⟩ := h
    exact ⟨x, r.take n, rfl, h1, Reps.take n h2⟩
theorem reps_cut {K : PySem.W.Frag} {F : Hp} {ds : List D} {xs : List V} {lo hi : Option Int} (h : Reps K F ds xs) : Reps K F (cutD ds lo hi) (cutV xs lo hi) := by
  unfold cutD cutV
  rw [h.length]
  exact (h.drop _).take _
/-- a cut of what is seen: a list's is new -/
def cutO (o : O) (lo hi : Option Int) : Option Rv := match o with
  | .im (.lst ds) => some (.new (.lst ((cutD ds lo hi).map O.im)))
  | .im (.scr ds) => some (.new (.lst ((cutD ds lo hi).map O.im)))
  | .lst os => (ims os).map fun ds => .new (.lst ((cutD ds lo hi).map O.im))
  | .im (.tup ds) => if HT.sIx ds.length 0 lo = 0 ∧ HT.sIx ds.length ds.length hi = ds.length then none else some (.im (.tup (cutD ds lo hi)))
  | .im (.wtp ds) => if HT.sIx ds.length 0 lo = 0 ∧ HT.sIx ds.length ds.length hi = ds.length then none else some (.im (.tup (cutD ds lo hi)))
  | .im (.str z) => if z.length ≤ sizeLine then some (.im (.str (cutS z lo hi))) else none
  | _ => none
def rSl3 (K : PySem.W.Frag) : V → Option Int → Option Int → Hp → VK → Prop := fun x lo hi H Q => rSlL K x lo hi H Q ∨ rSlT K x lo hi H Q ∨ rSlS x lo hi H Q
theorem sl3 : SlR X (rSl3 X.K) := sl_list.or (sl_tup.or sl_str)
def dslice (d : Den O) (dl dh : Den (Option Int)) : Den Rv := dbind d fun o => dbind (dq dl) fun lo => dbind (dq dh) fun hi => dlift (cutO o lo hi)
theorem de_slice {d : Den O} {lo hi : Option Expr} {dl dh : Den (Option Int)} {p2 : Pos} (ha : DO X W a d) (hl : DP X W lo dl) (hh : DP X W hi dh) : DE X W (.Subscript a (.Slice lo hi none p2) pos) (dslice d dl dh) := ⟨pe_weak (pe_slice sl3 ha.run hl.run hh.run) fun σ H Q q => by
  obtain ⟨c, F, e, ts, R, q⟩ := q
  refine ⟨c, F, e, ts, R, q.bind (rel := relW) fun F1 H1 e1 x v ef hr q1 => ⟨c, F1, e1, ts, hr.1, ?_⟩⟩
  have q2 := (q1.bind (rel := (fun K c F H σ e ts (a b : Option Int) => RE K c F H σ e ts ∧ a = b)) (Q' := fun l H2 => Ex H1 H2 → rd (fun K c F H σ e ts (a b : Option Int) => RE K c F H σ e ts ∧ a = b) X.K W dh σ H2 fun u H3 => rSl3 X.K v l u H3 Q) fun F2 H2 e2 l l' ef2 hr2 q2 ee => by
    obtain ⟨R2, rfl⟩ := hr2
    refine ⟨c, F2, e2, ts, R2, ?_⟩
    have q3 := (q2.bind (rel := (fun K c F H σ e ts (a b : Option Int) => RE K c F H σ e ts ∧ a = b)) (Q' := fun u H3 => Ex H2 H3 → rSl3 X.K v l u H3 Q) fun F3 H3 e3 h h' ef3 hr3 q3 ee3 => by
      obtain ⟨R3, rfl⟩ := hr3
      obtain ⟨rv, hd, k⟩ := q3.lift
      obtain ⟨fs, ho⟩ := hr.2
      have ho3 : Own X.K F3 H3 x v fs := Own.mono (ef2.trans ef3) _ _ _ (fun p _ w z => (ee.trans ee3) p w z) ho
      have lst : ∀ {ds : List D} {a : Addr} {xs : List V}, v = .ref a → Reps X.K F3 ds xs → SqL X.K H3 a xs → rv = .new (.lst ((cutD ds l h).map O.im)) → rSl3 X.K v l h H3 Q := by
        intro ds a xs ev hrs hsq erv
        subst ev
        subst erv
        exact .inl ⟨a, xs, rfl, hsq, fun p hp => k F3 _ (.ref p) (Ex.refl _) (Ex.new hp) (R3.newO hp ⟨p, _, [], rfl, rfl, upd_same, owns_im (reps_cut hrs)⟩)⟩
      have tup : ∀ {ds : List D} {a : Addr} {xs : List V}, v = .ref a → Reps X.K F3 ds xs → SqT X.K H3 a xs → ¬ (HT.sIx ds.length 0 l = 0 ∧ HT.sIx ds.length ds.length h = ds.length) → rv = .im (.tup (cutD ds l h)) → rSl3 X.K v l h H3 Q := by
        intro ds a xs ev hrs hsq hne erv
        subst ev
        subst erv
        refine .inr (.inl ⟨a, xs, rfl, hsq, by rw [← hrs.length]; exact hne, fun p hp => k (upd F3 p (.tup (cutV xs l h))) _ (.ref p) (Ex.new (none_of_ex R3.fh hp)) (Ex.new hp) ⟨R3.newF hp, p, _, rfl, upd_same, Reps.mono (Ex.new (none_of_ex R3.fh hp)) _ _ (reps_cut hrs)⟩⟩)
      unfold cutO at hd
      split at hd
      · cases hd
        obtain ⟨_, a, xs, ev, h1, h2⟩ := ho3
        exact lst ev h2 (SqL.of (R3.fh _ _ h1)) rfl
      · cases hd
        obtain ⟨_, a, xs, ev, h1, h2⟩ := ho3
        exact lst ev h2 (ex_l R3.fh h1) rfl
      · obtain ⟨ds, hz, e5⟩ := Option.map_eq_some_iff.mp hd
        have eo := ims_eq hz
        subst eo
        obtain ⟨a, xs, rr, ev, _, h1, h2⟩ := ho3
        exact lst ev (of_owns_im h2).1 (SqL.of h1) e5.symm
      · split at hd
        · cases hd
        · rename_i hne
          cases hd
          obtain ⟨_, a, xs, ev, h1, h2⟩ := ho3
          exact tup ev h2 (SqT.of (R3.fh _ _ h1)) hne rfl
      · split at hd
        · cases hd
        · rename_i hne
          cases hd
          obtain ⟨_, a, xs, ev, h1, h2⟩ := ho3
          exact tup ev h2 (ex_t R3.fh h1) hne rfl
      · split at hd
        · rename_i hz
          cases hd
          exact .inr (.inr ⟨_, ho3.2, hz, k F3 H3 _ (Ex.refl _) (Ex.refl _) ⟨R3, rfl⟩⟩)
        · cases hd
      · cases hd).quiet
    obtain ⟨rr, h1, post⟩ := q3
    refine ⟨rr, h1, ?_⟩
    cases rr with
    | err m e1 x => exact post
    | ok m e1 a => exact fun F' H' v' ef' eh hrel => let z := post F' H' v' ef' eh hrel; z.2 z.1 z.1).quiet
  obtain ⟨rr, h1, post⟩ := q2
  refine ⟨rr, h1, ?_⟩
  cases rr with
  | err m e1 x => exact post
  | ok m e1 a => exact fun F' H' v' ef' eh hrel => let z := post F' H' v' ef' eh hrel; z.2 z.1 z.1⟩
end
end DL

/-! DLM: chains; tuples of what is owned; a list within, appended to; the end. -/
namespace DL
open PySem PySem.Spec PyProof.Rows L2 Evl
section
variable {X : Cx} {W : WX} {a b cc ex : Expr} {pos p : Pos} {da db dc : Den D}
def dchain (da db dc : Den D) (g g' : D → D → Option Bool) : Den D := dbind da fun x => dbind (dq db) fun y => dbind (dlift (g x y)) fun k => if k then dbind (dq dc) fun z => dlift ((g' y z).map D.bl) else dpure (.bl false)
theorem At.toQ {α β : Type} {rel : Rel α β} {K : PySem.W.Frag} {den : Den α} {c : Ctx} {F H : Hp} {σ : L2.St} {e : Env} {ts : List (V × O)} {Q : β → Hp → Prop} (h : At rel K W (dq den) c F σ e ts H (fun v H' => Ex H H' → Q v H')) : At rel K W den c F σ e ts H Q := by
  have q := h.quiet
  obtain ⟨rr, h1, post⟩ := q
  refine ⟨rr, h1, ?_⟩
  cases rr with
  | err m e1 x => exact post
  | ok m e1 a => exact fun F' H' v' ef' eh hrel => let z := post F' H' v' ef' eh hrel; z.2 z.1 z.1
theorem more_false {α β : Type} {x : Option (Res β)} : Res.more (α := α) false x = x := by
  cases x with
  | none => rfl
  | some r => cases r <;> rfl
theorem At.liftB {α γ δ : Type} {rel2 : Rel γ δ} {K : PySem.W.Frag} {a : Option α} {f : α → Den γ} {c : Ctx} {F H : Hp} {σ : L2.St} {e : Env} {ts : List (V × O)} {Q : δ → Hp → Prop} (h : At rel2 K W (dbind (dlift a) f) c F σ e ts H Q) : ∃ x, a = some x ∧ At rel2 K W (f x) c F σ e ts H Q := by
  obtain ⟨r, hr, post⟩ := h
  cases a with
  | none => cases hr
  | some x =>
    have e1 : dbind (dlift (some x)) f e = f x e := more_false (α := α)
    rw [e1] at hr
    exact ⟨x, rfl, r, hr, post⟩
theorem chain_rd {r r' : R2} {g g' : D → D → Option Bool} (hg : CmpOk X.K r g) (hg' : CmpOk X.K r' g') {σ : L2.St} {H : Hp} {Q : VK} (q : rd relI X.K W (dchain da db dc g g') σ H Q) : tChain r r' (rd relV X.K W da) (rd relV X.K W db) (rd relV X.K W dc) σ H Q := by
  obtain ⟨c, F, e, ts, R, q⟩ := q
  refine ⟨c, F, e, ts, R, q.bind (rel := relV) fun F1 H1 e1 x v ef hr q1 => ⟨c, F1, e1, ts, hr.1, (q1.bind (rel := relV) (Q' := fun u H2 => Ex H1 H2 → _) fun F2 H2 e2 y u ef2 hr2 q2 ee => ?_).toQ⟩⟩
  obtain ⟨k, hgx, q3⟩ := q2.liftB
  refine hg H2 v u x y k (Rep.mono ee _ _ hr.2) hr2.2 hgx _ ⟨k, rfl, ?_⟩
  cases k with
  | false => exact iteF (At.pure (a := D.bl false) q3 F2 H2 _ (Ex.refl _) (Ex.refl _) ⟨hr2.1, rfl⟩)
  | true =>
    refine iteT ⟨c, F2, e2, ts, hr2.1, ?_⟩
    have q4 : At relI X.K W (dbind (dq dc) fun z => dlift ((g' y z).map D.bl)) c F2 σ e2 ts H2 Q := q3
    exact (q4.bind (rel := relV) (Q' := fun u' H3 => Ex H2 H3 → _) fun F3 H3 e3 z w ef3 hr3 q5 ee3 => by
      obtain ⟨d, hd, kk⟩ := q5.lift
      obtain ⟨b, hb, rfl⟩ := Option.map_eq_some_iff.mp hd
      exact hg' H3 u w y z b (Rep.mono ee3 _ _ hr2.2) hr3.2 hb Q (kk F3 H3 (.bl b) (Ex.refl _) (Ex.refl _) ⟨hr3.1, rfl⟩)).toQ
theorem di_chain {op op' : CmpOp} {r r' : R2} {g g' : D → D → Option Bool} (ho : OpR X (compareOp op) r) (ho' : OpR X (compareOp op') r') (hg : CmpOk X.K r g) (hg' : CmpOk X.K r' g') (ha : DV X W a da) (hb : DV X W b db) (hc : DV X W cc dc) (hm : lastMarks [op, op'] [b, cc] = false := by with_unfolding_all rfl) :
    DI X W (.Compare a [op, op'] [b, cc] pos) (dchain da db dc g g') := ⟨pe_weak (pe_chain ho ho' ha.run hb.run hc.run hm) fun σ H Q q => chain_rd hg hg' q⟩
theorem dt_chain {op op' : CmpOp} {r r' : R2} {g g' : D → D → Option Bool} (ho : OpR X (compareOp op) r) (ho' : OpR X (compareOp op') r') (hg : CmpOk X.K r g) (hg' : CmpOk X.K r' g') (ha : DV X W a da) (hb : DV X W b db) (hc : DV X W cc dc) (hm : lastMarks [op, op'] [b, cc] = false := by with_unfolding_all rfl) :
    DT X W (.Compare a [op, op'] [b, cc] pos) (dtB (dchain da db dc g g')) := ⟨pt_weak (pt_chain ho ho' ha.run hb.run hc.run hm) fun σ H Q q => chain_rd hg hg' (tB_rd q)⟩
variable {j : Nat} {p2 : Pos}
theorem dt_isN (ha : DV X W a da) : DT X W (.Compare a [.Is] [.Constant .none j p2] pos) (dtB (dbind da fun x => dlift (noneD x))) := ⟨pt_weak (pt_cmp (pc_isN ha.run)) fun σ H Q q => by
  obtain ⟨c, F, e, ts, R, q⟩ := tB_rd q
  refine ⟨c, F, e, ts, R, q.bind (rel := relV) fun F1 H1 e1 x v ef hr q1 => ?_⟩
  obtain ⟨d, hd, k⟩ := q1.lift
  have hx : x ≠ .any := fun z => by subst z; cases hd
  rw [rep_none hr.2 hx]
  have hd' : d = .bl (isNoneD x) := by cases x <;> first | exact absurd rfl hx | (cases hd; rfl)
  subst hd'
  exact k F1 H1 _ (Ex.refl _) (Ex.refl _) ⟨hr.1, rfl⟩⟩
theorem dt_isNot (ha : DV X W a da) : DT X W (.Compare a [.IsNot] [.Constant .none j p2] pos) (dtB (dbind da fun x => dlift (notNoneD x))) := ⟨pt_weak (pt_cmp (pc_notN ha.run)) fun σ H Q q => by
  obtain ⟨c, F, e, ts, R, q⟩ := tB_rd q
  refine ⟨c, F, e, ts, R, q.bind (rel := relV) fun F1 H1 e1 x v ef hr q1 => ?_⟩
  obtain ⟨d, hd, k⟩ := q1.lift
  have hx : x ≠ .any := fun z => by subst z; cases hd
  rw [rep_none hr.2 hx]
  have hd' : d = .bl (!isNoneD x) := by cases x <;> first | exact absurd rfl hx | (cases hd; rfl)
  subst hd'
  exact k F1 H1 _ (Ex.refl _) (Ex.refl _) ⟨hr.1, rfl⟩⟩

/-! ### tuples of what is owned -/
/-- the values as temporaries, in their order -/
def relT : Rel (List O) (List V) := fun K c F H σ e ts os vs => RE K c F H σ e (vs.zip os ++ ts) ∧ os.length = vs.length
structure DTM (X : Cx) (W : WX) (es : List Expr) (den : Den (List O)) : Prop where
  run : PA X es (rd relT X.K W den)
theorem At.bindT {α β γ δ : Type} {rel : Rel α β} {rel2 : Rel γ δ} {K : PySem.W.Frag} {W : WX} {den : Den α} {f : α → Den γ} {c : Ctx} {F H : Hp} {σ : L2.St} {e : Env} {ts ts' : List (V × O)} {Q : δ → Hp → Prop} {Q' : β → Hp → Prop}
    (h : At rel2 K W (dbind den f) c F σ e ts H Q) (hd0 : ∀ F' H' e', RE K c F' H' σ e' ts' → RE K c F' H' σ e' ts) (k : ∀ F1 H1 e1 a v, Ex F F1 → rel K c F1 H1 σ e1 ts' a v → At rel2 K W (f a) c F1 σ e1 ts H1 Q → Q' v H1) : At rel K W den c F σ e ts' H Q' := by
  obtain ⟨r, hr, post⟩ := h
  unfold dbind at hr
  cases hd : den e with
  | none => rw [hd] at hr; cases hr
  | some r1 =>
    rw [hd] at hr
    cases r1 with
    | err m e1 x =>
      cases hr
      exact ⟨_, hd, fun F' H' cls d ef eh R hx => post F' H' cls d ef eh (hd0 F' H' e1 R) hx⟩
    | ok m e1 a =>
      refine ⟨_, hd, fun F1 H1 v ef eh hrel => k F1 H1 e1 a v ef hrel ?_⟩
      dsimp only at hr
      cases hf : f a e1 with
      | none => rw [hf] at hr; cases hr
      | some r2 =>
        rw [hf] at hr
        refine ⟨r2, hf, ?_⟩
        cases r2 with
        | err m2 e2 x =>
          cases hr
          exact fun F' H' cls d ef' eh' R hx => post F' H' cls d (ef.trans ef') (fun z => (eh (or_l z)).trans (eh' (or_r z))) R hx
        | ok m2 e2 b =>
          cases hr
          exact fun F' H' w ef' eh' hrel' => post F' H' w (ef.trans ef') (fun z => (eh (or_l z)).trans (eh' (or_r z))) hrel'
/-- a slot's holding is moved -/
def rvM (rv : Rv) : Den O := fun e => match rv with
  | .im d => some (.ok false e (.im d))
  | .new o => some (.ok false e o)
  | .bor i _ => match e[i]? with
    | some (some (false, o)) => some (.ok false (e.set i none) o)
    | some (some (true, o)) => some (.ok false (e.set i (some (true, .im o.flat))) (.im o.flat))
    | _ => none
theorem rvM_ok {K : PySem.W.Frag} {c : Ctx} {F H : Hp} {σ : L2.St} {e e' : Env} {ts : List (V × O)} {rv : Rv} {v : V} {o : O} {m : Bool} (h : relR K c F H σ e ts rv v) (hr : rvM rv e = some (.ok m e' o)) : m = false ∧ ∃ F', Ex F F' ∧ RE K c F' H σ e' ((v, o) :: ts) := by
  unfold rvM at hr
  cases rv with
  | im d => cases hr; exact ⟨rfl, F, Ex.refl _, h.1.imT h.2⟩
  | new o' => cases hr; exact ⟨rfl, F, Ex.refl _, h⟩
  | bor i o' =>
    obtain ⟨R, hv, b, hb⟩ := h
    dsimp only at hr
    rw [hb] at hr
    cases b with
    | false =>
      cases hr
      obtain ⟨w, hw, _, R2⟩ := R.out hb
      rw [hv] at hw
      cases hw
      exact ⟨rfl, F, Ex.refl _, R2⟩
    | true =>
      cases hr
      obtain ⟨F2, w, e2, hw, R2, hrep⟩ := R.freezeS hb
      rw [hv] at hw
      cases hw
      exact ⟨rfl, F2, e2, R2.imT hrep⟩
theorem dtm_nil : DTM X W [] (dpure []) := ⟨pa_weak pa_nil fun σ H Q q => by
  obtain ⟨c, F, e, ts, R, q⟩ := q
  exact At.pure q F H [] (Ex.refl _) (Ex.refl _) ⟨R, rfl⟩⟩
def dtmc (d : Den Rv) (ds : Den (List O)) : Den (List O) := dbind d fun rv => dbind (rvM rv) fun o => dbind ds fun os => dpure (o :: os)
theorem dtm_cons {es : List Expr} {de : Den Rv} {ds : Den (List O)} (h : DE X W a de) (hr : DTM X W es ds) (hs : starEach (a :: es) X.env = (false, eval a X.env) :: starEach es X.env := by rfl) : DTM X W (a :: es) (dtmc de ds) := ⟨pa_weak (pa_cons h.run hr.run hs) fun σ H Q q => by
  obtain ⟨c, F, e, ts, R, q⟩ := q
  refine ⟨c, F, e, ts, R, q.bind (rel := relR) fun F1 H1 e1 rv v ef hrel q1 => ?_⟩
  obtain ⟨r, hr2, post⟩ := q1
  unfold dbind at hr2
  cases hm : rvM rv e1 with
  | none => rw [hm] at hr2; cases hr2
  | some r1 =>
    rw [hm] at hr2
    cases r1 with
    | err m e2 x => unfold rvM at hm; cases rv <;> first | cases hm | (dsimp only at hm; split at hm <;> cases hm)
    | ok m e2 o =>
      obtain ⟨rfl, F2, ef2, R2⟩ := rvM_ok hrel hm
      dsimp only at hr2
      have q2 : At relT X.K W (dbind ds fun os => dpure (o :: os)) c F2 σ e2 ts H1 Q := by
        cases hd : (dbind ds fun os => dpure (o :: os)) e2 with
        | none => unfold dbind at hd; rw [hd] at hr2; cases hr2
        | some r3 =>
          have hd' := hd
          unfold dbind at hd
          rw [hd] at hr2
          refine ⟨r3, hd', ?_⟩
          cases r3 with
          | ok m3 e3 a3 => cases hr2; exact fun F' H' w ef' eh' hrel' => post F' H' w (ef2.trans ef') eh' hrel'
          | err m3 e3 x3 => cases hr2; exact fun F' H' cls d ef' eh' R hx => post F' H' cls d (ef2.trans ef') eh' R hx
      refine ⟨c, F2, e2, (v, o) :: ts, R2, q2.bindT (rel := relT) (fun F' H' e' R' => R'.drop) fun F3 H3 e3 os vs ef3 hr3 q3 => ?_⟩
      refine At.pure q3 F3 H3 (v :: vs) (Ex.refl _) (Ex.refl _) ⟨?_, by rw [List.length_cons, List.length_cons, hr3.2]⟩
      exact hr3.1.perm List.perm_middle⟩
theorem held_owns {K : PySem.W.Frag} {F H : Hp} : ∀ {os : List O} {vs : List V} {fs : List Addr}, os.length = vs.length → Held K F H (vs.zip os) fs → Owns K F H os vs fs
  | [], [], fs, _, h => ⟨rfl, h⟩
  | o :: os, v :: vs, fs, hl, h => by
    obtain ⟨f1, f2, e1, h1, h2⟩ := h
    exact ⟨v, vs, f1, f2, rfl, e1, h1, held_owns (by simpa using hl) h2⟩
  | [], _ :: _, _, h, _ => by simp at h
  | _ :: _, [], _, h, _ => by simp at h
theorem owns_held {K : PySem.W.Frag} {F H : Hp} : ∀ {os : List O} {vs : List V} {fs : List Addr}, Owns K F H os vs fs → Held K F H (vs.zip os) fs
  | [], vs, fs, h => by rw [h.1]; exact h.2
  | o :: os, vs, fs, h => by
    obtain ⟨x, r, f1, f2, rfl, e, h1, h2⟩ := h
    exact ⟨f1, f2, e, h1, owns_held h2⟩
/-- the temporaries, put into a new object -/
theorem RE.pack {K : PySem.W.Frag} {c : Ctx} {F H : Hp} {σ : L2.St} {e : Env} {ts : List (V × O)} {os : List O} {vs : List V} {l : Addr} {u : HO} {o : O} (R : RE K c F H σ e (vs.zip os ++ ts)) (hz : os.length = vs.length) (hl : H l = none)
    (mk : ∀ fs H', H' l = some u → Owns K F H' os vs fs → Own K F H' o (.ref l) (l :: fs)) : RE K c F (upd H l u) σ e ((.ref l, o) :: ts) := by
  obtain ⟨hs, fs, h1, h2, h3, h4⟩ := R.hd
  rw [List.append_assoc] at h2
  obtain ⟨f1, f2, e1, h5, h6⟩ := h2.split
  subst e1
  have th : ∀ p ∈ f1 ++ f2, H p ≠ none := fun p hp => by
    rcases List.mem_append.mp hp with z | z
    · exact Held.there h5 p z
    · exact Held.there h6 p z
  have ne : l ∉ f1 ++ f2 := fun z => th l z hl
  have kp : ∀ p ∈ f1 ++ f2, ∀ w, H p = some w → upd H l u p = some w := fun p hp w z => by rw [upd_ne (fun q => ne (by rw [← q]; exact hp))]; exact z
  refine ⟨R.g.trans (Ex.new hl), R.f0, R.fh.trans (Ex.new hl), R.nw, hs, (l :: f1) ++ f2, h1, ⟨l :: f1, f2, rfl, mk f1 _ upd_same (Owns.mono (Ex.refl _) _ _ _ (fun p hp => kp p (List.mem_append_left _ hp)) (held_owns hz h5)), Held.mono (Ex.refl _) (fun p hp => kp p (List.mem_append_right _ hp)) h6⟩, List.nodup_cons.mpr ⟨ne, h3⟩, fun p hp => ?_⟩
  rcases List.mem_cons.mp (show p ∈ l :: (f1 ++ f2) from hp) with z | z
  · rw [z]
    exact ⟨none_of_ex R.fh hl, none_of_ex R.g hl⟩
  · exact h4 p z
def dtupN (ds : Den (List O)) : Den Rv := dbind ds fun os => dlift (if os.length ≤ sizeLine then some (.new (.tup os)) else none)
theorem de_tupN {n1} {es : List Expr} {ds : Den (List O)} (h : DTM X W es ds) : DE X W (.Tuple es n1 pos) (dtupN ds) := ⟨pe_weak (pe_tup h.run) fun σ H Q q => by
  obtain ⟨c, F, e, ts, R, q⟩ := q
  refine ⟨c, F, e, ts, R, q.bindT (rel := relT) (ts' := ts) (fun _ _ _ R => R) fun F1 H1 e1 os vs ef hr q1 => ?_⟩
  obtain ⟨d, hd, k⟩ := q1.lift
  split at hd
  · rename_i hz
    cases hd
    exact ⟨by rw [← hr.2]; exact hz, fun l hl => k F1 _ (.ref l) (Ex.refl _) (Ex.new hl) (hr.1.pack hr.2 hl fun fs H' h1 h2 => ⟨l, vs, fs, rfl, rfl, h1, h2⟩)⟩
  · cases hd⟩
end
end DL

/-! DLN: a list within what a slot holds, appended to; constants; the law's end. -/
namespace DL
open PySem PySem.Spec PyProof.Rows L2 Evl
section
variable {X : Cx} {W : WX} {a b ex : Expr} {pos p p2 px apos : Pos} {x : Str}
theorem di_gI {x : Str} {i : Int} (hg : Gl X x) (hm : ∃ t, X.mg x = some (.int i t)) (hd : (x == ("__debug__" : Str)) = false := by decide) : DI X W (.Name x pos) (dpure (.int i)) := by
  obtain ⟨t, ht⟩ := hm
  exact di_gint hg ht hd
theorem di_gS {x : Str} {i : Str} (hg : Gl X x) (hm : ∃ t, X.mg x = some (.str i t)) (hd : (x == ("__debug__" : Str)) = false := by decide) : DI X W (.Name x pos) (dpure (.str i)) := by
  obtain ⟨t, ht⟩ := hm
  exact di_gstr hg ht hd
/-- one of several is changed where it stands -/
theorem owns_at {K : PySem.W.Frag} {F H : Hp} : ∀ {os : List O} {xs : List V} {fs : List Addr} {n : Nat} {o : O}, Owns K F H os xs fs → os[n]? = some o → ∃ x f1 f0 f2, xs[n]? = some x ∧ fs = f1 ++ (f0 ++ f2) ∧ Own K F H o x f0 ∧
    ∀ (H' : Hp) (o' : O), (∀ q ∈ f1 ++ f2, ∀ u, H q = some u → H' q = some u) → Own K F H' o' x f0 → Owns K F H' (os.set n o') xs fs
  | [], xs, fs, n, o, h, e => by simp at e
  | o0 :: os, xs, fs, 0, o, h, e => by
    have eo : o0 = o := by simpa using e
    subst eo
    obtain ⟨y, r, f1, f2, rfl, rfl, h1, h2⟩ := h
    exact ⟨y, [], f1, f2, rfl, rfl, h1, fun H' o' k ho => ⟨y, r, f1, f2, rfl, rfl, ho, Owns.mono (Ex.refl _) _ _ _ (fun q hq => k q hq) h2⟩⟩
  | o0 :: os, xs, fs, n + 1, o, h, e => by
    obtain ⟨y, r, f1, f2, rfl, rfl, h1, h2⟩ := h
    obtain ⟨x, g1, g0, g2, k1, k2, k3, k4⟩ := owns_at h2 (show os[n]? = some o by simpa using e)
    subst k2
    refine ⟨x, f1 ++ g1, g0, g2, by simpa using k1, by rw [List.append_assoc], k3, fun H' o' k ho => ⟨y, r, f1, g1 ++ (g0 ++ g2), rfl, rfl, Own.mono (Ex.refl _) _ _ _ (fun q hq => k q (by simp [hq])) h1, k4 H' o' (fun q hq => k q ?_) ho⟩⟩
    rcases List.mem_append.mp hq with z | z <;> simp [z]
/-- x[k].append(e), k written -/
def sappI (i : Nat) (k : Int) (de : Den D) : SDen := fun e0 => match slotO e0 i with
  | some (.tup os0) => match atI os0 k with
    | some (.lst _) => sbind (dq de) (fun d e => match e[i]? with
      | some (some (b, .tup os)) => match ixN os.length k with
        | some n => match os[n]? with
          | some (.lst ls) => if ls.length < sizeLine then some (.nx true (e.set i (some (b, .tup (os.set n (.lst (ls ++ [.im d])))))) ) else none
          | _ => none
        | none => none
      | _ => none) e0
    | _ => none
  | _ => none
theorem ds_appI {i : Nat} {k : Int} {de : Den D} {j : Nat} (h : DI X W a de)
    (hpe : ∀ {t : TA}, PA X [a] t → PE X (.Call (.Attribute (.Subscript (.Name x px) (.Constant (.int k) j p2) p) "append" apos) [a] [] pos) (tBM X.K "list" rAppend (tOp (rIx X.K) (tVar i) (tC (.int k))) t))
    (hs0 : starEach (a :: []) X.env = (false, eval a X.env) :: starEach [] X.env := by rfl) {spos : Pos} (hs : swapsWith (.Call (.Attribute (.Subscript (.Name x px) (.Constant (.int k) j p2) p) "append" apos) [a] [] pos) none spos.line X.env = pure false := by rfl) :
    DS X W (.Expr (.Call (.Attribute (.Subscript (.Name x px) (.Constant (.int k) j p2) p) "append" apos) [a] [] pos) spos) (sappI i k de) :=
  ⟨ps_weak (ps_expr (hpe (pa_cons h.run pa_nil hs0)) hs) fun D0 σ H q => by
    obtain ⟨c, F, e, ts, R, r, hr, post⟩ := q
    unfold sappI at hr
    cases hsl : slotO e i with
    | none => rw [hsl] at hr; cases hr
    | some o0 =>
      rw [hsl] at hr
      cases o0 with
      | tup os0 =>
        dsimp only at hr
        cases hat : atI os0 k with
        | none => rw [hat] at hr; cases hr
        | some o1 =>
          rw [hat] at hr
          cases o1 with
          | lst ls0 =>
            obtain ⟨b, hb⟩ := slotO_eq hsl
            obtain ⟨v, fs, hv, av, xs, rr, rfl, _, hav, hos⟩ := R.slot hb
            obtain ⟨w, f, hw, aw, ys, rr2, rfl, _, haw, hos2⟩ := atI_ownsO hos hat
            refine ⟨.ref av, hv, .inr (.inl ⟨av, xs, k, .ref aw, rfl, rfl, SqT.of hav, hw, .inl ⟨rfl, ys, SqL.of haw⟩, c, F, e, ts, R, ?_⟩)⟩
            have q0 : AtS X.K W (sbind (dq de) (fun d e => match e[i]? with
              | some (some (b, .tup os)) => match ixN os.length k with
                | some n => match os[n]? with
                  | some (.lst ls) => if ls.length < sizeLine then some (.nx true (e.set i (some (b, .tup (os.set n (.lst (ls ++ [.im d])))))) ) else none
                  | _ => none
                | none => none
              | _ => none)) D0 c F σ e ts H := ⟨r, hr, post⟩
            refine (q0.sbind (rel := relI) (Q' := fun x H1 => Ex H H1 → tNil σ H1 fun vs H2 => rAppend (.ref aw) (x :: vs) H2 fun _ H3 => D0.nx σ H3) fun F1 H1 e1 d w ef hr1 q1 ee => ?_).toQ
            obtain ⟨r1, hr2, post1⟩ := q1
            dsimp only at hr2
            split at hr2
            · rename_i bb os he1
              split at hr2
              · rename_i n hn
                split at hr2
                · rename_i ls hls
                  split at hr2
                  · rename_i hz
                    cases hr2
                    obtain ⟨v1, f0, hv1, how, nd, fr, hc⟩ := hr1.1.mutSlot he1
                    rw [hv] at hv1
                    cases hv1
                    obtain ⟨av', xs1, rr1, ea, rfl, hav1, hos1⟩ := how
                    cases ea
                    have hxs : xs1 = xs := by
                      have := ee _ _ hav
                      rw [hav1] at this
                      cases this
                      rfl
                    subst hxs
                    obtain ⟨x, g1, g0, g2, k1, k2, k3, k4⟩ := owns_at hos1 hls
                    have hx : x = .ref aw := by
                      unfold atI at hw
                      rw [← hos1.length] at hw
                      obtain ⟨n', hn', hw'⟩ := Option.bind_eq_some_iff.mp hw
                      rw [hn] at hn'
                      cases hn'
                      rw [k1] at hw'
                      cases hw'
                      rfl
                    subst hx
                    subst k2
                    obtain ⟨aw', ys1, r3, ea, rfl, haw1, hos3⟩ := k3
                    cases ea
                    have faw := fr aw (by simp)
                    have nd2 := List.nodup_cons.mp nd
                    obtain ⟨dj, _⟩ := nodup_mid nd2.2
                    have hin : aw ∈ aw :: r3 := List.mem_cons_self
                    have kp : ∀ q, q ≠ aw → ∀ u, H1 q = some u → upd H1 aw (.lst (ys1 ++ [w])) q = some u := fun q hq u z => by rw [upd_ne hq]; exact z
                    have hne : av ≠ aw := fun z => nd2.1 (by rw [z]; simp)
                    refine ⟨aw, ys1, w, rfl, rfl, haw1, by rw [← hos3.length]; exact hz, ?_⟩
                    refine post1 F1 _ σ (Ex.refl _) (fun z => by cases z) (hc F1 _ (.tup (os.set n (.lst (ls ++ [.im d])))) (av :: (g1 ++ ((aw :: r3) ++ g2))) ⟨Ex.refl _, fun p u z => kp p (fun q => by subst q; rw [faw.1] at z; cases z) u (hr1.1.fh p u z), fun q u hq z => kp q (fun e => hq (by subst e; simp)) u z, fun p hp => .inl hp⟩
                      ⟨av, xs1, _, rfl, rfl, by rw [upd_ne hne]; exact hav1, k4 _ _ (fun q hq u z => kp q (fun e => ?_) u z) ⟨aw, ys1 ++ [w], r3, rfl, rfl, upd_same, ?_⟩⟩ nd fun q hq => ⟨.inl hq, fr q hq⟩)
                    · subst e
                      rcases List.mem_append.mp hq with z | z
                      · exact (dj q hin).1 z
                      · exact (dj q hin).2 z
                    · have nd3 : aw ∉ r3 := fun z => by
                        have := (List.nodup_append.mp (List.nodup_append.mp nd2.2).2.1).1
                        exact (List.nodup_cons.mp this).1 z
                      have h1 := Owns.append (Owns.mono (F' := F1) (H' := upd H1 aw (.lst (ys1 ++ [w]))) (Ex.refl _) _ _ _ (fun q hq u z => kp q (fun e => nd3 (by rw [← e]; exact hq)) u z) hos3) (show Owns X.K F1 (upd H1 aw (.lst (ys1 ++ [w]))) [.im d] [w] [] from ⟨w, [], [], [], rfl, rfl, ⟨rfl, hr1.2⟩, rfl, rfl⟩)
                      rwa [List.append_nil] at h1
                  · cases hr2
                · cases hr2
              · cases hr2
            · cases hr2
          | _ => cases hr
      | _ => cases hr⟩
end
/-! ### the end -/
theorem law_spec {K : PySem.W.Frag} {H : Hp} {a : Addr} {ns : List Int} {f : FDen} (hS : SqL K H a (ns.map V.int)) (hf : ∃ m os, f [.im (.scr (ns.map D.int))] = some (.ok m os (.im (.bl true)))) : spD K 1 f [V.ref a] H (fun v x => v = V.bl true) (fun _ _ _ => False) := by
  obtain ⟨m, os, hf⟩ := hf
  have hr : Reps K H (ns.map D.int) (ns.map V.int) := by
    have key : ∀ l : List Int, Reps K H (l.map D.int) (l.map V.int) := by
      intro l
      induction l with
      | nil => exact rfl
      | cons a l ih => exact ⟨_, _, rfl, rfl, ih⟩
    exact key ns
  refine ⟨rfl, H, [.im (.scr (ns.map D.int))], [], _, rfl, ⟨[], [], rfl, ⟨rfl, a, _, rfl, hS, hr⟩, rfl⟩, List.nodup_nil, fun p hp => (nomatch hp), Ex.refl _, hf, ?_⟩
  intro F' H' v fs' _ _ _ _ _ hrep _ _ _
  exact hrep
theorem walkD {l : PySem.W.OpenLaw} {k : Nat} {q : Program} {loose : List Str} {XP : (Str → Option Value) → Heap → Prop} {YP : World → Heap → Prop} {d : DefRec} {K : Params → PySem.W.Frag} {x : Str} {f : FDen} (hn : l.most = some 63) (hdf : d.params.defaults = []) (hroom : Room k callerA)
    (hY : ∀ (w : World) (h : Heap), YP w h → (K w.params).In h) (hf : ∀ ns : List Int, ns.length ≤ 63 → ∃ m os, f [.im (.scr (ns.map D.int))] = some (.ok m os (.im (.bl true))))
    (F : ∀ (w : World) (mg : Str → Option Value) (fa : Addr) (h : Heap), (K w.params).In h → h.Ns mainGlobals mg → mg d.name = some (.ref fa) →
      ∃ fd : FuncData, (∀ (s : Shared) (u : Value), BindsTo s fd ⟨[u], []⟩ [(x, u)]) ∧ ∀ base : Heap, (K w.params).In base → base.Ns mainGlobals mg → FnOk l.prog w (K w.params) mg base (L2.CX l.prog w) k fa fd [x] (spD (K w.params) 1 f)) :
    PySem.W.WalkO q loose XP YP l.row.toRowW d [] (fun f vs => PySem.call f vs) :=
  L2.walk_of (n := 63) (k := k) (x := x) (CX := fun w => L2.CX l.prog w) (sp := fun w => spD (K w.params) 1 f) hn (by decide) hdf hroom hY F (fun _ _ a ns hl _ hS => law_spec hS (hf ns hl)) fun _ _ _ _ _ z => by
    obtain ⟨_, _, _, _, _, _, _, _, _, _, _, _, z⟩ := z
    exact z
end DL

/-! DLO: denotations reckoned: what must hold so that they end as wanted. -/
namespace DL
open PySem PySem.Spec PyProof.Rows L2 Evl

/-- an expression's denotation ends well; q: and changed nothing -/
def EW {α : Type} (q : Bool) (d : Den α) (e : Env) (P : α → Env → Prop) : Prop := ∃ m e' a, d e = some (.ok m e' a) ∧ (q = true → m = false) ∧ P a e'
/-- a statement's; N: it goes on, R: it returns, B: it breaks, C: it continues -/
structure Aft where
  N : Env → Prop
  R : Rv → Env → Prop
  B : Env → Prop := fun _ => False
  C : Env → Prop := fun _ => False
def SP' (A : Aft) : SRes → Prop
  | .nx _ e => A.N e
  | .rt _ e r => A.R r e
  | .bk _ e => A.B e
  | .ct _ e => A.C e
  | .er _ _ _ => False
def SW (s : SDen) (e : Env) (A : Aft) : Prop := ∃ r, s e = some r ∧ SP' A r
section
variable {α β : Type} {q : Bool} {e : Env}
theorem SP'.more {A : Aft} {m : Bool} {r : SRes} (h : SP' A r) : ∃ r', SRes.more m (some r) = some r' ∧ SP' A r' := by
  cases r <;> first | exact ⟨_, rfl, h⟩ | exact False.elim h
theorem ew_pure {a : α} {P : α → Env → Prop} : EW q (dpure a) e P ↔ P a e := ⟨fun ⟨m, e', b, h, _, p⟩ => by cases h; exact p, fun h => ⟨false, e, a, rfl, fun _ => rfl, h⟩⟩
theorem ew_some {a : α} {P : α → Env → Prop} : EW q (dlift (some a)) e P ↔ P a e := ew_pure
theorem ew_lift {a : Option α} {P : α → Env → Prop} : EW q (dlift a) e P ↔ ∃ x, a = some x ∧ P x e := by
  cases a with
  | none => exact ⟨fun ⟨m, e', b, h, _⟩ => (by cases h), fun ⟨x, h, _⟩ => by cases h⟩
  | some a => exact ew_pure.trans ⟨fun h => ⟨a, rfl, h⟩, fun ⟨x, h, p⟩ => by cases h; exact p⟩
theorem ew_bind {d : Den α} {f : α → Den β} {P : β → Env → Prop} : EW q (dbind d f) e P ↔ EW q d e fun a e' => EW q (f a) e' P := by
  constructor
  · rintro ⟨m, e', b, h, hm, p⟩
    unfold dbind at h
    cases hd : d e with
    | none => rw [hd] at h; cases h
    | some r =>
      rw [hd] at h
      cases r with
      | err m1 e1 x => cases h
      | ok m1 e1 a =>
        obtain ⟨m2, h2, hm2⟩ := more_ok h
        subst hm2
        exact ⟨m1, e1, a, hd, fun z => or_l (hm z), m2, e', b, h2, fun z => or_r (hm z), p⟩
  · rintro ⟨m1, e1, a, hd, hm1, m2, e2, b, h2, hm2, p⟩
    refine ⟨m1 || m2, e2, b, ?_, fun z => by rw [hm1 z, hm2 z]; rfl, p⟩
    unfold dbind
    rw [hd]
    show Res.more m1 (f a e1) = _
    rw [h2]
    rfl
theorem ew_dq {d : Den α} {P : α → Env → Prop} : EW q (dq d) e P ↔ EW true d e P := by
  constructor
  · rintro ⟨m, e', b, h, hm, p⟩
    unfold dq at h
    cases hd : d e with
    | none => rw [hd] at h; cases h
    | some r =>
      rw [hd] at h
      cases r with
      | err m1 e1 x => cases h
      | ok m1 e1 a =>
        cases m1 with
        | true => cases h
        | false => cases h; exact ⟨false, e', b, hd, fun _ => rfl, p⟩
  · rintro ⟨m1, e1, a, hd, hm1, p⟩
    have := hm1 rfl
    subst this
    exact ⟨false, e1, a, by unfold dq; rw [hd], fun _ => rfl, p⟩
/-- what stands in a slot -/
def lk (e : Env) (i : Nat) : Slot := (e[i]?).getD none
theorem ew_var {i : Nat} {P : Rv → Env → Prop} : EW q (dvar i) e P ↔ match lk e i with
    | some (_, .im d) => P (.im d) e
    | some (_, o) => P (.bor i o) e
    | none => False := by
  unfold lk EW dvar
  cases h : e[i]? with
  | none => exact ⟨fun ⟨m, e', b, h, _⟩ => (by cases h), fun h => False.elim h⟩
  | some s =>
    cases s with
    | none => exact ⟨fun ⟨m, e', b, h, _⟩ => (by cases h), fun h => False.elim h⟩
    | some s =>
      obtain ⟨b, o⟩ := s
      cases o <;> exact ⟨fun ⟨m, e', b, h, _, p⟩ => by cases h; exact p, fun p => ⟨false, e, _, rfl, fun _ => rfl, p⟩⟩
theorem ew_ite {c : Prop} [Decidable c] {d f : Den α} {P : α → Env → Prop} : EW q (if c then d else f) e P ↔ (c → EW q d e P) ∧ (¬ c → EW q f e P) := by
  by_cases h : c
  · rw [if_pos h]
    exact ⟨fun p => ⟨fun _ => p, fun z => absurd h z⟩, fun p => p.1 h⟩
  · rw [if_neg h]
    exact ⟨fun p => ⟨fun z => absurd z h, fun _ => p⟩, fun p => p.2 h⟩
theorem ew_frz {d : Den Rv} {P : D → Env → Prop} : EW q (frz d) e P ↔ EW q d e fun r e' => match r with
    | .im d => P d e'
    | .new o => P o.flat e'
    | .bor i o => match lk e' i with
      | some (b, _) => P o.flat (e'.set i (some (b, .im o.flat)))
      | none => False := by
  unfold frz
  rw [ew_bind]
  refine ⟨fun h => ?_, fun h => ?_⟩
  all_goals
    obtain ⟨m, e', r, h1, h2, h3⟩ := h
    refine ⟨m, e', r, h1, h2, ?_⟩
  · cases r with
    | im d => obtain ⟨m, e', b, h, _, p⟩ := h3; cases h; exact p
    | new o => obtain ⟨m, e', b, h, _, p⟩ := h3; cases h; exact p
    | bor i o =>
      obtain ⟨m, e2, b, h, _, p⟩ := h3
      unfold lk
      dsimp only at h ⊢
      cases hi : e'[i]? with
      | none => rw [hi] at h; cases h
      | some s =>
        rw [hi] at h
        cases s with
        | none => cases h
        | some s => obtain ⟨b, o1⟩ := s; cases h; exact p
  · cases r with
    | im d => exact ⟨false, e', d, rfl, fun _ => rfl, h3⟩
    | new o => exact ⟨false, e', _, rfl, fun _ => rfl, h3⟩
    | bor i o =>
      unfold lk at h3
      dsimp only at h3
      cases hi : e'[i]? with
      | none => rw [hi] at h3; exact False.elim h3
      | some s =>
        rw [hi] at h3
        cases s with
        | none => exact False.elim h3
        | some s =>
          obtain ⟨b, o1⟩ := s
          refine ⟨false, e'.set i (some (b, .im o.flat)), o.flat, ?_, fun _ => rfl, h3⟩
          dsimp only
          rw [hi]
theorem ew_vw {d : Den Rv} {P : D → Env → Prop} : EW q (vw d) e P ↔ EW q d e fun r e' => match r with
    | .im d => P d e'
    | .new o => P o.flat e'
    | .bor _ o => P o.flat e' := by
  unfold vw
  rw [ew_bind]
  refine ⟨fun ⟨m, e', r, h1, h2, h3⟩ => ⟨m, e', r, h1, h2, ?_⟩, fun ⟨m, e', r, h1, h2, h3⟩ => ⟨m, e', r, h1, h2, ?_⟩⟩
  all_goals cases r <;> first | exact ew_pure.mp h3 | exact ew_pure.mpr h3
theorem ew_ow {d : Den Rv} {P : O → Env → Prop} : EW q (ow d) e P ↔ EW q d e fun r e' => match r with
    | .im d => P (.im d) e'
    | .new o => P (.im o.flat) e'
    | .bor _ o => P o e' := by
  unfold ow
  rw [ew_bind]
  refine ⟨fun ⟨m, e', r, h1, h2, h3⟩ => ⟨m, e', r, h1, h2, ?_⟩, fun ⟨m, e', r, h1, h2, h3⟩ => ⟨m, e', r, h1, h2, ?_⟩⟩
  all_goals cases r <;> first | exact ew_pure.mp h3 | exact ew_pure.mpr h3
theorem ew_imR {d : Den D} {P : Rv → Env → Prop} : EW q (imR d) e P ↔ EW q d e fun x e' => P (.im x) e' := by unfold imR; rw [ew_bind]; simp only [ew_pure]
theorem ew_imD {d : Den O} {P : D → Env → Prop} : EW q (imD d) e P ↔ EW q d e fun o e' => ∃ x, imO o = some x ∧ P x e' := by unfold imD; rw [ew_bind]; simp only [ew_lift]
theorem ew_fl {d : Den O} {P : D → Env → Prop} : EW q (fl d) e P ↔ EW q d e fun o e' => P o.flat e' := by unfold fl; rw [ew_bind]; simp only [ew_pure]
theorem ew_bin {da db : Den D} {g : D → D → Option D} {P : D → Env → Prop} : EW q (dbin da db g) e P ↔ EW q da e fun x e1 => EW q db e1 fun y e2 => ∃ z, g x y = some z ∧ P z e2 := by unfold dbin; simp only [ew_bind, ew_lift]
theorem ew_cmp {da db : Den D} {g : D → D → Option Bool} {P : D → Env → Prop} : EW q (dcmp da db g) e P ↔ EW q da e fun x e1 => EW true db e1 fun y e2 => ∃ z, g x y = some z ∧ P (.bl z) e2 := by
  unfold dcmp
  simp only [ew_bind, ew_lift, ew_dq]
  refine ⟨fun ⟨m, e1, x, h1, h2, m2, e2, y, h3, h4, d, hd, p⟩ => ?_, fun ⟨m, e1, x, h1, h2, m2, e2, y, h3, h4, z, hz, p⟩ => ⟨m, e1, x, h1, h2, m2, e2, y, h3, h4, .bl z, by rw [hz]; rfl, p⟩⟩
  obtain ⟨b, hb, rfl⟩ := Option.map_eq_some_iff.mp hd
  exact ⟨m, e1, x, h1, h2, m2, e2, y, h3, h4, b, hb, p⟩
theorem ew_dtB {d : Den D} {P : Bool → Env → Prop} : EW q (dtB d) e P ↔ EW q d e fun x e' => match x with
    | .bl b => P b e'
    | _ => False := by
  unfold dtB
  simp only [ew_bind, ew_lift]
  refine ⟨fun ⟨m, e1, x, h1, h2, b, hb, p⟩ => ⟨m, e1, x, h1, h2, ?_⟩, fun ⟨m, e1, x, h1, h2, p⟩ => ⟨m, e1, x, h1, h2, ?_⟩⟩
  · cases x <;> cases hb
    exact p
  · cases x <;> first | exact False.elim p | exact ⟨_, rfl, p⟩
theorem ew_dtru {d : Den D} {P : Bool → Env → Prop} : EW q (dtru d) e P ↔ EW q d e fun x e' => ∃ b, truD x = some b ∧ P b e' := by unfold dtru; simp only [ew_bind, ew_lift]
theorem ew_dand {d f : Den Bool} {P : Bool → Env → Prop} : EW q (dand d f) e P ↔ EW q d e fun b e' => (b = true → EW q f e' P) ∧ (b = false → P false e') := by
  unfold dand
  simp only [ew_bind, ew_ite, ew_pure, Bool.not_eq_true]
theorem ew_dor {d f : Den Bool} {P : Bool → Env → Prop} : EW q (dor d f) e P ↔ EW q d e fun b e' => (b = true → P true e') ∧ (b = false → EW q f e' P) := by
  unfold dor
  simp only [ew_bind, ew_ite, ew_pure, Bool.not_eq_true]
theorem ew_dnot {d : Den Bool} {P : Bool → Env → Prop} : EW q (dnot d) e P ↔ EW q d e fun b e' => P (!b) e' := by unfold dnot; simp only [ew_bind, ew_pure]
theorem ew_dandV {d f : Den D} {P : D → Env → Prop} : EW q (dandV d f) e P ↔ EW q (dtB d) e fun b e' => (b = true → EW q f e' P) ∧ (b = false → P (.bl false) e') := by
  unfold dandV
  simp only [ew_bind, ew_ite, ew_pure, Bool.not_eq_true]
theorem ew_dorV {d f : Den D} {P : D → Env → Prop} : EW q (dorV d f) e P ↔ EW q (dtB d) e fun b e' => (b = true → P (.bl true) e') ∧ (b = false → EW q f e' P) := by
  unfold dorV
  simp only [ew_bind, ew_ite, ew_pure, Bool.not_eq_true]
theorem ew_dnotV {d : Den D} {P : D → Env → Prop} : EW q (dnotV d) e P ↔ EW q (dtB d) e fun b e' => P (.bl (!b)) e' := by unfold dnotV; simp only [ew_bind, ew_pure]
theorem ew_dif {t : Den Bool} {x y : Den α} {P : α → Env → Prop} : EW q (dif t x y) e P ↔ EW q t e fun b e' => (b = true → EW q x e' P) ∧ (b = false → EW q y e' P) := by
  unfold dif
  simp only [ew_bind, ew_ite, Bool.not_eq_true]
theorem ew_dcons {d : Den D} {ds : Den (List D)} {P : List D → Env → Prop} : EW q (dcons d ds) e P ↔ EW q d e fun x e1 => EW q ds e1 fun xs e2 => P (x :: xs) e2 := by unfold dcons; simp only [ew_bind, ew_pure]
theorem ew_dconsV {d : Den D} {ds : Den (List D)} {P : List D → Env → Prop} : EW q (dconsV d ds) e P ↔ EW q d e fun x e1 => EW true ds e1 fun xs e2 => P (x :: xs) e2 := by unfold dconsV; simp only [ew_bind, ew_pure, ew_dq]
theorem ew_darcons {d : Den Rv} {ds : Den (List AR)} {P : List AR → Env → Prop} : EW q (darcons d ds) e P ↔ EW q d e fun x e1 => EW q ds e1 fun xs e2 => P (darg x :: xs) e2 := by unfold darcons; simp only [ew_bind, ew_pure]
theorem ew_dtup {ds : Den (List D)} {P : D → Env → Prop} : EW q (dtup ds) e P ↔ EW q ds e fun xs e' => xs.length ≤ sizeLine ∧ P (.tup xs) e' := by
  unfold dtup
  simp only [ew_bind, ew_lift]
  refine ⟨fun ⟨m, e1, x, h1, h2, b, hb, p⟩ => ⟨m, e1, x, h1, h2, ?_⟩, fun ⟨m, e1, x, h1, h2, hz, p⟩ => ⟨m, e1, x, h1, h2, .tup x, by rw [if_pos hz], p⟩⟩
  split at hb
  · rename_i hz
    cases hb
    exact ⟨hz, p⟩
  · cases hb
theorem ew_dlst {ds : Den (List D)} {P : Rv → Env → Prop} : EW q (dlst ds) e P ↔ EW q ds e fun xs e' => xs.length ≤ sizeLine ∧ P (.new (.lst (xs.map O.im))) e' := by
  unfold dlst
  simp only [ew_bind, ew_lift]
  refine ⟨fun ⟨m, e1, x, h1, h2, b, hb, p⟩ => ⟨m, e1, x, h1, h2, ?_⟩, fun ⟨m, e1, x, h1, h2, hz, p⟩ => ⟨m, e1, x, h1, h2, _, by rw [if_pos hz], p⟩⟩
  split at hb
  · rename_i hz
    cases hb
    exact ⟨hz, p⟩
  · cases hb
theorem ew_dixO {d : Den O} {di : Den D} {P : O → Env → Prop} : EW q (dixO d di) e P ↔ EW q d e fun o e1 => EW true di e1 fun i e2 => ∃ x, elemOO o i = some x ∧ P x e2 := by unfold dixO; simp only [ew_bind, ew_lift, ew_dq]
theorem ew_chain {da db dc : Den D} {g g' : D → D → Option Bool} {P : D → Env → Prop} : EW q (dchain da db dc g g') e P ↔ EW q da e fun x e1 => EW true db e1 fun y e2 => ∃ k, g x y = some k ∧ (k = true → EW true dc e2 fun z e3 => ∃ b, g' y z = some b ∧ P (.bl b) e3) ∧ (k = false → P (.bl false) e2) := by
  unfold dchain
  simp only [ew_bind, ew_lift, ew_dq, ew_ite, ew_pure, Bool.not_eq_true]
  refine ⟨fun ⟨m, e1, x, h1, h2, m2, e2, y, h3, h4, k, hk, p1, p2⟩ => ⟨m, e1, x, h1, h2, m2, e2, y, h3, h4, k, hk, fun z => ?_, p2⟩, fun ⟨m, e1, x, h1, h2, m2, e2, y, h3, h4, k, hk, p1, p2⟩ => ⟨m, e1, x, h1, h2, m2, e2, y, h3, h4, k, hk, fun z => ?_, p2⟩⟩
  · obtain ⟨m5, e5, z5, h5, h6, d, hd, p⟩ := p1 z
    obtain ⟨b, hb, rfl⟩ := Option.map_eq_some_iff.mp hd
    exact ⟨m5, e5, z5, h5, h6, b, hb, p⟩
  · obtain ⟨m5, e5, z5, h5, h6, b, hb, p⟩ := p1 z
    exact ⟨m5, e5, z5, h5, h6, .bl b, by rw [hb]; rfl, p⟩
theorem ew_imp {d : Den α} {P Q : α → Env → Prop} (h : EW q d e P) (k : ∀ a e', P a e' → Q a e') : EW q d e Q := by
  obtain ⟨m, e', a, h1, h2, h3⟩ := h
  exact ⟨m, e', a, h1, h2, k a e' h3⟩
/-! ### statements -/
theorem sw_next {A : Aft} : SW snext e A ↔ A.N e := ⟨fun ⟨r, h, p⟩ => by cases h; exact p, fun h => ⟨_, rfl, h⟩⟩
theorem sw_seq {a b : SDen} {A : Aft} : SW (sseq a b) e A ↔ SW a e { A with N := fun e' => SW b e' A } := by
  constructor
  · rintro ⟨r, h, p⟩
    unfold sseq at h
    cases ha : a e with
    | none => rw [ha] at h; cases h
    | some ra =>
      rw [ha] at h
      refine ⟨ra, ha, ?_⟩
      cases ra with
      | nx m e1 =>
        dsimp only at h
        cases hb : b e1 with
        | none => rw [hb] at h; cases h
        | some rb =>
          rw [hb] at h
          refine ⟨rb, hb, ?_⟩
          cases rb <;> (cases h; exact p)
      | rt m e1 v => cases h; exact p
      | bk m e1 => cases h; exact p
      | ct m e1 => cases h; exact p
      | er m e1 x => cases h; exact p
  · rintro ⟨ra, ha, p⟩
    unfold SW sseq
    rw [ha]
    cases ra with
    | nx m e1 =>
      obtain ⟨rb, hb, pb⟩ := p
      dsimp only
      rw [hb]
      exact SP'.more pb
    | rt m e1 v => exact ⟨_, rfl, p⟩
    | bk m e1 => exact ⟨_, rfl, p⟩
    | ct m e1 => exact ⟨_, rfl, p⟩
    | er m e1 x => exact False.elim p
theorem sw_bind {d : Den α} {f : α → SDen} {A : Aft} : SW (sbind d f) e A ↔ EW false d e fun a e' => SW (f a) e' A := by
  constructor
  · rintro ⟨r, h, p⟩
    unfold sbind at h
    cases ha : d e with
    | none => rw [ha] at h; cases h
    | some ra =>
      rw [ha] at h
      cases ra with
      | err m e1 x => cases h; exact False.elim p
      | ok m e1 a =>
        refine ⟨m, e1, a, ha, fun z => (by cases z), ?_⟩
        dsimp only at h
        cases hb : f a e1 with
        | none => rw [hb] at h; cases h
        | some rb =>
          rw [hb] at h
          refine ⟨rb, hb, ?_⟩
          cases rb <;> (cases h; exact p)
  · rintro ⟨m, e1, a, ha, _, rb, hb, pb⟩
    unfold SW sbind
    rw [ha]
    dsimp only
    rw [hb]
    exact SP'.more pb
theorem sw_ite {c : Prop} [Decidable c] {a b : SDen} {A : Aft} : SW (if c then a else b) e A ↔ (c → SW a e A) ∧ (¬ c → SW b e A) := by
  by_cases h : c
  · rw [if_pos h]
    exact ⟨fun p => ⟨fun _ => p, fun z => absurd h z⟩, fun p => p.1 h⟩
  · rw [if_neg h]
    exact ⟨fun p => ⟨fun z => absurd z h, fun _ => p⟩, fun p => p.2 h⟩
theorem sw_if {t : Den Bool} {a b : SDen} {A : Aft} : SW (sif t a b) e A ↔ EW false t e fun k e' => (k = true → SW a e' A) ∧ (k = false → SW b e' A) := by
  unfold sif
  simp only [sw_bind, sw_ite, Bool.not_eq_true]
theorem sw_rt {d : Den Rv} {A : Aft} : SW (srt d) e A ↔ EW false d e fun r e' => A.R r e' := by
  unfold srt
  rw [sw_bind]
  exact ⟨fun h => ew_imp h fun a e' ⟨r, h, p⟩ => by cases h; exact p, fun h => ew_imp h fun a e' p => ⟨_, rfl, p⟩⟩
theorem sw_drop {d : Den Rv} {A : Aft} : SW (sdrop d) e A ↔ EW false d e fun _ e' => A.N e' := by
  unfold sdrop
  simp only [sw_bind, sw_next]
theorem lk_some {i : Nat} {s : Bool × O} (h : lk e i = some s) : e[i]? = some (some s) := by
  unfold lk at h
  cases hi : e[i]? with
  | none => rw [hi] at h; cases h
  | some x => rw [hi] at h; exact congrArg some h
theorem sw_set {i : Nat} {d : Den Rv} {A : Aft} : (EW false d e fun r e' => match r with
    | .im d => Env.free e' i = true ∧ A.N (e'.set i (some (false, .im d)))
    | .new o => Env.free e' i = true ∧ A.N (e'.set i (some (false, o)))
    | .bor j o => Env.free e' i = true ∧ match lk e' j with
      | some (b, _) => Env.free (e'.set j (some (b, .im o.flat))) i = true ∧ A.N ((e'.set j (some (b, .im o.flat))).set i (some (false, .im o.flat)))
      | none => False) → SW (sset i d) e A := by
  intro h
  unfold sset
  rw [sw_bind]
  refine ew_imp h fun r e' p => ?_
  cases r with
  | im d => exact ⟨_, if_pos p.1, p.2⟩
  | new o => exact ⟨_, if_pos p.1, p.2⟩
  | bor j o =>
    obtain ⟨p1, p2⟩ := p
    cases hl : lk e' j with
    | none => rw [hl] at p2; exact False.elim p2
    | some s =>
      obtain ⟨b, o1⟩ := s
      rw [hl] at p2
      refine ⟨.nx false ((e'.set j (some (b, .im o.flat))).set i (some (false, .im o.flat))), ?_, p2.2⟩
      dsimp only
      rw [if_pos p1, lk_some hl]
      exact if_pos p2.1
/-- a loop over items, by an invariant over their number -/
theorem sw_loop {bind : D → Env → Option Env} {body : SDen} {A : Aft} : ∀ {ds : List D} {e : Env} (Iv : Nat → Env → Prop), Iv 0 e →
    (∀ i d e', ds[i]? = some d → Iv i e' → ∃ e1, bind d e' = some e1 ∧ SW body e1 { N := Iv (i + 1), C := Iv (i + 1), R := A.R, B := A.N }) → (∀ e', Iv ds.length e' → A.N e') → SW (sloop bind body ds) e A
  | [], e, Iv, h0, hs, hd => sw_next.mpr (hd e h0)
  | d :: ds, e, Iv, h0, hs, hd => by
    obtain ⟨e1, hb, r, hr, p⟩ := hs 0 d e rfl h0
    have ih : ∀ e2, Iv 1 e2 → SW (sloop bind body ds) e2 A := fun e2 h2 => sw_loop (fun i e => Iv (i + 1) e) h2 (fun i d' e' hi h' => hs (i + 1) d' e' (by simpa using hi) h') (fun e' h' => hd e' h')
    unfold SW sloop
    rw [hb]
    dsimp only
    rw [hr]
    cases r with
    | nx m e2 =>
      obtain ⟨r2, h2, p2⟩ := ih e2 p
      show ∃ r, SRes.more m (sloop bind body ds e2) = some r ∧ _
      rw [h2]
      exact SP'.more p2
    | ct m e2 =>
      obtain ⟨r2, h2, p2⟩ := ih e2 p
      show ∃ r, SRes.more m (sloop bind body ds e2) = some r ∧ _
      rw [h2]
      exact SP'.more p2
    | bk m e2 => exact ⟨_, rfl, p⟩
    | rt m e2 v => exact ⟨_, rfl, p⟩
    | er m e2 x => exact False.elim p
theorem sw_forP {src : Den (List D)} {bind : D → Env → Option Env} {body : SDen} {A : Aft} : SW (sforP src bind body) e A ↔ EW false src e fun ds e' => SW (sloop bind body ds) e' A := by
  unfold sforP
  rw [sw_bind]
theorem ew_sq {d : Den D} {P : List D → Env → Prop} : EW q (sq d) e P ↔ EW q d e fun x e' => ∃ ds, seqD x = some ds ∧ P ds e' := by unfold sq; simp only [ew_bind, ew_lift]
theorem ew_rg {g : List D → Option (List D)} {d : Den (List D)} {P : List D → Env → Prop} : EW q (rg g d) e P ↔ EW q d e fun x e' => ∃ ds, g x = some ds ∧ P ds e' := by unfold rg; simp only [ew_bind, ew_lift]
theorem sw_app {i : Nat} {d : Den Rv} {A : Aft} {b0 : Bool} {os0 : List O} (h0 : lk e i = some (b0, .lst os0)) (h : EW false d e fun r e1 => EW false (rvO r) e1 fun o e' => match lk e' i with
    | some (b, .lst os) => os.length < sizeLine ∧ A.N (e'.set i (some (b, .lst (os ++ [o]))))
    | _ => False) : SW (sapp i d) e A := by
  unfold SW sapp
  rw [lk_some h0]
  show SW (sbind d fun rv => sbind (rvO rv) _) e A
  rw [sw_bind]
  refine ew_imp h fun r e1 p => ?_
  rw [sw_bind]
  refine ew_imp p fun o e' p => ?_
  unfold SW
  cases hl : lk e' i with
  | none => rw [hl] at p; exact False.elim p
  | some s =>
    obtain ⟨b, o1⟩ := s
    rw [hl] at p
    cases o1 with
    | lst os =>
      dsimp only
      rw [lk_some hl]
      exact ⟨_, if_pos p.1, p.2⟩
    | _ => exact False.elim p
theorem ew_rvO {r : Rv} {P : O → Env → Prop} : EW q (rvO r) e P ↔ match r with
    | .im d => P (.im d) e
    | .new o => P o e
    | .bor i _ => match lk e i with
      | some (b, o) => P (.im o.flat) (e.set i (some (b, .im o.flat)))
      | none => False := by
  unfold rvO EW
  cases r with
  | im d => exact ⟨fun ⟨m, e', a, h, _, p⟩ => by cases h; exact p, fun p => ⟨false, e, _, rfl, fun _ => rfl, p⟩⟩
  | new o => exact ⟨fun ⟨m, e', a, h, _, p⟩ => by cases h; exact p, fun p => ⟨false, e, _, rfl, fun _ => rfl, p⟩⟩
  | bor i o =>
    dsimp only
    unfold lk
    cases hi : e[i]? with
    | none => exact ⟨fun ⟨m, e', a, h, _, p⟩ => (by cases h), fun p => False.elim p⟩
    | some s =>
      cases s with
      | none => exact ⟨fun ⟨m, e', a, h, _, p⟩ => (by cases h), fun p => False.elim p⟩
      | some s => obtain ⟨b, o1⟩ := s; exact ⟨fun ⟨m, e', a, h, _, p⟩ => by cases h; exact p, fun p => ⟨false, _, _, rfl, fun _ => rfl, p⟩⟩
/-! ### defs -/
/-- called with frozen data: it gives d -/
def FP (f : FDen) (ds : List D) (d : D) : Prop := ∃ m, f (ds.map O.im) = some (.ok m (ds.map O.im) (.im d))
/-- .. it gives what is new -/
def FN (f : FDen) (ds : List D) (o : O) : Prop := ∃ m, f (ds.map O.im) = some (.ok m (ds.map O.im) (.new o))
theorem outs_im : ∀ (ds : List D) (e : Env), ds.length ≤ e.length → outs (ds.map O.im) e = some (ds.map O.im)
  | [], e, _ => by cases e <;> rfl
  | d :: ds, [], h => by simp at h
  | d :: ds, s :: e, h => by
    show (outs (ds.map O.im) e).map _ = _
    rw [outs_im ds e (by simpa using h)]
    rfl
theorem fp_of {n : Nat} {s : SDen} {ds : List D} {d : D} (h : SW s (env0 (ds.map O.im) n) { N := fun e => d = .non ∧ ds.length ≤ e.length, R := fun r e => r = .im d ∧ ds.length ≤ e.length }) : FP (fnden n s) ds d := by
  obtain ⟨r, hr, p⟩ := h
  unfold FP fnden
  rw [hr]
  cases r with
  | nx m e =>
    obtain ⟨rfl, hl⟩ := p
    dsimp only
    rw [outs_im ds e hl]
    exact ⟨m, rfl⟩
  | rt m e r =>
    obtain ⟨rfl, hl⟩ := p
    dsimp only
    rw [outs_im ds e hl]
    exact ⟨m, rfl⟩
  | _ => exact False.elim p
theorem fn_of {n : Nat} {s : SDen} {ds : List D} {o : O} (h : SW s (env0 (ds.map O.im) n) { N := fun e => False, R := fun r e => ds.length ≤ e.length ∧ (r = .new o ∨ ∃ i o', r = .bor i o' ∧ o' = o ∧ lk e i = some (false, o)) }) : FN (fnden n s) ds o := by
  obtain ⟨r, hr, p⟩ := h
  unfold FN fnden
  rw [hr]
  cases r with
  | nx m e => exact False.elim p
  | rt m e r =>
    obtain ⟨hl, p⟩ := p
    rcases p with rfl | ⟨i, o', rfl, rfl, p⟩
    · dsimp only
      rw [outs_im ds e hl]
      exact ⟨m, rfl⟩
    · dsimp only
      rw [lk_some p]
      dsimp only
      rw [outs_im ds (e.set i none) (by rw [List.length_set]; exact hl)]
      exact ⟨m, rfl⟩
  | _ => exact False.elim p
theorem lend_im : ∀ (ds : List D) (e : Env), lend (ds.map AR.im) e = some (ds.map O.im, ds.map (fun _ => none), e)
  | [], e => rfl
  | d :: ds, e => by
    show (lend (ds.map AR.im) e).map _ = _
    rw [lend_im ds e]
    rfl
theorem unlend_im : ∀ (ds : List D) (e : Env), unlend (ds.map (fun _ => none)) (ds.map O.im) e = some e
  | [], e => rfl
  | d :: ds, e => unlend_im ds e
theorem allIm_map : ∀ ds : List D, allIm (ds.map O.im) = true
  | [] => rfl
  | d :: ds => allIm_map ds
theorem ew_fp {n : Nat} {f : FDen} {ds : List D} {d : D} {P : Rv → Env → Prop} (hf : FP f ds d) (hn : ds.length = n) : EW q (dfnA n f (ds.map AR.im)) e P ↔ P (.im d) e := by
  obtain ⟨m, hf⟩ := hf
  have h : dfnA n f (ds.map AR.im) e = some (.ok false e (.im d)) := by
    unfold dfnA
    rw [if_pos (by rw [List.length_map]; exact hn), lend_im]
    dsimp only
    rw [hf]
    dsimp only
    rw [unlend_im, allIm_map]
    simp
  unfold EW
  rw [h]
  exact ⟨fun ⟨m, e', a, h, _, p⟩ => by cases h; exact p, fun p => ⟨false, e, _, rfl, fun _ => rfl, p⟩⟩
theorem ew_fn {n : Nat} {f : FDen} {ds : List D} {o : O} {P : Rv → Env → Prop} (hf : FN f ds o) (hn : ds.length = n) : EW q (dfnA n f (ds.map AR.im)) e P ↔ P (.new o) e := by
  obtain ⟨m, hf⟩ := hf
  have h : dfnA n f (ds.map AR.im) e = some (.ok false e (.new o)) := by
    unfold dfnA
    rw [if_pos (by rw [List.length_map]; exact hn), lend_im]
    dsimp only
    rw [hf]
    dsimp only
    rw [unlend_im, allIm_map]
    simp
  unfold EW
  rw [h]
  exact ⟨fun ⟨m, e', a, h, _, p⟩ => by cases h; exact p, fun p => ⟨false, e, _, rfl, fun _ => rfl, p⟩⟩
end
end DL

/-! DLP: rules that step through a denotation. -/
namespace DL
open PySem PySem.Spec PyProof.Rows L2 Evl
def OP {α : Type} (o : Option α) (P : α → Prop) : Prop := ∃ z, o = some z ∧ P z
def BR (k : Bool) (X Y : Prop) : Prop := (k = true → X) ∧ (k = false → Y)
theorem br_t {X Y : Prop} (h : X) : BR true X Y := ⟨fun _ => h, fun z => by cases z⟩
theorem br_f {X Y : Prop} (h : Y) : BR false X Y := ⟨fun z => (by cases z), fun _ => h⟩
theorem br_not {k : Bool} {X Y : Prop} (h : BR k Y X) : BR (!k) X Y := by
  cases k
  · exact ⟨fun _ => h.2 rfl, fun z => (by cases z)⟩
  · exact ⟨fun z => (by cases z), fun _ => h.1 rfl⟩
theorem br_dec {p : Prop} [Decidable p] {X Y : Prop} (h1 : p → X) (h2 : ¬ p → Y) : BR (decide p) X Y := ⟨fun h => h1 (of_decide_eq_true h), fun h => h2 (of_decide_eq_false h)⟩
theorem br_of {k : Bool} {X Y : Prop} (h1 : k = true → X) (h2 : k = false → Y) : BR k X Y := ⟨h1, h2⟩
theorem br_eqT {k : Bool} {X Y : Prop} (hk : k = true) (h : X) : BR k X Y := ⟨fun _ => h, fun z => by rw [hk] at z; cases z⟩
theorem br_eqF {k : Bool} {X Y : Prop} (hk : k = false) (h : Y) : BR k X Y := ⟨fun z => (by rw [hk] at z; cases z), fun _ => h⟩
section
variable {α β : Type} {q : Bool} {e : Env}
theorem w_op {o : Option α} {z : α} {P : α → Prop} (h : o = some z) (p : P z) : OP o P := ⟨z, h, p⟩
theorem mul_l {i j : Int} (h : i.natAbs < 2 ^ 64) : mulOk i j = true := by unfold mulOk; rw [decide_eq_true h]; rfl
theorem mul_r {i j : Int} (h : j.natAbs < 2 ^ 64) : mulOk i j = true := by unfold mulOk; rw [decide_eq_true h]; cases decide (i.natAbs < 2 ^ 64) <;> rfl
theorem op_mul {i j : Int} {P : D → Prop} (h : mulOk i j = true) (p : P (.int (i * j))) : OP (mulD (.int i) (.int j)) P := ⟨_, if_pos h, p⟩
theorem op_div {i j : Int} {P : D → Prop} (h : j ≠ 0 ∧ j.natAbs.log2 < 9000) (p : P (.int (i.fdiv j))) : OP (divD (.int i) (.int j)) P := ⟨_, if_pos h, p⟩
theorem op_mod {i j : Int} {P : D → Prop} (h : j ≠ 0) (p : P (.int (i.fmod j))) : OP (modD (.int i) (.int j)) P := ⟨_, if_pos h, p⟩
theorem op_pow {i j : Int} {P : D → Prop} (h : 0 ≤ j ∧ j ≤ 1000000 ∧ i.natAbs < 2 ^ 64) (p : P (.int (i ^ j.toNat))) : OP (powD (.int i) (.int j)) P := ⟨_, if_pos h, p⟩
theorem eqD_ii (i j : Int) : eqD (.int i) (.int j) = some (decide (i = j)) := rfl
theorem op_eq {i j : Int} {P : Bool → Prop} (p : P (decide (i = j))) : OP (eqD (.int i) (.int j)) P := ⟨_, eqD_ii i j, p⟩
theorem op_ne {i j : Int} {P : Bool → Prop} (p : P (!decide (i = j))) : OP (neD (.int i) (.int j)) P := ⟨_, rfl, p⟩
theorem op_intI {i : Int} {P : D → Prop} (p : P (.int i)) : OP (intD [.int i]) P := ⟨_, rfl, p⟩
/-- what is in hand by each use -/
def frzP (r : Rv) (e' : Env) (P : D → Env → Prop) : Prop := match r with
    | .im d => P d e'
    | .new o => P o.flat e'
    | .bor i o => match lk e' i with
      | some (b, _) => P o.flat (e'.set i (some (b, .im o.flat)))
      | none => False
def vwP (r : Rv) (e' : Env) (P : D → Env → Prop) : Prop := match r with
    | .im d => P d e'
    | .new o => P o.flat e'
    | .bor _ o => P o.flat e'
def owP (r : Rv) (e' : Env) (P : O → Env → Prop) : Prop := match r with
    | .im d => P (.im d) e'
    | .new o => P (.im o.flat) e'
    | .bor _ o => P o e'
def setP (i : Nat) (r : Rv) (e' : Env) (N : Env → Prop) : Prop := match r with
  | .im d => Env.free e' i = true ∧ N (e'.set i (some (false, .im d)))
  | .new o => Env.free e' i = true ∧ N (e'.set i (some (false, o)))
  | .bor j o => Env.free e' i = true ∧ match lk e' j with
    | some (b, _) => Env.free (e'.set j (some (b, .im o.flat))) i = true ∧ N ((e'.set j (some (b, .im o.flat))).set i (some (false, .im o.flat)))
    | none => False
def argP (r : Rv) (P : AR → Prop) : Prop := P (darg r)
def rvP (r : Rv) (e : Env) (P : O → Env → Prop) : Prop := match r with
    | .im d => P (.im d) e
    | .new o => P o e
    | .bor i _ => match lk e i with
      | some (b, o) => P (.im o.flat) (e.set i (some (b, .im o.flat)))
      | none => False
def appP (i : Nat) (o : O) (e' : Env) (N : Env → Prop) : Prop := match lk e' i with
    | some (b, .lst os) => os.length < sizeLine ∧ N (e'.set i (some (b, .lst (os ++ [o]))))
    | _ => False
section
variable {P : D → Env → Prop} {PO : O → Env → Prop} {N : Env → Prop} {PA : AR → Prop} {d : D} {o : O} {i : Nat}
theorem frzP_im (p : P d e) : frzP (.im d) e P := p
theorem frzP_new (p : P o.flat e) : frzP (.new o) e P := p
theorem vwP_im (p : P d e) : vwP (.im d) e P := p
theorem vwP_new (p : P o.flat e) : vwP (.new o) e P := p
theorem vwP_bor (p : P o.flat e) : vwP (.bor i o) e P := p
theorem owP_im (p : PO (.im d) e) : owP (.im d) e PO := p
theorem owP_new (p : PO (.im o.flat) e) : owP (.new o) e PO := p
theorem owP_bor (p : PO o e) : owP (.bor i o) e PO := p
theorem setP_im (h : e.free i = true) (p : N (e.set i (some (false, .im d)))) : setP i (.im d) e N := ⟨h, p⟩
theorem setP_new (h : e.free i = true) (p : N (e.set i (some (false, o)))) : setP i (.new o) e N := ⟨h, p⟩
theorem argP_im (p : PA (.im d)) : argP (.im d) PA := p
theorem argP_new (p : PA (.im o.flat)) : argP (.new o) PA := p
theorem argP_bor (p : PA (.bor i)) : argP (.bor i o) PA := p
theorem rvP_im (p : PO (.im d) e) : rvP (.im d) e PO := p
theorem rvP_new (p : PO o e) : rvP (.new o) e PO := p
theorem appP_of {b : Bool} {os : List O} (h : lk e i = some (b, .lst os)) (hl : os.length < sizeLine) (p : N (e.set i (some (b, .lst (os ++ [o]))))) : appP i o e N := by
  unfold appP
  rw [h]
  exact ⟨hl, p⟩
end
section
variable {P : α → Env → Prop} {PR : Rv → Env → Prop} {PD : D → Env → Prop} {PO : O → Env → Prop} {PB : Bool → Env → Prop}
theorem w_pure {a : α} (p : P a e) : EW q (dpure a) e P := ew_pure.mpr p
theorem w_bind {d : Den β} {f : β → Den α} (p : EW q d e fun a e' => EW q (f a) e' P) : EW q (dbind d f) e P := ew_bind.mpr p
theorem w_lift {a : Option α} (p : OP a fun x => P x e) : EW q (dlift a) e P := ew_lift.mpr p
theorem w_dq {d : Den α} (p : EW true d e P) : EW q (dq d) e P := ew_dq.mpr p
theorem w_varI {i : Nat} {b : Bool} {d : D} (h : lk e i = some (b, .im d)) (p : PR (.im d) e) : EW q (dvar i) e PR := ew_var.mpr (by rw [h]; exact p)
theorem w_varL {i : Nat} {b : Bool} {os : List O} (h : lk e i = some (b, .lst os)) (p : PR (.bor i (.lst os)) e) : EW q (dvar i) e PR := ew_var.mpr (by rw [h]; exact p)
theorem w_varT {i : Nat} {b : Bool} {os : List O} (h : lk e i = some (b, .tup os)) (p : PR (.bor i (.tup os)) e) : EW q (dvar i) e PR := ew_var.mpr (by rw [h]; exact p)
theorem w_varX {i : Nat} {b : Bool} {C : Addr} {ns : List Str} {os : List O} (h : lk e i = some (b, .ins C ns os)) (p : PR (.bor i (.ins C ns os)) e) : EW q (dvar i) e PR := ew_var.mpr (by rw [h]; exact p)
theorem w_frzI {i : Nat} {b : Bool} {d : D} (h : lk e i = some (b, .im d)) (p : PD d e) : EW q (frz (dvar i)) e PD := ew_frz.mpr (w_varI h p)
theorem w_frzO {i : Nat} {b : Bool} {o : O} (h : lk e i = some (b, o)) (p : PD o.flat (e.set i (some (b, .im o.flat)))) : EW q (frz (dvar i)) e PD := by
  refine ew_frz.mpr (ew_var.mpr ?_)
  rw [h]
  cases o with
  | im d =>
    have : e.set i (some (b, .im d)) = e := by
      apply List.ext_getElem?
      intro j
      rw [List.getElem?_set]
      by_cases hj : i = j
      · subst hj
        rw [lk_some h]
        split
        · split
          · rfl
          · rename_i hz
            have := lk_some h
            rw [List.getElem?_eq_none (by omega)] at this
            cases this
        · rename_i hz; exact absurd rfl hz
      · rw [if_neg hj]
    simp only [O.flat] at p
    rw [this] at p
    exact p
  | _ =>
    dsimp only
    rw [h]
    exact p
theorem w_frz {d : Den Rv} (p : EW q d e fun r e' => frzP r e' PD) : EW q (frz d) e PD := ew_frz.mpr p
theorem w_vwI {i : Nat} {b : Bool} {d : D} (h : lk e i = some (b, .im d)) (p : PD d e) : EW q (vw (dvar i)) e PD := ew_vw.mpr (w_varI h p)
theorem w_vwO {i : Nat} {b : Bool} {o : O} (h : lk e i = some (b, o)) (p : PD o.flat e) : EW q (vw (dvar i)) e PD := by
  refine ew_vw.mpr (ew_var.mpr ?_)
  rw [h]
  cases o <;> exact p
theorem w_vw {d : Den Rv} (p : EW q d e fun r e' => vwP r e' PD) : EW q (vw d) e PD := ew_vw.mpr p
theorem w_owO {i : Nat} {b : Bool} {o : O} (h : lk e i = some (b, o)) (p : PO o e) : EW q (ow (dvar i)) e PO := by
  refine ew_ow.mpr (ew_var.mpr ?_)
  rw [h]
  cases o <;> exact p
theorem w_ow {d : Den Rv} (p : EW q d e fun r e' => owP r e' PO) : EW q (ow d) e PO := ew_ow.mpr p
theorem w_imR {d : Den D} (p : EW q d e fun x e' => PR (.im x) e') : EW q (imR d) e PR := ew_imR.mpr p
theorem w_imD {d : Den O} (p : EW q d e fun o e' => OP (imO o) fun x => PD x e') : EW q (imD d) e PD := ew_imD.mpr p
theorem w_fl {d : Den O} (p : EW q d e fun o e' => PD o.flat e') : EW q (fl d) e PD := ew_fl.mpr p
theorem w_bin {da db : Den D} {g : D → D → Option D} (p : EW q da e fun x e1 => EW q db e1 fun y e2 => OP (g x y) fun z => PD z e2) : EW q (dbin da db g) e PD := ew_bin.mpr p
theorem w_cmp {da db : Den D} {g : D → D → Option Bool} (p : EW q da e fun x e1 => EW true db e1 fun y e2 => OP (g x y) fun z => PD (.bl z) e2) : EW q (dcmp da db g) e PD := ew_cmp.mpr p
def blP (x : D) (P : Bool → Prop) : Prop := match x with
  | .bl b => P b
  | _ => False
theorem blP_of {b : Bool} {P : Bool → Prop} (p : P b) : blP (.bl b) P := p
theorem w_dtB {d : Den D} (p : EW q d e fun x e' => blP x fun b => PB b e') : EW q (dtB d) e PB := ew_dtB.mpr (ew_imp p fun x e' h => by cases x <;> first | exact h | exact False.elim h)
theorem w_dtru {d : Den D} (p : EW q d e fun x e' => OP (truD x) fun b => PB b e') : EW q (dtru d) e PB := ew_dtru.mpr p
theorem w_dand {d f : Den Bool} (p : EW q d e fun b e' => BR b (EW q f e' PB) (PB false e')) : EW q (dand d f) e PB := ew_dand.mpr p
theorem w_dor {d f : Den Bool} (p : EW q d e fun b e' => BR b (PB true e') (EW q f e' PB)) : EW q (dor d f) e PB := ew_dor.mpr p
theorem w_dnot {d : Den Bool} (p : EW q d e fun b e' => PB (!b) e') : EW q (dnot d) e PB := ew_dnot.mpr p
theorem w_dandV {d f : Den D} (p : EW q (dtB d) e fun b e' => BR b (EW q f e' PD) (PD (.bl false) e')) : EW q (dandV d f) e PD := ew_dandV.mpr p
theorem w_dorV {d f : Den D} (p : EW q (dtB d) e fun b e' => BR b (PD (.bl true) e') (EW q f e' PD)) : EW q (dorV d f) e PD := ew_dorV.mpr p
theorem w_dnotV {d : Den D} (p : EW q (dtB d) e fun b e' => PD (.bl (!b)) e') : EW q (dnotV d) e PD := ew_dnotV.mpr p
theorem w_dif {t : Den Bool} {x y : Den α} (p : EW q t e fun b e' => BR b (EW q x e' P) (EW q y e' P)) : EW q (dif t x y) e P := ew_dif.mpr p
theorem w_dcons {d : Den D} {ds : Den (List D)} {P : List D → Env → Prop} (p : EW q d e fun x e1 => EW q ds e1 fun xs e2 => P (x :: xs) e2) : EW q (dcons d ds) e P := ew_dcons.mpr p
theorem w_dconsV {d : Den D} {ds : Den (List D)} {P : List D → Env → Prop} (p : EW q d e fun x e1 => EW true ds e1 fun xs e2 => P (x :: xs) e2) : EW q (dconsV d ds) e P := ew_dconsV.mpr p
theorem w_darcons {d : Den Rv} {ds : Den (List AR)} {P : List AR → Env → Prop} (p : EW q d e fun x e1 => argP x fun a => EW q ds e1 fun xs e2 => P (a :: xs) e2) : EW q (darcons d ds) e P := ew_darcons.mpr p
theorem w_dtup {ds : Den (List D)} (p : EW q ds e fun xs e' => xs.length ≤ sizeLine ∧ PD (.tup xs) e') : EW q (dtup ds) e PD := ew_dtup.mpr p
theorem w_dlst {ds : Den (List D)} (p : EW q ds e fun xs e' => xs.length ≤ sizeLine ∧ PR (.new (.lst (xs.map O.im))) e') : EW q (dlst ds) e PR := ew_dlst.mpr p
theorem sz {n : Nat} {X : Prop} (h : n ≤ 1000) (p : X) : n ≤ sizeLine ∧ X := ⟨Nat.le_trans h (by decide), p⟩
theorem w_dixO {d : Den O} {di : Den D} (p : EW q d e fun o e1 => EW true di e1 fun i e2 => OP (elemOO o i) fun x => PO x e2) : EW q (dixO d di) e PO := ew_dixO.mpr p
theorem w_sq {d : Den D} {P : List D → Env → Prop} (p : EW q d e fun x e' => OP (seqD x) fun ds => P ds e') : EW q (sq d) e P := ew_sq.mpr p
theorem w_rg {g : List D → Option (List D)} {d : Den (List D)} {P : List D → Env → Prop} (p : EW q d e fun x e' => OP (g x) fun ds => P ds e') : EW q (rg g d) e P := ew_rg.mpr p
theorem w_rvO {r : Rv} (p : rvP r e PO) : EW q (rvO r) e PO := ew_rvO.mpr p
theorem w_dslice {d : Den O} {dl dh : Den (Option Int)} (p : EW q d e fun o e1 => EW true dl e1 fun lo e2 => EW true dh e2 fun hi e3 => OP (cutO o lo hi) fun r => PR r e3) : EW q (dslice d dl dh) e PR := by
  unfold dslice
  simp only [ew_bind, ew_lift, ew_dq]
  exact p
end
section
variable {N : Env → Prop} {R : Rv → Env → Prop} {B C : Env → Prop}
theorem w_next (p : N e) : SW snext e ⟨N, R, B, C⟩ := sw_next.mpr p
theorem w_seq {a b : SDen} (p : SW a e ⟨fun e' => SW b e' ⟨N, R, B, C⟩, R, B, C⟩) : SW (sseq a b) e ⟨N, R, B, C⟩ := sw_seq.mpr p
theorem w_if {t : Den Bool} {a b : SDen} (p : EW false t e fun k e' => BR k (SW a e' ⟨N, R, B, C⟩) (SW b e' ⟨N, R, B, C⟩)) : SW (sif t a b) e ⟨N, R, B, C⟩ := sw_if.mpr p
theorem w_rt {d : Den Rv} (p : EW false d e fun r e' => R r e') : SW (srt d) e ⟨N, R, B, C⟩ := sw_rt.mpr p
theorem w_drop {d : Den Rv} (p : EW false d e fun _ e' => N e') : SW (sdrop d) e ⟨N, R, B, C⟩ := sw_drop.mpr p
theorem w_set {i : Nat} {d : Den Rv} (p : EW false d e fun r e' => setP i r e' N) : SW (sset i d) e ⟨N, R, B, C⟩ := sw_set p
theorem w_app {i : Nat} {d : Den Rv} {b0 : Bool} {os0 : List O} (h : lk e i = some (b0, .lst os0)) (p : EW false d e fun r e1 => rvP r e1 fun o e' => appP i o e' N) : SW (sapp i d) e ⟨N, R, B, C⟩ :=
  sw_app h (ew_imp p fun r e' h => ew_rvO.mpr (by
    unfold rvP appP at h
    cases r with
    | bor j x =>
      dsimp only at h ⊢
      split <;> rename_i hq <;> rw [hq] at h
      · exact h
      · exact h
    | _ => exact h))
theorem w_forP {src : Den (List D)} {bind : D → Env → Option Env} {body : SDen} (p : EW false src e fun ds e' => SW (sloop bind body ds) e' ⟨N, R, B, C⟩) : SW (sforP src bind body) e ⟨N, R, B, C⟩ := sw_forP.mpr p
theorem w_cut {s : SDen} (M : Env → Prop) (h : SW s e ⟨M, R, B, C⟩) (k : ∀ e', M e' → N e') : SW s e ⟨N, R, B, C⟩ := by
  obtain ⟨r, hr, p⟩ := h
  refine ⟨r, hr, ?_⟩
  cases r <;> first | exact k _ p | exact p
theorem w_asg {b : D → Env → Option Env} {d : Den D} (p : EW false d e fun x e' => OP (b x e') N) : SW (sasg b d) e ⟨N, R, B, C⟩ := by
  unfold sasg
  rw [sw_bind]
  refine ew_imp p fun x e' h => ?_
  obtain ⟨z, hz, p⟩ := h
  exact ⟨.nx false z, by dsimp only; rw [hz]; rfl, p⟩
end
/-! ### calls -/
/-- f, given os, ends well -/
def FO (f : FDen) (os : List O) (Post : List O → FRv → Prop) : Prop := ∃ m os' r, f os = some (.ok m os' r) ∧ Post os' r
def rvF : FRv → Rv
  | .im d => .im d
  | .new o => .new o
theorem FO.imp {f : FDen} {os : List O} {P Q : List O → FRv → Prop} (h : FO f os P) (k : ∀ o r, P o r → Q o r) : FO f os Q := by
  obtain ⟨m, os', r, h1, h2⟩ := h
  exact ⟨m, os', r, h1, k _ _ h2⟩
/-- what a def's last state gives -/
def outP (os : List O) (Post : List O → FRv → Prop) (r : Rv) (e : Env) : Prop := match r with
  | .im d => OP (outs os e) fun os' => Post os' (.im d)
  | .new o => OP (outs os e) fun os' => Post os' (.new o)
  | .bor i o => match lk e i with
    | some (false, _) => OP (outs os (e.set i none)) fun os' => Post os' (.new o)
    | _ => False
theorem w_fun {n : Nat} {s : SDen} {os : List O} {Post : List O → FRv → Prop} (h : SW s (env0 os n) ⟨fun e => OP (outs os e) fun os' => Post os' (.im .non), fun r e => outP os Post r e, fun _ => False, fun _ => False⟩) : FO (fnden n s) os Post := by
  obtain ⟨r, hr, p⟩ := h
  unfold FO fnden
  rw [hr]
  cases r with
  | nx m e =>
    obtain ⟨z, hz, p⟩ := p
    dsimp only
    rw [hz]
    exact ⟨m, z, _, rfl, p⟩
  | rt m e r =>
    cases r with
    | im d =>
      obtain ⟨z, hz, p⟩ := p
      dsimp only
      rw [hz]
      exact ⟨m, z, _, rfl, p⟩
    | new o =>
      obtain ⟨z, hz, p⟩ := p
      dsimp only
      rw [hz]
      exact ⟨m, z, _, rfl, p⟩
    | bor i o =>
      unfold SP' outP at p
      dsimp only at p ⊢
      cases hl : lk e i with
      | none => rw [hl] at p; exact False.elim p
      | some x =>
        obtain ⟨b, y⟩ := x
        rw [hl] at p
        cases b with
        | true => exact False.elim p
        | false =>
          obtain ⟨z, hz, p⟩ := p
          rw [lk_some hl]
          dsimp only
          rw [hz]
          exact ⟨m, z, _, rfl, p⟩
  | _ => exact False.elim p
theorem w_fo {n : Nat} {f : FDen} {as : List AR} {os : List O} {ks : List (Option (Nat × Bool))} {e1 : Env} {Post : List O → FRv → Prop} {P : Rv → Env → Prop} (hf : FO f os Post) (hn : as.length = n) (hl : lend as e = some (os, ks, e1)) (hq : q = false ∨ allIm os = true)
    (k : ∀ os' r, Post os' r → OP (unlend ks os' e1) fun e2 => P (rvF r) e2) : EW q (dfnA n f as) e P := by
  obtain ⟨m, os', r, h1, h2⟩ := hf
  obtain ⟨e2, h3, h4⟩ := k os' r h2
  unfold EW dfnA
  rw [if_pos hn, hl]
  dsimp only
  rw [h1]
  have hm : q = true → (m && !allIm os) = false := fun z => by
    rcases hq with h | h
    · rw [h] at z; cases z
    · rw [h]; cases m <;> rfl
  cases r with
  | im d => dsimp only; rw [h3]; exact ⟨_, e2, _, rfl, hm, h4⟩
  | new o => dsimp only; rw [h3]; exact ⟨_, e2, _, rfl, hm, h4⟩
/-- f, given what is frozen alone, ends well -/
def FI (f : FDen) (ds : List D) (Post : FRv → Prop) : Prop := FO f (ds.map O.im) fun os' r => os' = ds.map O.im ∧ Post r
def outI (k : Nat) (Post : FRv → Prop) (r : Rv) (e : Env) : Prop := match r with
  | .im d => k ≤ e.length ∧ Post (.im d)
  | .new o => k ≤ e.length ∧ Post (.new o)
  | .bor i o => k ≤ e.length ∧ match lk e i with
    | some (false, _) => Post (.new o)
    | _ => False
theorem w_fi {n : Nat} {s : SDen} {ds : List D} {Post : FRv → Prop} (h : SW s (env0 (ds.map O.im) n) ⟨fun e => ds.length ≤ e.length ∧ Post (.im .non), fun r e => outI ds.length Post r e, fun _ => False, fun _ => False⟩) : FI (fnden n s) ds Post := by
  refine w_fun ?_
  obtain ⟨r, hr, p⟩ := h
  refine ⟨r, hr, ?_⟩
  cases r with
  | nx m e => exact ⟨_, outs_im ds e p.1, rfl, p.2⟩
  | rt m e r =>
    cases r with
    | im d => exact ⟨_, outs_im ds e p.1, rfl, p.2⟩
    | new d => exact ⟨_, outs_im ds e p.1, rfl, p.2⟩
    | bor i o =>
      obtain ⟨p1, p2⟩ := p
      unfold SP' outP
      dsimp only
      cases hl : lk e i with
      | none => rw [hl] at p2; exact False.elim p2
      | some x =>
        obtain ⟨b, y⟩ := x
        rw [hl] at p2
        cases b with
        | true => exact False.elim p2
        | false => exact ⟨_, outs_im ds (e.set i none) (by rw [List.length_set]; exact p1), rfl, p2⟩
  | _ => exact False.elim p
/-- called with frozen things alone -/
theorem w_call {n : Nat} {f : FDen} {ds : List D} {Post : FRv → Prop} {P : Rv → Env → Prop} (hf : FI f ds Post) (hn : ds.length = n) (k : ∀ r, Post r → P (rvF r) e) : EW q (dfnA n f (ds.map AR.im)) e P :=
  w_fo hf (by rw [List.length_map]; exact hn) (lend_im ds e) (.inr (allIm_map ds)) fun os' r h => by
    obtain ⟨rfl, h⟩ := h
    exact ⟨e, unlend_im ds e, k r h⟩
theorem w_callI {n : Nat} {f : FDen} {ds : List D} {d : D} {P : Rv → Env → Prop} (hf : FI f ds (· = .im d)) (hn : ds.length = n) (k : P (.im d) e) : EW q (dfnA n f (ds.map AR.im)) e P := w_call hf hn fun r h => by rw [h]; exact k
theorem w_callN {n : Nat} {f : FDen} {ds : List D} {o : O} {P : Rv → Env → Prop} (hf : FI f ds (· = .new o)) (hn : ds.length = n) (k : P (.new o) e) : EW q (dfnA n f (ds.map AR.im)) e P := w_call hf hn fun r h => by rw [h]; exact k
/-! ### comprehensions -/
/-- one turn: from e0 and back to it; r is what it gives -/
def CT (q : Bool) (bind : D → Env → Option Env) (tt : Den Bool) (elt : Den Rv) (vs : List Nat) (e0 : Env) (d : D) (r : Option O) : Prop :=
  OP (bind d e0) fun e1 => EW q tt e1 fun b e2 => BR b (EW q elt e2 fun rv e3 => rvP rv e3 fun o e4 => r = some o ∧ wipeE e4 vs = e0) (r = none ∧ wipeE e2 vs = e0)
theorem cloop_ok {bind : D → Env → Option Env} {tt : Den Bool} {elt : Den Rv} {vs : List Nat} {e0 : Env} {f : D → Option O} : ∀ {ds : List D} {acc : List O}, acc.length + ds.length ≤ sizeLine → (∀ d ∈ ds, CT q bind tt elt vs e0 d (f d)) → ∃ m, cloop bind tt elt vs ds acc e0 = some (.ok m e0 (acc ++ ds.filterMap f)) ∧ (q = true → m = false)
  | [], acc, hl, h => ⟨false, by rw [List.filterMap_nil, List.append_nil]; rfl, fun _ => rfl⟩
  | d :: ds, acc, hl, h => by
    rw [List.length_cons] at hl
    obtain ⟨e1, h1, m1, e2, b, h2, hm1, h3⟩ := h d List.mem_cons_self
    unfold cloop
    rw [h1]
    dsimp only
    rw [h2]
    cases b with
    | false =>
      obtain ⟨hf, he⟩ := h3.2 rfl
      obtain ⟨m, hc, hm⟩ := cloop_ok (acc := acc) (ds := ds) (by omega) fun x hx => h x (List.mem_cons_of_mem _ hx)
      dsimp only
      rw [he, hc, List.filterMap_cons_none hf]
      exact ⟨m1 || m, rfl, fun z => by rw [hm1 z, hm z]; rfl⟩
    | true =>
      obtain ⟨m2, e3, rv, h4, hm2, h5⟩ := h3.1 rfl
      obtain ⟨m3, e4, o, h6, _, hf, he⟩ := w_rvO (q := false) h5
      obtain ⟨m, hc, hm⟩ := cloop_ok (acc := acc ++ [o]) (ds := ds) (by rw [List.length_append]; show acc.length + 1 + ds.length ≤ sizeLine; omega) fun x hx => h x (List.mem_cons_of_mem _ hx)
      dsimp only
      rw [h4]
      dsimp only
      rw [h6]
      dsimp only
      rw [if_pos (by omega), he, hc, List.filterMap_cons_some hf, List.append_assoc]
      exact ⟨m1 || m2 || m, rfl, fun z => by rw [hm1 z, hm2 z, hm z]; rfl⟩
theorem w_comp {src : Den (List D)} {bind : D → Env → Option Env} {tt : Den Bool} {elt : Den Rv} {vs : List Nat} {P : Rv → Env → Prop} (f : D → Option O)
    (p : EW q src e fun ds e' => (wiped e' vs = true ∧ restE e' (wipeE e' vs) vs = e') ∧ ds.length ≤ sizeLine ∧ (∀ d ∈ ds, CT q bind tt elt vs (wipeE e' vs) d (f d)) ∧ P (.new (.lst (ds.filterMap f))) e') : EW q (dcomp src bind tt elt vs) e P := by
  unfold dcomp
  rw [ew_bind]
  refine ew_imp p fun ds e' h => ?_
  obtain ⟨⟨h1, h2⟩, h3, h4, h5⟩ := h
  obtain ⟨m, hc, hm⟩ := cloop_ok (q := q) (acc := []) (ds := ds) (by simpa using h3) h4
  refine ⟨m, e', _, ?_, hm, h5⟩
  dsimp only
  rw [if_pos h1, hc]
  dsimp only
  rw [h2]
  rfl
section
variable {PR : Rv → Env → Prop} {PD : D → Env → Prop} {PL : List O → Env → Prop} {N : Env → Prop} {R : Rv → Env → Prop} {B C : Env → Prop}
def mvP (rv : Rv) (e : Env) (P : O → Env → Prop) : Prop := match rv with
  | .im d => P (.im d) e
  | .new o => P o e
  | .bor i _ => match lk e i with
    | some (false, o) => P o (e.set i none)
    | some (true, o) => P (.im o.flat) (e.set i (some (true, .im o.flat)))
    | none => False
theorem mvP_im {P : O → Env → Prop} {d : D} (p : P (.im d) e) : mvP (.im d) e P := p
theorem mvP_new {P : O → Env → Prop} {o : O} (p : P o e) : mvP (.new o) e P := p
theorem mvP_bor {P : O → Env → Prop} {i : Nat} {o x : O} (h : lk e i = some (false, o)) (p : P o (e.set i none)) : mvP (.bor i x) e P := by
  unfold mvP
  dsimp only
  rw [h]
  exact p
theorem w_rvM {rv : Rv} {P : O → Env → Prop} (p : mvP rv e P) : EW q (rvM rv) e P := by
  unfold mvP at p
  unfold EW rvM
  cases rv with
  | im d => exact ⟨_, _, _, rfl, fun _ => rfl, p⟩
  | new d => exact ⟨_, _, _, rfl, fun _ => rfl, p⟩
  | bor i x =>
    dsimp only at p ⊢
    cases h : lk e i with
    | none => rw [h] at p; exact False.elim p
    | some y =>
      obtain ⟨b, y⟩ := y
      rw [h] at p
      rw [lk_some h]
      cases b <;> exact ⟨_, _, _, rfl, fun _ => rfl, p⟩
theorem w_dtmc {d : Den Rv} {ds : Den (List O)} (p : EW q d e fun rv e1 => mvP rv e1 fun o e2 => EW q ds e2 fun os e3 => PL (o :: os) e3) : EW q (dtmc d ds) e PL := by
  unfold dtmc
  rw [ew_bind]
  refine ew_imp p fun rv e1 h => ?_
  rw [ew_bind]
  refine w_rvM ?_
  have : ∀ o e2, (EW q ds e2 fun os e3 => PL (o :: os) e3) → EW q (dbind ds fun os => dpure (o :: os)) e2 PL := fun o e2 h => by
    rw [ew_bind]
    exact ew_imp h fun os e3 h => ew_pure.mpr h
  unfold mvP at h ⊢
  cases rv with
  | im d => exact this _ _ h
  | new d => exact this _ _ h
  | bor i x =>
    dsimp only at h ⊢
    cases h2 : lk e1 i with
    | none => rw [h2] at h; exact False.elim h
    | some y =>
      obtain ⟨b, y⟩ := y
      rw [h2] at h
      cases b <;> exact this _ _ h
theorem w_dtupN {ds : Den (List O)} (p : EW q ds e fun os e' => os.length ≤ sizeLine ∧ PR (.new (.tup os)) e') : EW q (dtupN ds) e PR := by
  unfold dtupN
  rw [ew_bind]
  refine ew_imp p fun os e' h => ew_lift.mpr ⟨_, if_pos h.1, h.2⟩
/-- the items at hand -/
def itP (r : Rv) (e : Env) (P : List D → Env → Prop) : Prop := match r with
  | .im d => OP (seqD d) fun ds => P ds e
  | .new o => OP (seqD o.flat) fun ds => P ds e
  | .bor i _ => match lk e i with
    | some (_, o) => OP (seqO o) fun ds => P ds e
    | none => False
theorem itP_im {P : List D → Env → Prop} {d : D} (p : OP (seqD d) fun ds => P ds e) : itP (.im d) e P := p
theorem itP_new {P : List D → Env → Prop} {o : O} (p : OP (seqD o.flat) fun ds => P ds e) : itP (.new o) e P := p
theorem itP_bor {P : List D → Env → Prop} {i : Nat} {o x : O} {b : Bool} (h : lk e i = some (b, o)) (p : OP (seqO o) fun ds => P ds e) : itP (.bor i x) e P := by
  unfold itP
  dsimp only
  rw [h]
  exact p
theorem w_dlist {d : Den Rv} (p : EW q d e fun r e' => itP r e' fun ds e2 => PR (.new (.lst (ds.map O.im))) e2) : EW q (dlist d) e PR := by
  unfold dlist ar1
  simp only [ew_bind, ew_pure]
  refine ew_imp p fun r e' h => ?_
  unfold itP at h
  unfold EW seqA darg
  cases r with
  | im d => obtain ⟨z, hz, p⟩ := h; dsimp only; rw [hz]; exact ⟨_, _, _, rfl, fun _ => rfl, p⟩
  | new d => obtain ⟨z, hz, p⟩ := h; dsimp only; rw [hz]; exact ⟨_, _, _, rfl, fun _ => rfl, p⟩
  | bor i x =>
    dsimp only at h ⊢
    unfold slotO
    cases h2 : lk e' i with
    | none => rw [h2] at h; exact False.elim h
    | some y =>
      obtain ⟨b, y⟩ := y
      rw [h2] at h
      obtain ⟨z, hz, p⟩ := h
      rw [lk_some h2]
      show ∃ m e'_1 a, ((some y).bind seqO).map _ = _ ∧ _
      rw [Option.bind_some, hz]
      exact ⟨_, _, _, rfl, fun _ => rfl, p⟩
/-- tuple(x), of a list's items -/
def tuP (r : Rv) (e : Env) (P : D → Env → Prop) : Prop := match r with
  | .im (.lst ds) => P (.tup ds) e
  | .im (.scr ds) => P (.tup ds) e
  | .im (.tup ds) => P (.tup ds) e
  | .new (.lst os) => P (.tup (O.flats os)) e
  | .bor i _ => match lk e i with
    | some (_, .lst os) => OP (ims os) fun ds => P (.tup ds) e
    | _ => False
  | _ => False
theorem tuP_lst {P : D → Env → Prop} {ds : List D} (p : P (.tup ds) e) : tuP (.im (.lst ds)) e P := p
theorem w_dtuple {d : Den Rv} (p : EW q d e fun r e' => tuP r e' PD) : EW q (dtuple d) e PD := by
  unfold dtuple ar1
  simp only [ew_bind, ew_pure]
  refine ew_imp p fun r e' h => ?_
  unfold tuP at h
  unfold EW darg
  cases r with
  | im d => cases d <;> first | exact ⟨_, _, _, rfl, fun _ => rfl, h⟩ | exact False.elim h
  | new o => cases o <;> first | exact ⟨_, _, _, rfl, fun _ => rfl, h⟩ | exact False.elim h
  | bor i x =>
    dsimp only at h ⊢
    unfold slotO
    cases h2 : lk e' i with
    | none => rw [h2] at h; exact False.elim h
    | some y =>
      obtain ⟨b, y⟩ := y
      rw [h2] at h
      rw [lk_some h2]
      cases y with
      | lst os =>
        obtain ⟨z, hz, p⟩ := h
        dsimp only
        rw [hz]
        exact ⟨_, _, _, rfl, fun _ => rfl, p⟩
      | _ => exact False.elim h
theorem w_sforI {it : Den Rv} {bind : D → Env → Option Env} {body : SDen} (p : EW false it e fun r e' => match r with
    | .im d => OP (seqD d) fun ds => SW (sloop bind body ds) e' ⟨N, R, B, C⟩
    | .new o => OP (seqD o.flat) fun ds => SW (sloop bind body ds) e' ⟨N, R, B, C⟩
    | .bor i _ => match lk e' i with
      | some (b, o) => OP (seqO o) fun ds => SW (slend i (sloop bind body ds)) e' ⟨N, R, B, C⟩
      | none => False) : SW (sfor it bind body) e ⟨N, R, B, C⟩ := by
  unfold sfor
  rw [sw_bind]
  refine ew_imp p fun r e' h => ?_
  unfold SW
  cases r with
  | im d => obtain ⟨z, hz, p⟩ := h; dsimp only; rw [hz]; exact p
  | new d => obtain ⟨z, hz, p⟩ := h; dsimp only; rw [hz]; exact p
  | bor i x =>
    dsimp only at h ⊢
    cases h2 : lk e' i with
    | none => rw [h2] at h; exact False.elim h
    | some y =>
      obtain ⟨b, y⟩ := y
      rw [h2] at h
      obtain ⟨z, hz, p⟩ := h
      rw [lk_some h2]
      dsimp only
      rw [hz]
      exact p
theorem pins_lk {e : Env} {i : Nat} : True := trivial
/-- a list lent to its own loop -/
theorem w_slend {i : Nat} {s : SDen} {b : Bool} {o : O} (h : lk e i = some (b, o))
    (p : SW s (e.set i (some (true, .im .any))) ⟨fun e' => pins e' = pins (e.set i (some (true, .im .any))) ∧ (∃ z, lk e' i = some (true, z)) ∧ N (e'.set i (some (b, o))),
      fun r e' => pins e' = pins (e.set i (some (true, .im .any))) ∧ (∃ z, lk e' i = some (true, z)) ∧ match r with
        | .bor j x => j ≠ i ∧ R r (e'.set i (some (b, o)))
        | _ => R r (e'.set i (some (b, o))), fun _ => False, fun _ => False⟩) : SW (slend i s) e ⟨N, R, B, C⟩ := by
  obtain ⟨r, hr, p⟩ := p
  unfold SW slend
  rw [lk_some h]
  dsimp only
  rw [hr]
  cases r with
  | nx m e' =>
    obtain ⟨p1, ⟨z, p2⟩, p3⟩ := p
    dsimp only
    rw [if_pos p1, lk_some p2]
    exact ⟨_, rfl, p3⟩
  | rt m e' r =>
    cases r with
    | im d =>
      obtain ⟨p1, ⟨z, p2⟩, p3⟩ := p
      dsimp only
      rw [if_pos p1, lk_some p2]
      exact ⟨_, rfl, p3⟩
    | new d =>
      obtain ⟨p1, ⟨z, p2⟩, p3⟩ := p
      dsimp only
      rw [if_pos p1, lk_some p2]
      exact ⟨_, rfl, p3⟩
    | bor j x =>
      obtain ⟨p1, ⟨z, p2⟩, p3, p4⟩ := p
      dsimp only
      rw [if_neg p3, if_pos p1, lk_some p2]
      exact ⟨_, rfl, p4⟩
  | _ => exact False.elim p
theorem w_appI {i : Nat} {k : Int} {de : Den D} {b0 : Bool} {os0 ls0 : List O} (h0 : lk e i = some (b0, .tup os0)) (h1 : atI os0 k = some (.lst ls0)) (p : EW true de e fun d e' => match lk e' i with
    | some (b, .tup os) => ∃ n ls, ixN os.length k = some n ∧ os[n]? = some (.lst ls) ∧ ls.length < sizeLine ∧ N (e'.set i (some (b, .tup (os.set n (.lst (ls ++ [.im d]))))))
    | _ => False) : SW (sappI i k de) e ⟨N, R, B, C⟩ := by
  unfold SW sappI slotO
  rw [lk_some h0]
  dsimp only
  rw [h1]
  dsimp only
  show SW _ e _
  rw [sw_bind, ew_dq]
  obtain ⟨m, e', d, h3, h4, h5⟩ := p
  refine ⟨m, e', d, h3, (fun _ => h4 rfl), ?_⟩
  unfold SW
  cases h2 : lk e' i with
  | none => rw [h2] at h5; exact False.elim h5
  | some y =>
    obtain ⟨b, y⟩ := y
    rw [h2] at h5
    cases y with
    | tup os =>
      obtain ⟨n, ls, k1, k2, k3, k4⟩ := h5
      dsimp only
      rw [lk_some h2]
      dsimp only
      rw [k1]
      dsimp only
      rw [k2]
      exact ⟨_, if_pos k3, k4⟩
    | _ => exact False.elim h5
end
end
end DL

/-! DLQ: loops over what is only seen: their turns change nothing. -/
namespace DL
open PySem PySem.Spec PyProof.Rows L2 Evl
/-- the items of what is seen -/
def itemsO : O → Option (List D)
  | .im d => seqD d
  | o => seqO o
/-- a turn that goes on has changed nothing -/
def sqt (s : SDen) : SDen := fun e => match s e with
  | some (.nx false e') => some (.nx false e')
  | some (.ct false e') => some (.ct false e')
  | some (.nx true _) => none
  | some (.ct true _) => none
  | r => r
def sforV (d : Den O) (bind : D → Env → Option Env) (body : SDen) : SDen := sbind d fun o => match itemsO o with
  | some ds => sloop bind (sqt body) ds
  | none => fun _ => none
section
variable {K : PySem.W.Frag} {W : WX} {c : Ctx} {F H : Hp} {σ : L2.St} {e : Env} {ts : List (V × O)}
theorem AtS.turnQ {b rest : SDen} {D : Ends} {N : L2.St → Hp → Prop} (h : ∃ r, sturn (sqt b e) rest = some r ∧ PostS K W D c F ts H r)
    (k : ∀ F1 H1 σ1 e1, Ex F F1 → Ex H H1 → RE K c F1 H1 σ1 e1 ts → AtS K W rest D c F1 σ1 e1 ts H1 → N σ1 H1) : AtS K W b { D with nx := N, ct := N, bk := D.nx } c F σ e ts H := by
  obtain ⟨r, hr, post⟩ := h
  unfold sqt at hr
  cases hd : b e with
  | none => rw [hd] at hr; cases hr
  | some r1 =>
    rw [hd] at hr
    refine ⟨r1, hd, ?_⟩
    cases r1 with
    | nx m e1 =>
      cases m with
      | true => cases hr
      | false => exact fun F1 H1 σ1 ef eh R => k F1 H1 σ1 e1 ef (eh rfl) R (AtS.more hr ef eh post)
    | ct m e1 =>
      cases m with
      | true => cases hr
      | false => exact fun F1 H1 σ1 ef eh R => k F1 H1 σ1 e1 ef (eh rfl) R (AtS.more hr ef eh post)
    | bk m e1 => cases hr; exact post
    | rt m e1 v => cases hr; exact post
    | er m e1 x => cases hr; exact post
theorem loopQ_ok {X : Cx} {J : It} {P : List V → Hp → Prop} (S : Src J P) {bind : D → Env → Option Env} {sl : List Nat} {body : SDen} {ds : List D} {D0 : Ends} (hP : ∀ F' H' σ' e', Ex F F' → Ex H H' → RE X.K c F' H' σ' e' ts → ∃ xs, P xs H' ∧ Reps X.K F' ds xs) (R : RE X.K c F H σ e ts)
    (h : AtS X.K W (sloop bind (sqt body) ds) D0 c F σ e ts H) :
    ∃ Wv : Nat → Nat → L2.St → Hp → Prop, (∃ m, Wv 0 m σ H) ∧ ∀ i m σ H, Wv i m σ H → (J.stop i H ∧ D0.nx σ H) ∨ (J.go i H ∧ ∃ N : L2.St → Hp → Prop, (∀ σ' H', N σ' H' → ∃ m', m' < m ∧ Wv (i + 1) m' σ' H') ∧
      ∀ x H', J.yld i H x H' → tgR X.K bind sl x σ H' fun σ2 H2 => rdS X.K W body { D0 with nx := N, ct := N, bk := D0.nx } σ2 H2) := by
  refine ⟨fun i m σ H1 => ∃ F1 e1, Ex F F1 ∧ Ex H H1 ∧ RE X.K c F1 H1 σ e1 ts ∧ AtS X.K W (sloop bind (sqt body) (ds.drop i)) D0 c F1 σ e1 ts H1 ∧ m + i = ds.length, ⟨ds.length, F, e, Ex.refl _, Ex.refl _, R, h, by omega⟩, ?_⟩
  rintro i m σ1 H1 ⟨F1, e1, ef, eh, R1, h1, hm⟩
  obtain ⟨xs, p1, hr⟩ := hP F1 H1 σ1 e1 ef eh R1
  have hlen := hr.length
  by_cases hi : i < xs.length
  · refine .inr ⟨S.go i xs H1 p1 hi, fun σ' H' => ∃ F2 e2, Ex F F2 ∧ Ex H H' ∧ RE X.K c F2 H' σ' e2 ts ∧ AtS X.K W (sloop bind (sqt body) (ds.drop (i + 1))) D0 c F2 σ' e2 ts H', ?_, ?_⟩
    · rintro σ' H' ⟨F2, e2, ef2, eh2, R2, h2⟩
      exact ⟨m - 1, by omega, F2, e2, ef2, eh2, R2, h2, by omega⟩
    · intro x H' hy
      obtain ⟨rfl, hx⟩ := S.yld i xs H1 x H' p1 hi hy
      obtain ⟨d, hd, hrep⟩ := hr.getV i hx
      have hdrop : ds.drop i = d :: ds.drop (i + 1) := by
        have hl : i < ds.length := by omega
        rw [List.drop_eq_getElem_cons hl]
        have := (List.getElem?_eq_some_iff.mp hd).2
        rw [this]
      rw [hdrop] at h1
      obtain ⟨r, hr2, post⟩ := h1
      unfold sloop at hr2
      cases hb : bind d e1 with
      | none => rw [hb] at hr2; cases hr2
      | some e2 =>
        rw [hb] at hr2
        refine ⟨c, F1, e1, ts, d, e2, R1, hrep, hb, fun σ' R' _ => ⟨c, F1, e2, ts, R', ?_⟩⟩
        exact AtS.turnQ ⟨r, hr2, post⟩ fun F3 H3 σ3 e3 ef3 eh3 R3 h3 => ⟨F3, e3, ef.trans ef3, eh.trans eh3, R3, h3⟩
  · refine .inl ⟨S.stop i xs H1 p1 (by omega), ?_⟩
    have hdrop : ds.drop i = [] := List.drop_eq_nil_of_le (by omega)
    rw [hdrop] at h1
    exact AtS.next h1 R1
end
section
variable {X : Cx} {W : WX} {tg iter : Expr} {body : List Stmt} {pos : Pos} {bind : D → Env → Option Env} {sl : List Nat} {db : SDen}
theorem items_src {K : PySem.W.Frag} {F H : Hp} {o : O} {ds : List D} {v : V} {fs : List Addr} (fh : Ex F H) (h : Own K F H o v fs) (hs : itemsO o = some ds) : ∃ a xs, v = .ref a ∧ Reps K F ds xs ∧ ((SqL K H a xs) ∨ (SqT K H a xs)) := by
  cases o with
  | im d =>
    obtain ⟨a, xs, e1, h1, h2⟩ := seq_src h.2 hs
    refine ⟨a, xs, e1, h1, ?_⟩
    rcases h2 with h2 | h2
    · exact .inl (ex_l fh h2)
    · exact .inr (ex_t fh h2)
  | lst os =>
    have eo := ims_eq hs
    subst eo
    obtain ⟨a, xs, rr, rfl, _, ha, hos⟩ := h
    exact ⟨a, xs, rfl, (of_owns_im hos).1, .inl (SqL.of ha)⟩
  | tup os =>
    have eo := ims_eq hs
    subst eo
    obtain ⟨a, xs, rr, rfl, _, ha, hos⟩ := h
    exact ⟨a, xs, rfl, (of_owns_im hos).1, .inr (SqT.of ha)⟩
  | _ => cases hs
theorem ds_forV {d : Den O} (hp : PassesOwn (model X.prog X.w) X.A X.env X.xe) (hc : X.calm = true) (hi : DO X W iter d) (hg : DG X tg bind sl) (hb : DSs X W body db) (hs : ∀ x, foldedSetIterable iter X.env x = pure x := by intro _; rfl) :
    DS X W (.For tg iter body [] pos) (sforV d bind db) := ⟨ps_weak (ps_for hp hc (pi_seq hi.run) hg.run hb.run hs) fun D0 σ H q => by
  obtain ⟨c, F, e, ts, R, q⟩ := q
  refine ⟨c, F, e, ts, R, q.sbind (rel := relW) fun F1 H1 e1 o v ef hr q1 => ?_⟩
  obtain ⟨r, hr2, post⟩ := q1
  cases hsq : itemsO o with
  | none => rw [hsq] at hr2; cases hr2
  | some ds =>
    rw [hsq] at hr2
    obtain ⟨R1, fs, ho⟩ := hr
    obtain ⟨a, xs, rfl, hrs, hsrc⟩ := items_src R1.fh ho hsq
    refine ⟨a, rfl, ?_⟩
    rcases hsrc with hsrc | hsrc
    · exact .inl ⟨⟨xs, hsrc⟩, loopQ_ok src_list (fun F' H' σ' e' ef' eh' R' => ⟨xs, ex_l eh' hsrc, Reps.mono ef' _ _ hrs⟩) R1 ⟨r, hr2, post⟩⟩
    · exact .inr ⟨⟨xs, hsrc⟩, loopQ_ok src_tup (fun F' H' σ' e' ef' eh' R' => ⟨xs, ex_t eh' hsrc, Reps.mono ef' _ _ hrs⟩) R1 ⟨r, hr2, post⟩⟩⟩
end
/-! ### list(x), tuple(x) of what is seen -/
def tupV : O → Option D
  | .im (.lst ds) => some (.tup ds)
  | .im (.scr ds) => some (.tup ds)
  | .im (.tup ds) => some (.tup ds)
  | .im (.wtp ds) => some (.wtp ds)
  | .lst os => (ims os).map D.tup
  | _ => none
def dtupV (d : Den O) : Den D := dbind d fun o => dlift (tupV o)
def dlistV (d : Den O) : Den Rv := dbind d fun o => dlift ((itemsO o).map fun ds => Rv.new (.lst (ds.map O.im)))
section
variable {X : Cx} {W : WX} {a : Expr} {pos p : Pos} {x : Str} {d : Den O}
theorem de_listV (hg : Gl X x) (hm : X.mg x = none) (hv : bootBuiltins x = some (.type "list")) (ha : DO X W a d) (hn : x ≠ "__name__" := by decide) (hdb : (x == ("__debug__" : Str)) = false := by decide)
    (he : starEach (a :: []) X.env = (false, eval a X.env) :: starEach [] X.env := by rfl) (hpl : (backTo pos (starEach [] X.env)).any (·.1) = false := by rfl) : DE X W (.Call (.Name x p) [a] [] pos) (dlistV d) :=
  ⟨pe_weak (pe_callTy call_list_of hg hm hv (pa_cons ha.run pa_nil he) hn hdb he hpl) fun σ H Q q => by
    obtain ⟨c, F, e, ts, R, q⟩ := q
    refine ⟨c, F, e, ts, R, q.bind (rel := relW) fun F1 H1 e1 o v ef hr q1 => ?_⟩
    obtain ⟨z, hz, k⟩ := q1.lift
    obtain ⟨ds, hd, rfl⟩ := Option.map_eq_some_iff.mp hz
    obtain ⟨R1, fs, ho⟩ := hr
    obtain ⟨p', xs, rfl, hrs, hsq⟩ := items_src R1.fh ho hd
    exact ⟨p', xs, rfl, hsq, fun l hl => k F1 _ (.ref l) (Ex.refl _) (Ex.new hl) (R1.newO hl ⟨l, xs, [], rfl, rfl, upd_same, owns_im hrs⟩)⟩⟩
theorem di_tupV (hg : Gl X x) (hm : X.mg x = none) (hv : bootBuiltins x = some (.type "tuple")) (ha : DO X W a d) (hn : x ≠ "__name__" := by decide) (hdb : (x == ("__debug__" : Str)) = false := by decide)
    (he : starEach (a :: []) X.env = (false, eval a X.env) :: starEach [] X.env := by rfl) (hpl : (backTo pos (starEach [] X.env)).any (·.1) = false := by rfl) : DI X W (.Call (.Name x p) [a] [] pos) (dtupV d) :=
  ⟨pe_weak (pe_callTy call_tuple_of hg hm hv (pa_cons ha.run pa_nil he) hn hdb he hpl) fun σ H Q q => by
    obtain ⟨c, F, e, ts, R, q⟩ := q
    refine ⟨c, F, e, ts, R, q.bind (rel := relW) fun F1 H1 e1 o v ef hr q1 => ?_⟩
    obtain ⟨z, hz, k⟩ := q1.lift
    obtain ⟨R1, fs, ho⟩ := hr
    have mk : ∀ {ds : List D} {p' : Addr} {xs : List V}, z = .tup ds → Reps X.K F1 ds xs → SqL X.K H1 p' xs → v = .ref p' →
        ∃ p ys, [v] = [V.ref p] ∧ ((SqL X.K H1 p ys ∧ ∀ l, H1 l = none → Q (.ref l) (upd H1 l (.tup ys))) ∨ (SqT X.K H1 p ys ∧ Q (.ref p) H1)) := by
      intro ds p' xs ez hrs hsq ev
      subst ev ez
      refine ⟨p', xs, rfl, .inl ⟨hsq, fun l hl => k (upd F1 l (.tup xs)) (upd H1 l (.tup xs)) (.ref l) (Ex.new (none_of_ex R1.fh hl)) (Ex.new hl) ⟨R1.newF hl, l, xs, rfl, upd_same, Reps.mono (Ex.new (none_of_ex R1.fh hl)) _ _ hrs⟩⟩⟩
    unfold tupV at hz
    split at hz
    · cases hz
      obtain ⟨p', xs, ev, h1, h2⟩ := ho.2
      exact mk rfl h2 (SqL.of (R1.fh _ _ h1)) ev
    · cases hz
      obtain ⟨p', xs, ev, h1, h2⟩ := ho.2
      exact mk rfl h2 (ex_l R1.fh h1) ev
    · cases hz
      obtain ⟨p', xs, rfl, h1, h2⟩ := id ho.2
      exact ⟨p', xs, rfl, .inr ⟨SqT.of (R1.fh _ _ h1), k F1 H1 _ (Ex.refl _) (Ex.refl _) ⟨R1, ho.2⟩⟩⟩
    · cases hz
      obtain ⟨p', xs, rfl, h1, h2⟩ := id ho.2
      exact ⟨p', xs, rfl, .inr ⟨ex_t R1.fh h1, k F1 H1 _ (Ex.refl _) (Ex.refl _) ⟨R1, ho.2⟩⟩⟩
    · obtain ⟨ds, hd, rfl⟩ := Option.map_eq_some_iff.mp hz
      have eo := ims_eq hd
      subst eo
      obtain ⟨a', xs, rr, ev, _, hA, hos⟩ := ho
      exact mk rfl (of_owns_im hos).1 (SqL.of hA) ev
    · cases hz⟩
end
/-! ### reckoned -/
section
variable {q : Bool} {e : Env}
theorem w_tupV {d : Den O} {P : D → Env → Prop} (p : EW q d e fun o e' => OP (tupV o) fun x => P x e') : EW q (dtupV d) e P := by unfold dtupV; rw [ew_bind]; exact ew_imp p fun o e' h => ew_lift.mpr h
theorem w_listV {d : Den O} {P : Rv → Env → Prop} (p : EW q d e fun o e' => OP (itemsO o) fun ds => P (.new (.lst (ds.map O.im))) e') : EW q (dlistV d) e P := by
  unfold dlistV
  rw [ew_bind]
  refine ew_imp p fun o e' h => ew_lift.mpr ?_
  obtain ⟨z, hz, p⟩ := h
  exact ⟨_, by rw [hz]; rfl, p⟩
end
section
variable {q : Bool} {e : Env} {N : Env → Prop} {R : Rv → Env → Prop} {B C : Env → Prop}
/-- a quiet statement: it returns, or goes on unchanged -/
def SQ (s : SDen) (e : Env) (N : Env → Prop) (R : Rv → Env → Prop) : Prop := SW (sqt s) e ⟨N, R, fun _ => False, N⟩
theorem w_forV {d : Den O} {bind : D → Env → Option Env} {body : SDen} (p : EW false d e fun o e' => OP (itemsO o) fun ds => SW (sloop bind (sqt body) ds) e' ⟨N, R, B, C⟩) : SW (sforV d bind body) e ⟨N, R, B, C⟩ := by
  unfold sforV
  rw [sw_bind]
  refine ew_imp p fun o e' h => ?_
  obtain ⟨z, hz, p⟩ := h
  rw [hz]
  exact p
theorem sqt_if {t : Den Bool} {a b : SDen} (p : EW true t e fun k e' => BR k (SW (sqt a) e' ⟨N, R, B, C⟩) (SW (sqt b) e' ⟨N, R, B, C⟩)) : SW (sqt (sif t a b)) e ⟨N, R, B, C⟩ := by
  obtain ⟨m, e', k, h1, h2, h3⟩ := p
  have hm := h2 rfl
  subst hm
  have key : ∀ s : SDen, SW (sqt s) e' ⟨N, R, B, C⟩ → sif t a b e = SRes.more false (s e') → SW (sqt (sif t a b)) e ⟨N, R, B, C⟩ := fun s hs he => by
    obtain ⟨r, hr, p⟩ := hs
    refine ⟨r, ?_, p⟩
    unfold sqt at hr ⊢
    rw [he]
    cases hse : s e' with
    | none => rw [hse] at hr; cases hr
    | some x =>
      rw [hse] at hr
      cases x <;> exact hr
  cases k with
  | true => exact key a (h3.1 rfl) (by unfold sif sbind; rw [h1]; rfl)
  | false => exact key b (h3.2 rfl) (by unfold sif sbind; rw [h1]; rfl)
theorem sqt_rt {d : Den Rv} (p : SW (srt d) e ⟨N, R, B, C⟩) : SW (sqt (srt d)) e ⟨N, R, B, C⟩ := by
  obtain ⟨r, hr, p⟩ := p
  have h : sqt (srt d) e = srt d e := by
    unfold sqt
    unfold srt sbind at hr ⊢
    cases hd : d e with
    | none => rfl
    | some x => cases x <;> rfl
  exact ⟨r, by rw [h]; exact hr, p⟩
theorem sqt_next (p : N e) : SW (sqt snext) e ⟨N, R, B, C⟩ := ⟨_, rfl, p⟩
theorem outI_im {k : Nat} {Post : FRv → Prop} {d : D} (h : k ≤ e.length) (p : Post (.im d)) : outI k Post (.im d) e := ⟨h, p⟩
theorem outI_new {k : Nat} {Post : FRv → Prop} {o : O} (h : k ≤ e.length) (p : Post (.new o)) : outI k Post (.new o) e := ⟨h, p⟩
theorem outI_bor {k i : Nat} {Post : FRv → Prop} {o x : O} (h : k ≤ e.length) (hl : lk e i = some (false, x)) (p : Post (.new o)) : outI k Post (.bor i o) e := ⟨h, by rw [hl]; exact p⟩
/-- a loop over a range -/
theorem sw_range {n : Int} {bind : D → Env → Option Env} {body : SDen} {A : Aft} (Iv : Nat → Env → Prop) (h0 : Iv 0 e)
    (hs : ∀ (i : Nat) e', i < n.toNat → Iv i e' → OP (bind (.int i) e') fun e1 => SW body e1 ⟨Iv (i + 1), A.R, A.N, Iv (i + 1)⟩) (hd : ∀ e', Iv n.toNat e' → A.N e') : SW (sloop bind body (rangeD 0 n.toNat)) e A := by
  refine sw_loop Iv h0 (fun i d e' hi h' => ?_) fun e' h' => hd e' (by unfold rangeD at h'; simpa using h')
  unfold rangeD at hi
  rw [List.getElem?_map] at hi
  obtain ⟨j, hj, rfl⟩ := Option.map_eq_some_iff.mp hi
  have hj2 := List.getElem?_eq_some_iff.mp hj
  obtain ⟨hlt, hj3⟩ := hj2
  rw [List.getElem_range] at hj3
  subst hj3
  rw [Int.zero_add]
  exact hs i e' (by simpa using hlt) h'
/-- a list of frozen things, held or frozen -/
def Lv (xs : List D) (o : O) : Prop := o = .im (.lst xs) ∨ o = .lst (xs.map O.im)
theorem Lv.flat {xs : List D} {o : O} (h : Lv xs o) : o.flat = .lst xs := by
  rcases h with rfl | rfl
  · rfl
  · show D.lst (O.flats (xs.map O.im)) = _
    rw [flats_im]
theorem Lv.of {xs : List D} : Lv xs (.lst (xs.map O.im)) := .inr rfl
theorem Lv.fz {xs : List D} {o : O} (h : Lv xs o) : Lv xs (.im o.flat) := .inl (by rw [h.flat])
theorem atI_map {α β : Type} (f : α → β) (xs : List α) (i : Int) : L2.atI (xs.map f) i = (L2.atI xs i).map f := by
  unfold L2.atI
  rw [List.length_map]
  cases L2.ixN xs.length i <;> simp
theorem atI_nn {α : Type} (xs : List α) (i : Int) (h : 0 ≤ i) : L2.atI xs i = xs[i.toNat]? := by
  obtain ⟨n, rfl⟩ := Int.eq_ofNat_of_zero_le h
  unfold L2.atI L2.ixN
  rw [if_pos h]
  split
  · rfl
  · rename_i hz
    simp at hz ⊢
    omega
theorem Lv.at {xs : List D} {o : O} {i : Int} (h : Lv xs o) : elemOO o (.int i) = (L2.atI xs i).map O.im := by
  rcases h with rfl | rfl
  · rfl
  · exact atI_map O.im xs i
theorem Lv.items {xs : List D} {o : O} (h : Lv xs o) : itemsO o = some xs := by
  rcases h with rfl | rfl
  · rfl
  · show ims (xs.map O.im) = _
    induction xs with
    | nil => rfl
    | cons x xs ih => show (ims (xs.map O.im)).map _ = _; rw [ih]; rfl
/-- a list of ints at hand -/
def LI (ns : List Int) (o : O) : Prop := Lv (ns.map D.int) o
theorem atI_int {ns : List Int} {i : Int} (h0 : 0 ≤ i) (h1 : i < ns.length) : L2.atI (ns.map D.int) i = some (.int (ns.getD i.toNat 0)) := by
  rw [atI_map, atI_nn _ _ h0, List.getD_eq_getElem?_getD, List.getElem?_eq_getElem (by omega)]
  rfl
theorem op_li {ns : List Int} {o : O} {i : Int} {P : O → Prop} (hL : LI ns o) (h0 : 0 ≤ i) (h1 : i < ns.length) (p : P (.im (.int (ns.getD i.toNat 0)))) : OP (elemOO o (.int i)) P :=
  ⟨_, by rw [Lv.at hL, atI_int h0 h1]; rfl, p⟩
/-- a slot free to be stored to: empty, or filled -/
def fo (s : Option O) : Slot := s.map fun o => (false, o)
theorem fo_free {i : Nat} {s : Option O} (h : e[i]? = some (fo s)) : e.free i = true := by
  unfold Env.free
  rw [h]
  cases s <;> rfl
theorem fo_none : (none : Slot) = fo none := rfl
theorem fo_some (o : O) : (some (false, o) : Slot) = fo (some o) := rfl
theorem op_rng {m : Int} {P : List D → Prop} (h : 0 ≤ m ∧ m ≤ 1000000) (p : P (rangeD 0 m.toNat)) : OP (rng1D [.int m]) P := ⟨_, if_pos (by omega), p⟩
theorem sw_mono {s : SDen} {A A' : Aft} (h : SW s e A) (hN : ∀ e, A.N e → A'.N e) (hR : ∀ r e, A.R r e → A'.R r e) (hB : ∀ e, A.B e → A'.B e) (hC : ∀ e, A.C e → A'.C e) : SW s e A' := by
  obtain ⟨r, hr, p⟩ := h
  refine ⟨r, hr, ?_⟩
  cases r <;> first | exact hN _ p | exact hR _ _ p | exact hB _ p | exact hC _ p | exact p
theorem mem_range {n : Nat} {d : D} (h : d ∈ rangeD 0 n) : ∃ i : Nat, i < n ∧ d = .int i := by
  unfold rangeD at h
  obtain ⟨i, hi, rfl⟩ := List.mem_map.mp h
  exact ⟨i, List.mem_range.mp hi, by rw [Int.zero_add]⟩
theorem log2_lt {j : Int} (h0 : j ≠ 0) (h : j.natAbs < 2 ^ 64) : j ≠ 0 ∧ j.natAbs.log2 < 9000 := ⟨h0, Nat.lt_trans ((Nat.log2_lt (by omega)).mpr h) (by decide)⟩
theorem ints_map : ∀ ns : List Int, intsD (ns.map D.int) = some ns
  | [] => rfl
  | n :: ns => by show (intsD (ns.map D.int)).map _ = _; rw [ints_map ns]; rfl
theorem op_sum {ns : List Int} {P : D → Prop} (p : P (.int ns.sum)) : OP (sumD [.lst (ns.map D.int)]) P := ⟨_, by unfold sumD; show (intsD (ns.map D.int)).map _ = _; rw [ints_map]; rfl, p⟩
theorem w_seqM {a b : SDen} (M : Env → Prop) (h : SW a e ⟨M, R, B, C⟩) (k : ∀ e', M e' → SW b e' ⟨N, R, B, C⟩) : SW (sseq a b) e ⟨N, R, B, C⟩ := w_seq (w_cut M h k)
theorem LI.of {ns : List Int} : LI ns (.lst (ns.map fun n => O.im (D.int n))) := .inr (by rw [List.map_map]; rfl)
theorem flats_int (ns : List Int) : O.flats (ns.map fun n => O.im (D.int n)) = ns.map D.int := by
  rw [← flats_im (ns.map D.int), List.map_map]; rfl
theorem cut_from (xs : List D) (k : Nat) (h : k ≤ xs.length) : cutD xs (some (k : Int)) none = xs.drop k := by
  unfold cutD
  rw [HT.sIx_none, HT.sIx_nat, Nat.min_eq_left h]
  exact List.take_of_length_le (by rw [List.length_drop]; omega)
def fi (s : Option D) : Slot := fo (s.map O.im)
theorem fmap_map {γ : Type} {f : D → Option O} {g : γ → D} {h : γ → O} (hh : ∀ a, f (g a) = some (h a)) : ∀ l : List γ, (l.map g).filterMap f = l.map h
  | [] => rfl
  | a :: l => by rw [List.map_cons, List.filterMap_cons_some (hh a), fmap_map hh l]; rfl
theorem flats_map {γ : Type} (g : γ → D) (l : List γ) : O.flats (l.map fun a => O.im (g a)) = l.map g := by
  rw [← flats_im (l.map g), List.map_map]; rfl
/-- a comprehension over l, by g; no conditions -/
theorem w_compM {γ : Type} {src : Den (List D)} {bind : D → Env → Option Env} {elt : Den Rv} {vs : List Nat} {P : Rv → Env → Prop} (l : List γ) (g : γ → D) (h : γ → O)
    (p : EW q src e fun ds e' => ds = l.map g ∧ (wiped e' vs = true ∧ restE e' (wipeE e' vs) vs = e') ∧ l.length ≤ sizeLine ∧ (∀ a ∈ l, OP (bind (g a) (wipeE e' vs)) fun e1 => EW q elt e1 fun rv e3 => rvP rv e3 fun o e4 => o = h a ∧ wipeE e4 vs = wipeE e' vs) ∧ P (.new (.lst (l.map h))) e') : EW q (dcomp src bind (dpure true) elt vs) e P := by
  obtain ⟨m, e', ds, k1, k2, rfl, k3, k4, k5, k6⟩ := p
  unfold dcomp
  rw [ew_bind]
  refine ⟨m, e', l.map g, k1, k2, ?_⟩
  have key : ∀ {l : List γ} {acc : List O}, acc.length + l.length ≤ sizeLine → (∀ a ∈ l, OP (bind (g a) (wipeE e' vs)) fun e1 => EW q elt e1 fun rv e3 => rvP rv e3 fun o e4 => o = h a ∧ wipeE e4 vs = wipeE e' vs) →
      ∃ m, cloop bind (dpure true) elt vs (l.map g) acc (wipeE e' vs) = some (.ok m (wipeE e' vs) (acc ++ l.map h)) ∧ (q = true → m = false) := by
    intro l
    induction l with
    | nil => intro acc _ _; exact ⟨false, by rw [List.map_nil, List.map_nil, List.append_nil]; rfl, fun _ => rfl⟩
    | cons a l ih =>
      intro acc hl hh
      rw [List.length_cons] at hl
      obtain ⟨e1, h1, m2, e3, rv, h4, hm2, h5⟩ := hh a List.mem_cons_self
      obtain ⟨m3, e4, o, h6, _, hf, he⟩ := w_rvO (q := false) h5
      obtain ⟨m, hc, hm⟩ := ih (acc := acc ++ [o]) (by rw [List.length_append]; show acc.length + 1 + l.length ≤ sizeLine; omega) fun x hx => hh x (List.mem_cons_of_mem _ hx)
      rw [List.map_cons]
      unfold cloop
      rw [h1]
      dsimp only [dpure]
      rw [h4]
      dsimp only
      rw [h6]
      dsimp only
      rw [if_pos (by omega), he, hc, hf, List.append_assoc]
      exact ⟨false || m2 || m, rfl, fun z => by rw [hm2 z, hm z]; rfl⟩
  obtain ⟨m, hc, hm⟩ := key (acc := []) (by simpa using k4) k5
  refine ⟨m, e', _, ?_, hm, k6⟩
  dsimp only
  rw [if_pos k3.1, hc]
  dsimp only
  rw [k3.2]
  rfl
theorem w_sforv {i : Nat} {b : Bool} {d : D} {ds : List D} {bind : D → Env → Option Env} {body : SDen} (h : lk e i = some (b, .im d)) (hs : seqD d = some ds) (p : SW (sloop bind body ds) e ⟨N, R, B, C⟩) : SW (sfor (dvar i) bind body) e ⟨N, R, B, C⟩ :=
  w_sforI (w_varI h ⟨ds, hs, p⟩)
/-- a loop over l's pictures -/
theorem sw_each {γ : Type} {bind : D → Env → Option Env} {body : SDen} {A : Aft} (l : List γ) (g : γ → D) (Iv : Nat → Env → Prop) (h0 : Iv 0 e)
    (hs : ∀ i a e', l[i]? = some a → Iv i e' → OP (bind (g a) e') fun e1 => SW body e1 ⟨Iv (i + 1), A.R, A.N, Iv (i + 1)⟩) (hd : ∀ e', Iv l.length e' → A.N e') : SW (sloop bind body (l.map g)) e A := by
  refine sw_loop Iv h0 (fun i d e' hi h' => ?_) fun e' h' => hd e' (by rwa [List.length_map] at h')
  rw [List.getElem?_map] at hi
  obtain ⟨a, ha, rfl⟩ := Option.map_eq_some_iff.mp hi
  exact hs i a e' ha h'
theorem take_snoc {γ : Type} {l : List γ} {i : Nat} {a : γ} (h : l[i]? = some a) : l.take (i + 1) = l.take i ++ [a] := by
  rw [List.take_succ, h]; rfl
theorem flat_map {γ : Type} (g : γ → D) (l : List γ) : O.flat (.lst (l.map fun a => O.im (g a))) = .lst (l.map g) := by
  show D.lst (O.flats _) = _
  rw [flats_map]
theorem op_isiII {i : Int} {P : D → Prop} (p : P (.bl true)) : OP (isiD [.int i, .ty "int"]) P := ⟨_, rfl, p⟩
theorem op_isiIB {i : Int} {P : D → Prop} (p : P (.bl false)) : OP (isiD [.int i, .ty "bool"]) P := ⟨_, rfl, p⟩
theorem op_isiTT {i : List D} {P : D → Prop} (p : P (.bl true)) : OP (isiD [.tup i, .ty "tuple"]) P := ⟨_, rfl, p⟩
theorem op_isiLL {i : List D} {P : D → Prop} (p : P (.bl true)) : OP (isiD [.lst i, .ty "list"]) P := ⟨_, rfl, p⟩
theorem op_rngG {m : Int} {P : List D → Prop} (h : (0 ≤ m ∧ m ≤ 1000000) ∧ P (rangeD 0 m.toNat)) : OP (rng1D [.int m]) P := op_rng h.1 h.2
end
end DL

/-! DLR: match over written strings. -/
namespace DL
open PySem PySem.Spec PyProof.Rows L2 Evl
/-- cases, the subject at hand -/
structure PMC (X : Cx) (cs : List MatchCase) (t : V → TS) : Prop where
  run : ∀ (first : Bool) (pins : List (Addr × Obj)) (s : Shared) (σ : L2.St) (H : Hp) (D : Ends) (x : V) (u : Value), Inv X pins σ H s → RelV x u → t x D σ H → wpAny (model X.prog X.w) X.A (matchCases cs X.env u first) (SP X pins D) X.xe s
section
variable {X : Cx} {W : WX}
theorem pmc_nil : PMC X [] fun _ => tNext := ⟨fun first pins s σ H D x u I r h => wpAny_matchCases_nil ⟨σ, H, I, h⟩⟩
theorem pmc_str {z : Str} {j : Nat} {p p2 : Pos} {body : List Stmt} {rest : List MatchCase} {tb : TS} {t : V → TS} (hu : X.A.units + 64 < cLine) (hb : PSs X body tb) (hr : PMC X rest t) (hz : PyData.strOk z = true) :
    PMC X (⟨.MatchValue (.Constant (.str z) j p) p2, none, body⟩ :: rest) fun x D σ H => ∃ y, x = .str y ∧ PyData.strOk y = true ∧ if y = z then tb D σ H else t x D σ H := by
  refine ⟨fun first pins s σ H D x u I r h => ?_⟩
  obtain ⟨y, rfl, hy, h⟩ := h
  refine wpAny_matchCases_cons (wpAny_matchPattern_Value (Calls.Constant_str ?_))
  refine thn (op_eqD hu pins _ σ H (.str y) (.str z) u _ (fun v H1 => H1 = H ∧ v = .bl (decide (y = z))) (I.tok _) r ⟨_, rfl⟩ ⟨.str y, .str z, .str y, .str z, by simp [SeqAt.shaped, PyData.canLay0, PyData.depth, hy], by simp [SeqAt.shaped, PyData.canLay0, PyData.depth, hz], rfl, ?_⟩) fun c s2 q => ?_
  · show V.bl (PyData.eqv (.str y) (.str z)) = _
    rw [PyData.eqv]
    by_cases e : y = z
    · subst e; simp
    · rw [decide_eq_false e]; simp [e]
  · obtain ⟨v, H1, I1, r1, rfl, rfl⟩ := q
    obtain rfl : c = .bool (decide (y = z)) := r1
    refine wpAny_truthy_bool ?_
    by_cases e : y = z
    · rw [decide_eq_true e]
      rw [if_pos e] at h
      exact wpAny_assignInOrder_none (hb.run pins s2 σ H1 D I1 h)
    · rw [decide_eq_false e]
      rw [if_neg e] at h
      exact hr.run false pins s2 σ H1 D (.str y) u I1 r h
theorem ps_match {e : Expr} {cs : List MatchCase} {pos : Pos} {te : TE} {t : V → TS} (he : PE X e te) (hc : PMC X cs t) : PS X (.Match e cs pos) fun D σ H => te σ H fun x H1 => t x D σ H1 := by
  refine ⟨fun pins s σ H D I h => ?_⟩
  exact wpAny_Match (thn (he.run pins s σ H _ I h) fun v s1 ⟨x, H1, I1, r1, q1⟩ => hc.run true pins s1 σ H1 D x v I1 r1 q1)
/-- what is done for z -/
def spick (z : Str) : List (Str × SDen) → SDen
  | [] => snext
  | (p, b) :: cs => if z = p then b else spick z cs
def smatch (d : Den D) (cs : List (Str × SDen)) : SDen := sbind d fun x => match x with
  | .str z => if PyData.strOk z = true then spick z cs else fun _ => none
  | _ => fun _ => none
structure DMC (X : Cx) (W : WX) (cs : List MatchCase) (ds : List (Str × SDen)) : Prop where
  run : PMC X cs fun x D σ H => ∃ z, x = .str z ∧ PyData.strOk z = true ∧ ∃ c F e ts, RE X.K c F H σ e ts ∧ AtS X.K W (spick z ds) D c F σ e ts H
theorem pmc_weak {cs : List MatchCase} {t t' : V → TS} (h : PMC X cs t) (k : ∀ v D σ H, t' v D σ H → t v D σ H) : PMC X cs t' := ⟨fun first pins s σ H D x u I r q => h.run first pins s σ H D x u I r (k _ _ _ _ q)⟩
theorem dmc_nil : DMC X W [] [] := ⟨pmc_weak pmc_nil fun v D σ H q => by
  obtain ⟨z, _, _, c, F, e, ts, R, q⟩ := q
  exact q.next R⟩
theorem dmc_cons {z : Str} {j : Nat} {p p2 : Pos} {body : List Stmt} {rest : List MatchCase} {db : SDen} {ds : List (Str × SDen)} (hu : X.A.units + 64 < cLine) (hb : DSs X W body db) (hr : DMC X W rest ds) (hz : PyData.strOk z = true := by decide +kernel) :
    DMC X W (⟨.MatchValue (.Constant (.str z) j p) p2, none, body⟩ :: rest) ((z, db) :: ds) := ⟨pmc_weak (pmc_str hu hb.run hr.run hz) fun v D σ H q => by
  obtain ⟨y, rfl, hy, c, F, e, ts, R, q⟩ := q
  refine ⟨y, rfl, hy, ?_⟩
  unfold spick at q
  by_cases h : y = z
  · rw [if_pos h] at q ⊢
    exact ⟨c, F, e, ts, R, q⟩
  · rw [if_neg h] at q ⊢
    exact ⟨y, rfl, hy, c, F, e, ts, R, q⟩⟩
theorem ds_match {e : Expr} {de : Den D} {cs : List MatchCase} {pos : Pos} {ds : List (Str × SDen)} (he : DI X W e de) (hc : DMC X W cs ds) : DS X W (.Match e cs pos) (smatch de ds) := ⟨ps_weak (ps_match he.run hc.run) fun D0 σ H q => by
  obtain ⟨c, F, e, ts, R, q⟩ := q
  refine ⟨c, F, e, ts, R, q.sbind (rel := relI) fun F1 H1 e1 x v ef hr q1 => ?_⟩
  obtain ⟨r, hr2, post⟩ := q1
  cases x with
  | str z =>
    dsimp only at hr2
    split at hr2
    · rename_i hz
      exact ⟨z, hr.2, hz, c, F1, e1, ts, hr.1, r, hr2, post⟩
    · cases hr2
  | _ => cases hr2⟩
end
section
variable {e : Env} {N : Env → Prop} {R : Rv → Env → Prop} {B C : Env → Prop}
def pickP (x : D) (cs : List (Str × SDen)) (e : Env) (A : Aft) : Prop := match x with
  | .str z => PyData.strOk z = true ∧ SW (spick z cs) e A
  | _ => False
theorem w_match {d : Den D} {cs : List (Str × SDen)} (p : EW false d e fun x e' => pickP x cs e' ⟨N, R, B, C⟩) : SW (smatch d cs) e ⟨N, R, B, C⟩ := by
  unfold smatch
  rw [sw_bind]
  refine ew_imp p fun x e' h => ?_
  unfold pickP at h
  cases x <;> first | exact False.elim h | (dsimp only at h ⊢; rw [if_pos h.1]; exact h.2)
theorem pickP_of {z : Str} {cs : List (Str × SDen)} (hz : PyData.strOk z = true) (p : SW (spick z cs) e ⟨N, R, B, C⟩) : pickP (.str z) cs e ⟨N, R, B, C⟩ := ⟨hz, p⟩
theorem sp_n {z : Str} (p : N e) : SW (spick z []) e ⟨N, R, B, C⟩ := w_next p
theorem sp_t {z : Str} {b : SDen} {cs : List (Str × SDen)} (p : SW b e ⟨N, R, B, C⟩) : SW (spick z ((z, b) :: cs)) e ⟨N, R, B, C⟩ := by
  unfold spick
  rw [if_pos rfl]
  exact p
theorem sp_f {z y : Str} {b : SDen} {cs : List (Str × SDen)} (h : ¬ z = y) (p : SW (spick z cs) e ⟨N, R, B, C⟩) : SW (spick z ((y, b) :: cs)) e ⟨N, R, B, C⟩ := by
  unfold spick
  rw [if_neg h]
  exact p
theorem w_chain {q : Bool} {da db dc : Den D} {g g' : D → D → Option Bool} {P : D → Env → Prop} (p : EW q da e fun x e1 => EW true db e1 fun y e2 => OP (g x y) fun k => BR k (EW true dc e2 fun z e3 => OP (g' y z) fun b => P (.bl b) e3) (P (.bl false) e2)) : EW q (dchain da db dc g g') e P := ew_chain.mpr p
end
section
variable {X : Cx} {W : WX} {a b : Expr} {pos : Pos} {da db : Den D}
/-- an item of what is frozen; the index may do something -/
theorem di_ixI (ha : DI X W a da) (hb : DI X W b db) (hs : PlainIx b := by exact fun _ _ => rfl) : DI X W (.Subscript a b pos) (dbin da db elemD) := ⟨pe_weak (pe_ix ix_seq ha.run hb.run hs) fun σ H Q q => by
  obtain ⟨c, F, e, ts, R, q⟩ := q
  refine ⟨c, F, e, ts, R, q.bind (rel := relI) fun F1 H1 e1 x v ef hr q1 => ⟨c, F1, e1, ts, hr.1, q1.bind (rel := relI) fun F2 H2 e2 y u ef2 hr2 q2 => ?_⟩⟩
  obtain ⟨z, hz, k⟩ := q2.lift
  exact elemD_ok hr2.1.fh (Rep.mono ef2 _ _ hr.2) hr2.2 hz fun w hw => k F2 H2 w (Ex.refl _) (Ex.refl _) ⟨hr2.1, hw⟩⟩
end
theorem op_eli {ns : List Int} {d : D} {i : Int} {P : D → Prop} (hd : d = .lst (ns.map D.int)) (h0 : 0 ≤ i) (h1 : i < ns.length) (p : P (.int (ns.getD i.toNat 0))) : OP (elemD d (.int i)) P := ⟨_, by rw [hd]; exact atI_int h0 h1, p⟩
end DL

namespace K21
open PySem PySem.Spec PyProof.Rows L2 Evl DL
/-- _law_numbers: 0 _law_cell_here, 1 _law_many, 2 _law_rest, 3 _law_size, 4 _law_numbers_here, 5 _law_k, 6 _law_mixed -/
noncomputable def d__law_numbers : SDen := (sseq (sset 2 (imR (dbind (dconsV (vw (dvar 0)) (dpure [])) fun vs => dlift (absD vs)))) (sseq (sset 3 (dvar 2)) (sseq (sset 4 (dlst (dpure []))) (sseq (sforP (rg rng1D (dcons (frz (dvar 1)) (dpure []))) (bName 5) (sif (dand (dtB (dcmp (vw (dvar 3)) (dbin (dpure (.int 10)) (dpure (.int 18)) powD) geD)) (dtB (dcmp (vw (dvar 2)) (dpure (.int 0)) gtD))) (sseq (sapp 4 (imR (dbin (dbind (dconsV (vw (dvar 2)) (dpure [])) fun vs => dlift (intD vs)) (dpure (.int 1000)) modD))) (sset 2 (imR (dbin (frz (dvar 2)) (dpure (.int 1000)) divD)))) (sseq (sset 6 (imR (dbin (dbind (dconsV (dbin (dbin (dbin (frz (dvar 3)) (dpure (.int 48271)) mulD) (dbin (frz (dvar 5)) (dpure (.int 69621)) mulD) addD) (dpure (.int 11)) addD) (dpure [])) fun vs => dlift (intD vs)) (dpure (.int 2147483647)) modD))) (sseq (sset 6 (imR (dbin (dbind (dconsV (dbin (dbin (dbin (frz (dvar 6)) (frz (dvar 6)) mulD) (dbin (dpure (.int 40692)) (frz (dvar 5)) mulD) addD) (dpure (.int 3)) addD) (dpure [])) fun vs => dlift (intD vs)) (dpure (.int 2147483629)) modD))) (sapp 4 (imR (dbin (dbind (dconsV (dbin (frz (dvar 6)) (dpure (.int 7)) divD) (dpure [])) fun vs => dlift (intD vs)) (dpure (.int 1000)) modD))))))) (srt (dvar 4))))))
noncomputable def f__law_numbers : FDen := fnden 7 d__law_numbers
/-- _law_cell: 0 _law_script, 1 _law_k -/
noncomputable def d__law_cell : SDen := (sseq (sif (dtB (dcmp (vw (dvar 1)) (dbind (dconsV (vw (dvar 0)) (dpure [])) fun vs => dlift (lenD vs)) ltD)) (srt (imR (imD (dixO (ow (dvar 0)) (frz (dvar 1)))))) snext) (srt (imR (dpure (.int 0)))))
noncomputable def f__law_cell : FDen := fnden 2 d__law_cell
/-- _law_state: 0 _law_script, 1 _law_left, 2 _law_numbers_here, 3 _law_parted, 4 _law_k -/
noncomputable def d__law_state : SDen := (sseq (sset 2 (dlst (dpure []))) (sseq (sset 3 (dcomp (rg rng1D (dcons (dpure (.int 3)) (dpure []))) (bName 4) (dpure true) (imR (frz (dbind (darcons (dbind (darcons (dvar 0) (darcons (dvar 4) (dpure []))) fun as => dfnA 2 f__law_cell as) (darcons (imR (dpure (.int 40))) (dpure []))) fun as => dfnA 2 f__law_numbers as))) [4])) (sseq (sforP (rg rng1D (dcons (dpure (.int 40)) (dpure []))) (bName 4) (sseq (sapp 2 (imR (imD (dixO (dixO (ow (dvar 3)) (dpure (.int 0))) (frz (dvar 4)))))) (sseq (sapp 2 (imR (imD (dixO (dixO (ow (dvar 3)) (dpure (.int 1))) (frz (dvar 4)))))) (sapp 2 (imR (imD (dixO (dixO (ow (dvar 3)) (dpure (.int 2))) (frz (dvar 4))))))))) (srt (dlst (dcons (frz (dvar 2)) (dcons (dpure (.int 0)) (dcons (frz (dvar 1)) (dcons (frz (dvar 0)) (dpure []))))))))))
noncomputable def f__law_state : FDen := fnden 5 d__law_state
/-- _law_next: 0 _law_state_here, 1 _law_many, 2 _law_at -/
noncomputable def d__law_next : SDen := (sseq (sset 2 (imR (imD (dixO (ow (dvar 0)) (dpure (.int 1)))))) (sseq (sstI 0 (dbin (frz (dvar 2)) (dpure (.int 1)) addD) (dpure (.int 1))) (srt (imR (dbin (dbind (dconsV (dbin (imD (dixO (dixO (ow (dvar 0)) (dpure (.int 0))) (dbin (frz (dvar 2)) (dpure (.int 120)) modD))) (dbin (dpure (.int 7)) (dbin (frz (dvar 2)) (dpure (.int 120)) divD) mulD) addD) (dpure [])) fun vs => dlift (intD vs)) (frz (dvar 1)) modD)))))
noncomputable def f__law_next : FDen := fnden 3 d__law_next
/-- _law_number: 0 _law_state_here, 1 _law_place, 2 _law_pick, 3 _law_cell_here -/
noncomputable def d__law_number : SDen := (sseq (sset 2 (dbind (darcons (dvar 0) (darcons (imR (dpure (.int 9))) (dpure []))) fun as => dfnA 2 f__law_next as)) (sseq (sset 3 (dbind (darcons (imR (imD (dixO (ow (dvar 0)) (dpure (.int 3))))) (darcons (dvar 1) (dpure []))) fun as => dfnA 2 f__law_cell as)) (sseq (sif (dtB (dcmp (vw (dvar 2)) (dpure (.int 4)) ltD)) (srt (imR (dbin (dbin (dbind (dconsV (vw (dvar 3)) (dpure [])) fun vs => dlift (intD vs)) (dpure (.int 41)) modD) (dpure (.int 20)) subD))) snext) (sseq (sif (dtB (dcmp (vw (dvar 2)) (dpure (.int 4)) eqD)) (srt (imR (dbin (frz (dlst (dcons (dbin (dpure (.int 10)) (dpure (.int 15)) powD) (dcons (dbind (dbin (dpure (.int 10)) (dpure (.int 15)) powD) fun x => dlift (negD x)) (dcons (dbin (dbin (dpure (.int 10)) (dpure (.int 15)) powD) (dpure (.int 1)) subD) (dcons (dpure (.int 0)) (dcons (dpure (.int 1)) (dcons (dbind (dpure (.int 1)) fun x => dlift (negD x)) (dpure []))))))))) (frz (dbind (darcons (dvar 0) (darcons (imR (dpure (.int 6))) (dpure []))) fun as => dfnA 2 f__law_next as)) elemD))) snext) (sseq (sif (dtB (dcmp (vw (dvar 2)) (dpure (.int 5)) eqD)) (srt (imR (dbin (dbin (dbind (dconsV (vw (dvar 3)) (dpure [])) fun vs => dlift (intD vs)) (dpure (.int 70000001)) modD) (dpure (.int 35000000)) subD))) snext) (srt (imR (dbin (dbin (dbind (dconsV (vw (dvar 3)) (dpure [])) fun vs => dlift (intD vs)) (dbin (dbin (dpure (.int 2)) (dbin (dpure (.int 10)) (dpure (.int 15)) powD) mulD) (dpure (.int 1)) addD) modD) (dbin (dpure (.int 10)) (dpure (.int 15)) powD) subD))))))))
noncomputable def f__law_number : FDen := fnden 4 d__law_number
/-- _law_inside: 0 _law_number_here -/
noncomputable def d__law_inside : SDen := (srt (imR (dandV (dcmp (dbind (dbin (dpure (.int 10)) (dpure (.int 15)) powD) fun x => dlift (negD x)) (vw (dvar 0)) leD) (dcmp (vw (dvar 0)) (dbin (dpure (.int 10)) (dpure (.int 15)) powD) leD))))
noncomputable def f__law_inside : FDen := fnden 1 d__law_inside
/-- _law_near: 0 _law_state_here, 1 _law_a, 2 _law_edge, 3 _law_found, 4 _law_near_here -/
noncomputable def d__law_near : SDen := (sseq (sset 2 (imR (dbin (frz (dlst (dcons (dbin (dpure (.int 10)) (dpure (.int 15)) powD) (dcons (dbin (dbin (dpure (.int 10)) (dpure (.int 15)) powD) (dpure (.int 1)) addD) (dcons (dbind (dbin (dpure (.int 10)) (dpure (.int 15)) powD) fun x => dlift (negD x)) (dcons (dbin (dbind (dbin (dpure (.int 10)) (dpure (.int 15)) powD) fun x => dlift (negD x)) (dpure (.int 1)) subD) (dpure []))))))) (frz (dbind (darcons (dvar 0) (darcons (imR (dpure (.int 4))) (dpure []))) fun as => dfnA 2 f__law_next as)) elemD))) (sseq (sset 3 (dlst (dcons (dbin (frz (dvar 2)) (frz (dvar 1)) subD) (dcons (dbin (frz (dvar 1)) (frz (dvar 2)) subD) (dpure []))))) (sseq (sif (dtB (dcmp (vw (dvar 1)) (dpure (.int 0)) neD)) (sseq (sapp 3 (imR (dbin (frz (dvar 2)) (frz (dvar 1)) divD))) (sapp 3 (imR (dbin (dbin (frz (dvar 2)) (frz (dvar 1)) divD) (dpure (.int 1)) addD)))) snext) (sseq (sset 4 (imR (dbin (frz (dvar 3)) (frz (dbind (darcons (dvar 0) (darcons (imR (dbind (dconsV (vw (dvar 3)) (dpure [])) fun vs => dlift (lenD vs))) (dpure []))) fun as => dfnA 2 f__law_next as)) elemD))) (sseq (sif (dtru (vw (dbind (darcons (dvar 4) (dpure [])) fun as => dfnA 1 f__law_inside as))) (srt (dvar 4)) snext) (srt (dvar 1)))))))
noncomputable def f__law_near : FDen := fnden 5 d__law_near
/-- _law_is_integer: 0 _law_value -/
noncomputable def d__law_is_integer : SDen := (srt (imR (dandV (dbind (dconsV (vw (dvar 0)) (dconsV (dpure (.ty "int")) (dpure []))) fun vs => dlift (isiD vs)) (dnotV (dbind (dconsV (vw (dvar 0)) (dconsV (dpure (.ty "bool")) (dpure []))) fun vs => dlift (isiD vs))))))
noncomputable def f__law_is_integer : FDen := fnden 1 d__law_is_integer
/-- _law_same: 0 _law_actual, 1 _law_ending, 2 _law_value -/
noncomputable def d__law_same : SDen := (sseq (sif (dor (dnot (dtru (dbind (dconsV (vw (dvar 0)) (dconsV (dpure (.ty "tuple")) (dpure []))) fun vs => dlift (isiD vs)))) (dor (dtB (dcmp (dbind (dconsV (vw (dvar 0)) (dpure [])) fun vs => dlift (lenD vs)) (dpure (.int 2)) neD)) (dor (dnot (dtru (dbind (dconsV (fl (dixO (ow (dvar 0)) (dpure (.int 0)))) (dconsV (dpure (.ty "str")) (dpure []))) fun vs => dlift (isiD vs)))) (dtB (dcmp (fl (dixO (ow (dvar 0)) (dpure (.int 0)))) (vw (dvar 1)) neD))))) (srt (imR (dpure (.bl false)))) snext) (sseq (sif (dtB (dbind (vw (dvar 2)) fun x => dlift (noneD x))) (srt (imR (dbind (fl (dixO (ow (dvar 0)) (dpure (.int 1)))) fun x => dlift (noneD x)))) snext) (sseq (sif (dtru (dbind (dconsV (vw (dvar 2)) (dconsV (dpure (.ty "bool")) (dpure []))) fun vs => dlift (isiD vs))) (srt (imR (dandV (dbind (dconsV (fl (dixO (ow (dvar 0)) (dpure (.int 1)))) (dconsV (dpure (.ty "bool")) (dpure []))) fun vs => dlift (isiD vs)) (dcmp (fl (dixO (ow (dvar 0)) (dpure (.int 1)))) (vw (dvar 2)) eqD)))) snext) (srt (imR (dandV (frz (dbind (darcons (imR (imD (dixO (ow (dvar 0)) (dpure (.int 1))))) (dpure [])) fun as => dfnA 1 f__law_is_integer as)) (dcmp (fl (dixO (ow (dvar 0)) (dpure (.int 1)))) (vw (dvar 2)) eqD)))))))
noncomputable def f__law_same : FDen := fnden 3 d__law_same
/-- _law_counted: 0 _law_actual, 1 _law_number_here -/
noncomputable def d__law_counted : SDen := (sseq (sif (dtru (vw (dbind (darcons (dvar 1) (dpure [])) fun as => dfnA 1 f__law_inside as))) (srt (dbind (darcons (dvar 0) (darcons (imR (dpure (.str "value"))) (darcons (dvar 1) (dpure [])))) fun as => dfnA 3 f__law_same as)) snext) (srt (dbind (darcons (dvar 0) (darcons (imR (dpure (.str "range"))) (darcons (imR (dpure .non)) (dpure [])))) fun as => dfnA 3 f__law_same as)))
noncomputable def f__law_counted : FDen := fnden 2 d__law_counted
/-- checked: 0 number -/
noncomputable def d_checked : SDen := (sseq (sif (dtB (dchain (dbind (dpure (.int 1000000000000000)) fun x => dlift (negD x)) (vw (dvar 0)) (dpure (.int 1000000000000000)) leD leD)) (srt (imR (dtup (dcons (dpure (.str "value")) (dcons (frz (dvar 0)) (dpure [])))))) snext) (srt (imR (dtup (dcons (dpure (.str "range")) (dcons (dpure .non) (dpure [])))))))
noncomputable def f_checked : FDen := fnden 1 d_checked
/-- compute: 0 sign, 1 a, 2 b -/
noncomputable def d_compute : SDen := (sseq (smatch (frz (dvar 0)) ((("+" : Str), (srt (dbind (darcons (imR (dbin (frz (dvar 1)) (frz (dvar 2)) addD)) (dpure [])) fun as => dfnA 1 f_checked as))) :: ((("-" : Str), (srt (dbind (darcons (imR (dbin (frz (dvar 1)) (frz (dvar 2)) subD)) (dpure [])) fun as => dfnA 1 f_checked as))) :: ((("*" : Str), (srt (dbind (darcons (imR (dbin (frz (dvar 1)) (frz (dvar 2)) mulD)) (dpure [])) fun as => dfnA 1 f_checked as))) :: ((("==" : Str), (srt (imR (dtup (dcons (dpure (.str "value")) (dcons (dcmp (vw (dvar 1)) (vw (dvar 2)) eqD) (dpure []))))))) :: ((("<" : Str), (srt (imR (dtup (dcons (dpure (.str "value")) (dcons (dcmp (vw (dvar 1)) (vw (dvar 2)) ltD) (dpure []))))))) :: ((("<=" : Str), (srt (imR (dtup (dcons (dpure (.str "value")) (dcons (dcmp (vw (dvar 1)) (vw (dvar 2)) leD) (dpure []))))))) :: []))))))) (sseq (sif (dtB (dcmp (vw (dvar 2)) (dpure (.int 0)) eqD)) (srt (imR (dtup (dcons (dpure (.str "division")) (dcons (dpure .non) (dpure [])))))) snext) (sseq (sif (dtB (dcmp (vw (dvar 0)) (dpure (.str "div")) eqD)) (srt (dbind (darcons (imR (dbin (frz (dvar 1)) (frz (dvar 2)) divD)) (dpure [])) fun as => dfnA 1 f_checked as)) snext) (srt (dbind (darcons (imR (dbin (frz (dvar 1)) (frz (dvar 2)) modD)) (dpure [])) fun as => dfnA 1 f_checked as)))))
noncomputable def f_compute : FDen := fnden 3 d_compute
/-- _law_divided: 0 _law_a, 1 _law_b, 2 _law_whole, 3 _law_rest -/
noncomputable def d__law_divided : SDen := (sseq (sset 2 (dbind (darcons (imR (dpure (.str "div"))) (darcons (dvar 0) (darcons (dvar 1) (dpure [])))) fun as => dfnA 3 f_compute as)) (sseq (sset 3 (dbind (darcons (imR (dpure (.str "mod"))) (darcons (dvar 0) (darcons (dvar 1) (dpure [])))) fun as => dfnA 3 f_compute as)) (sseq (sif (dtB (dcmp (vw (dvar 1)) (dpure (.int 0)) eqD)) (srt (imR (dandV (frz (dbind (darcons (dvar 2) (darcons (imR (dpure (.str "division"))) (darcons (imR (dpure .non)) (dpure [])))) fun as => dfnA 3 f__law_same as)) (frz (dbind (darcons (dvar 3) (darcons (imR (dpure (.str "division"))) (darcons (imR (dpure .non)) (dpure [])))) fun as => dfnA 3 f__law_same as))))) snext) (sseq (sif (dor (dnot (dtru (dbind (dconsV (vw (dvar 2)) (dconsV (dpure (.ty "tuple")) (dpure []))) fun vs => dlift (isiD vs)))) (dor (dnot (dtru (dbind (dconsV (vw (dvar 3)) (dconsV (dpure (.ty "tuple")) (dpure []))) fun vs => dlift (isiD vs)))) (dor (dtB (dcmp (dbind (dconsV (vw (dvar 2)) (dpure [])) fun vs => dlift (lenD vs)) (dpure (.int 2)) neD)) (dtB (dcmp (dbind (dconsV (vw (dvar 3)) (dpure [])) fun vs => dlift (lenD vs)) (dpure (.int 2)) neD))))) (srt (imR (dpure (.bl false)))) snext) (sseq (sif (dor (dtB (dcmp (fl (dixO (ow (dvar 2)) (dpure (.int 0)))) (dpure (.str "value")) neD)) (dor (dtB (dcmp (fl (dixO (ow (dvar 3)) (dpure (.int 0)))) (dpure (.str "value")) neD)) (dor (dnot (dtru (vw (dbind (darcons (imR (imD (dixO (ow (dvar 2)) (dpure (.int 1))))) (dpure [])) fun as => dfnA 1 f__law_is_integer as)))) (dnot (dtru (vw (dbind (darcons (imR (imD (dixO (ow (dvar 3)) (dpure (.int 1))))) (dpure [])) fun as => dfnA 1 f__law_is_integer as))))))) (srt (imR (dpure (.bl false)))) snext) (sseq (sif (dtB (dcmp (dbin (dbin (imD (dixO (ow (dvar 2)) (dpure (.int 1)))) (frz (dvar 1)) mulD) (imD (dixO (ow (dvar 3)) (dpure (.int 1)))) addD) (vw (dvar 0)) neD)) (srt (imR (dpure (.bl false)))) snext) (sseq (sif (dtB (dcmp (vw (dvar 1)) (dpure (.int 0)) gtD)) (srt (imR (dandV (dcmp (dpure (.int 0)) (fl (dixO (ow (dvar 3)) (dpure (.int 1)))) leD) (dcmp (fl (dixO (ow (dvar 3)) (dpure (.int 1)))) (vw (dvar 1)) ltD)))) snext) (srt (imR (dandV (dcmp (vw (dvar 1)) (fl (dixO (ow (dvar 3)) (dpure (.int 1)))) ltD) (dcmp (fl (dixO (ow (dvar 3)) (dpure (.int 1)))) (dpure (.int 0)) leD)))))))))))
noncomputable def f__law_divided : FDen := fnden 4 d__law_divided
/-- law: 0 _law_script, 1 _law_state_here, 2 _law_a, 3 _law_b -/
noncomputable def d_law : SDen := (sseq (sset 1 (dbind (darcons (dvar 0) (darcons (imR (dpure (.int 0))) (dpure []))) fun as => dfnA 2 f__law_state as)) (sseq (sset 2 (dbind (darcons (dvar 1) (darcons (imR (dpure (.int 3))) (dpure []))) fun as => dfnA 2 f__law_number as)) (sseq (sset 3 (dbind (darcons (dvar 1) (darcons (imR (dpure (.int 4))) (dpure []))) fun as => dfnA 2 f__law_number as)) (sseq (sif (dtB (dcmp (vw (dbind (darcons (dvar 1) (darcons (imR (dpure (.int 4))) (dpure []))) fun as => dfnA 2 f__law_next as)) (dpure (.int 0)) eqD)) (sset 3 (dbind (darcons (dvar 1) (darcons (dvar 2) (dpure []))) fun as => dfnA 2 f__law_near as)) snext) (sseq (sif (dtB (dcmp (vw (dbind (darcons (dvar 1) (darcons (imR (dpure (.int 8))) (dpure []))) fun as => dfnA 2 f__law_next as)) (dpure (.int 1)) eqD)) (sset 3 (dvar 2)) snext) (sseq (sif (dor (dnot (dtru (vw (dbind (darcons (dbind (darcons (imR (dpure (.str "+"))) (darcons (dvar 2) (darcons (dvar 3) (dpure [])))) fun as => dfnA 3 f_compute as) (darcons (imR (dbin (frz (dvar 2)) (frz (dvar 3)) addD)) (dpure []))) fun as => dfnA 2 f__law_counted as)))) (dnot (dtru (vw (dbind (darcons (dbind (darcons (imR (dpure (.str "-"))) (darcons (dvar 2) (darcons (dvar 3) (dpure [])))) fun as => dfnA 3 f_compute as) (darcons (imR (dbin (frz (dvar 2)) (frz (dvar 3)) subD)) (dpure []))) fun as => dfnA 2 f__law_counted as))))) (srt (imR (dpure (.bl false)))) snext) (sseq (sif (dor (dnot (dtru (vw (dbind (darcons (dbind (darcons (imR (dpure (.str "*"))) (darcons (dvar 2) (darcons (dvar 3) (dpure [])))) fun as => dfnA 3 f_compute as) (darcons (imR (dbin (frz (dvar 2)) (frz (dvar 3)) mulD)) (dpure []))) fun as => dfnA 2 f__law_counted as)))) (dnot (dtru (vw (dbind (darcons (dvar 2) (darcons (dvar 3) (dpure []))) fun as => dfnA 2 f__law_divided as))))) (srt (imR (dpure (.bl false)))) snext) (sseq (sif (dor (dnot (dtru (vw (dbind (darcons (dbind (darcons (imR (dpure (.str "=="))) (darcons (dvar 2) (darcons (dvar 3) (dpure [])))) fun as => dfnA 3 f_compute as) (darcons (imR (dpure (.str "value"))) (darcons (imR (dcmp (vw (dvar 2)) (vw (dvar 3)) eqD)) (dpure [])))) fun as => dfnA 3 f__law_same as)))) (dnot (dtru (vw (dbind (darcons (dbind (darcons (imR (dpure (.str "<"))) (darcons (dvar 2) (darcons (dvar 3) (dpure [])))) fun as => dfnA 3 f_compute as) (darcons (imR (dpure (.str "value"))) (darcons (imR (dcmp (vw (dvar 2)) (vw (dvar 3)) ltD)) (dpure [])))) fun as => dfnA 3 f__law_same as))))) (srt (imR (dpure (.bl false)))) snext) (srt (dbind (darcons (dbind (darcons (imR (dpure (.str "<="))) (darcons (dvar 2) (darcons (dvar 3) (dpure [])))) fun as => dfnA 3 f_compute as) (darcons (imR (dpure (.str "value"))) (darcons (imR (dcmp (vw (dvar 2)) (vw (dvar 3)) leD)) (dpure [])))) fun as => dfnA 3 f__law_same as))))))))))
noncomputable def f_law : FDen := fnden 4 d_law
def top (i : Nat) : Stmt := PySem.Challenge.pw_keptcoin_k21_operators.main.body.getD i (.Pass ⟨0, 0, 0, 0⟩)
abbrev s__law_numbers : Stmt := top 6
theorem sc__law_numbers : FnScope ["_law_cell_here", "_law_many", "_law_rest", "_law_size", "_law_numbers_here", "_law_k", "_law_mixed"] ["_law_cell_here", "_law_many"] (defScope s__law_numbers) := ⟨rfl, rfl, rfl, by decide +kernel, rfl, by decide +kernel, by decide +kernel⟩
abbrev s__law_cell : Stmt := top 5
theorem sc__law_cell : FnScope ["_law_script", "_law_k"] ["_law_script", "_law_k"] (defScope s__law_cell) := ⟨rfl, rfl, rfl, by decide +kernel, rfl, by decide +kernel, by decide +kernel⟩
abbrev s__law_state : Stmt := top 7
theorem sc__law_state : FnScope ["_law_script", "_law_left", "_law_numbers_here", "_law_parted", "_law_k"] ["_law_script", "_law_left"] (defScope s__law_state) := ⟨rfl, rfl, rfl, by decide +kernel, rfl, by decide +kernel, by decide +kernel⟩
abbrev s__law_next : Stmt := top 8
theorem sc__law_next : FnScope ["_law_state_here", "_law_many", "_law_at"] ["_law_state_here", "_law_many"] (defScope s__law_next) := ⟨rfl, rfl, rfl, by decide +kernel, rfl, by decide +kernel, by decide +kernel⟩
abbrev s__law_number : Stmt := top 10
theorem sc__law_number : FnScope ["_law_state_here", "_law_place", "_law_pick", "_law_cell_here"] ["_law_state_here", "_law_place"] (defScope s__law_number) := ⟨rfl, rfl, rfl, by decide +kernel, rfl, by decide +kernel, by decide +kernel⟩
abbrev s__law_inside : Stmt := top 11
theorem sc__law_inside : FnScope ["_law_number_here"] ["_law_number_here"] (defScope s__law_inside) := ⟨rfl, rfl, rfl, by decide +kernel, rfl, by decide +kernel, by decide +kernel⟩
abbrev s__law_near : Stmt := top 12
theorem sc__law_near : FnScope ["_law_state_here", "_law_a", "_law_edge", "_law_found", "_law_near_here"] ["_law_state_here", "_law_a"] (defScope s__law_near) := ⟨rfl, rfl, rfl, by decide +kernel, rfl, by decide +kernel, by decide +kernel⟩
abbrev s__law_is_integer : Stmt := top 13
theorem sc__law_is_integer : FnScope ["_law_value"] ["_law_value"] (defScope s__law_is_integer) := ⟨rfl, rfl, rfl, by decide +kernel, rfl, by decide +kernel, by decide +kernel⟩
abbrev s__law_same : Stmt := top 14
theorem sc__law_same : FnScope ["_law_actual", "_law_ending", "_law_value"] ["_law_actual", "_law_ending", "_law_value"] (defScope s__law_same) := ⟨rfl, rfl, rfl, by decide +kernel, rfl, by decide +kernel, by decide +kernel⟩
abbrev s__law_counted : Stmt := top 15
theorem sc__law_counted : FnScope ["_law_actual", "_law_number_here"] ["_law_actual", "_law_number_here"] (defScope s__law_counted) := ⟨rfl, rfl, rfl, by decide +kernel, rfl, by decide +kernel, by decide +kernel⟩
abbrev s_checked : Stmt := top 2
theorem sc_checked : FnScope ["number"] ["number"] (defScope s_checked) := ⟨rfl, rfl, rfl, by decide +kernel, rfl, by decide +kernel, by decide +kernel⟩
abbrev s_compute : Stmt := top 3
theorem sc_compute : FnScope ["sign", "a", "b"] ["sign", "a", "b"] (defScope s_compute) := ⟨rfl, rfl, rfl, by decide +kernel, rfl, by decide +kernel, by decide +kernel⟩
abbrev s__law_divided : Stmt := top 16
theorem sc__law_divided : FnScope ["_law_a", "_law_b", "_law_whole", "_law_rest"] ["_law_a", "_law_b"] (defScope s__law_divided) := ⟨rfl, rfl, rfl, by decide +kernel, rfl, by decide +kernel, by decide +kernel⟩
abbrev s_law : Stmt := top 17
theorem sc_law : FnScope ["_law_script", "_law_state_here", "_law_a", "_law_b"] ["_law_script"] (defScope s_law) := ⟨rfl, rfl, rfl, by decide +kernel, rfl, by decide +kernel, by decide +kernel⟩
structure Txt (K : PySem.W.Frag) (mg : Str → Option Value) (A : Nat → Addr) (FD : Nat → FuncData) : Prop where
  F__law_numbers : Fun K "_law_numbers" "_law_numbers" s__law_numbers (A 0) (FD 0)
  f__law_numbers : mg "_law_numbers" = some (.ref (A 0))
  b__law_numbers : Binds K (FD 0) ["_law_cell_here", "_law_many"] []
  F__law_cell : Fun K "_law_cell" "_law_cell" s__law_cell (A 1) (FD 1)
  f__law_cell : mg "_law_cell" = some (.ref (A 1))
  b__law_cell : Binds K (FD 1) ["_law_script", "_law_k"] []
  F__law_state : Fun K "_law_state" "_law_state" s__law_state (A 2) (FD 2)
  f__law_state : mg "_law_state" = some (.ref (A 2))
  b__law_state : Binds K (FD 2) ["_law_script", "_law_left"] []
  F__law_next : Fun K "_law_next" "_law_next" s__law_next (A 3) (FD 3)
  f__law_next : mg "_law_next" = some (.ref (A 3))
  b__law_next : Binds K (FD 3) ["_law_state_here", "_law_many"] []
  F__law_number : Fun K "_law_number" "_law_number" s__law_number (A 4) (FD 4)
  f__law_number : mg "_law_number" = some (.ref (A 4))
  b__law_number : Binds K (FD 4) ["_law_state_here", "_law_place"] []
  F__law_inside : Fun K "_law_inside" "_law_inside" s__law_inside (A 5) (FD 5)
  f__law_inside : mg "_law_inside" = some (.ref (A 5))
  b__law_inside : Binds K (FD 5) ["_law_number_here"] []
  F__law_near : Fun K "_law_near" "_law_near" s__law_near (A 6) (FD 6)
  f__law_near : mg "_law_near" = some (.ref (A 6))
  b__law_near : Binds K (FD 6) ["_law_state_here", "_law_a"] []
  F__law_is_integer : Fun K "_law_is_integer" "_law_is_integer" s__law_is_integer (A 7) (FD 7)
  f__law_is_integer : mg "_law_is_integer" = some (.ref (A 7))
  b__law_is_integer : Binds K (FD 7) ["_law_value"] []
  F__law_same : Fun K "_law_same" "_law_same" s__law_same (A 8) (FD 8)
  f__law_same : mg "_law_same" = some (.ref (A 8))
  b__law_same : Binds K (FD 8) ["_law_actual", "_law_ending", "_law_value"] []
  F__law_counted : Fun K "_law_counted" "_law_counted" s__law_counted (A 9) (FD 9)
  f__law_counted : mg "_law_counted" = some (.ref (A 9))
  b__law_counted : Binds K (FD 9) ["_law_actual", "_law_number_here"] []
  F_checked : Fun K "checked" "checked" s_checked (A 10) (FD 10)
  f_checked : mg "checked" = some (.ref (A 10))
  b_checked : Binds K (FD 10) ["number"] []
  F_compute : Fun K "compute" "compute" s_compute (A 11) (FD 11)
  f_compute : mg "compute" = some (.ref (A 11))
  b_compute : Binds K (FD 11) ["sign", "a", "b"] []
  F__law_divided : Fun K "_law_divided" "_law_divided" s__law_divided (A 12) (FD 12)
  f__law_divided : mg "_law_divided" = some (.ref (A 12))
  b__law_divided : Binds K (FD 12) ["_law_a", "_law_b"] []
  F_law : Fun K "law" "law" s_law (A 13) (FD 13)
  g_MOST : ∃ t, mg "MOST" = some (.int 1000000000000000 t)
  n_abs : mg "abs" = none
  n_bool : mg "bool" = none
  n_int : mg "int" = none
  n_isinstance : mg "isinstance" = none
  n_len : mg "len" = none
  n_range : mg "range" = none
  n_str : mg "str" = none
  n_tuple : mg "tuple" = none
section
variable {P : Program} {w : World} {K : PySem.W.Frag} {mg : Str → Option Value} {base : Heap} {A : Nat → Addr} {FD : Nat → FuncData}
theorem ok__law_numbers (T : Txt K mg A FD) : FnOk P w K mg base (L2.CX P w) 1 (A 0) (FD 0) ["_law_cell_here", "_law_many"] (spD K 2 f__law_numbers) := by
  refine fn_okD (N := ["_law_cell_here", "_law_many", "_law_rest", "_law_size", "_law_numbers_here", "_law_k", "_law_mixed"]) (ps := ["_law_cell_here", "_law_many"]) (k := 0) (den := d__law_numbers) T.F__law_numbers sc__law_numbers fun cdv Ar outer s H E hr => ?_
  have nd := sc__law_numbers.nd
  have hu := hr.units
  have hu1 : (Ar.deeper (envOfC "_law_numbers" (defScope s__law_numbers) s.heap.objs.size (A 0) cdv)).units + 65 < cLine := by have := hr.un; omega
  have tk : Takes (cxOf (L2.CX P w) P w K mg base ["_law_cell_here", "_law_many", "_law_rest", "_law_size", "_law_numbers_here", "_law_k", "_law_mixed"] "_law_numbers" (defScope s__law_numbers) (A 0) cdv Ar outer s H E) (fun cls d _ H => E cls d H) := takes_of rfl rfl rfl rfl
  have po : PassesOwn (model P w) (Ar.deeper (envOfC "_law_numbers" (defScope s__law_numbers) s.heap.objs.size (A 0) cdv)) (cxOf (L2.CX P w) P w K mg base ["_law_cell_here", "_law_many", "_law_rest", "_law_size", "_law_numbers_here", "_law_k", "_law_mixed"] "_law_numbers" (defScope s__law_numbers) (A 0) cdv Ar outer s H E).env (cxOf (L2.CX P w) P w K mg base ["_law_cell_here", "_law_many", "_law_rest", "_law_size", "_law_numbers_here", "_law_k", "_law_mixed"] "_law_numbers" (defScope s__law_numbers) (A 0) cdv Ar outer s H E).xe := passes_of rfl
  exact (dss_cons (ds_set (i := 2) nd rfl (.inl rfl) (di_callBV call_abs ok_abs (by rfl) T.n_abs (by decide +kernel) (dv_cons (de_var (pv 0)).v dv_nil)).e) (dss_cons (ds_set (i := 3) nd rfl (.inl rfl) (de_var (pv 2))) (dss_cons (ds_set (i := 4) nd rfl (.inl rfl) (de_lst da_nil)) (dss_cons (ds_forP po rfl (dpi_range1 (by rfl) T.n_range (da_cons (de_var (pv 1)).i da_nil)) (dg_name (i := 5) nd rfl (.inl rfl)) (dss_one (ds_if (dw_and (dt_cmp op_ge ok_ge (de_var (pv 3)).v (di_pow di_int di_int).v (nomark _)) (dw_and1 (dt_cmp op_gt ok_gt (de_var (pv 2)).v di_int.v (nomark _)))).t (dss_cons (ds_app (i := 4) (pv 4) (di_mod (di_callTV call_int1 ok_int (by rfl) T.n_int (by decide +kernel) (dv_cons (de_var (pv 2)).v dv_nil)) di_int).e (fun h => pe_bm PySem.F.plainAttrs_list PySem.F.slot_list_append PySem.F.type_list_append mt_append (pv 4) h)) (dss_one (ds_set (i := 2) nd rfl (.inl rfl) (di_div (de_var (pv 2)).i di_int).e))) (dss_cons (ds_set (i := 6) nd rfl (.inl rfl) (di_mod (di_callTV call_int1 ok_int (by rfl) T.n_int (by decide +kernel) (dv_cons (di_add (di_add (di_mul (de_var (pv 3)).i di_int) (di_mul (de_var (pv 5)).i di_int)) di_int).v dv_nil)) di_int).e) (dss_cons (ds_set (i := 6) nd rfl (.inl rfl) (di_mod (di_callTV call_int1 ok_int (by rfl) T.n_int (by decide +kernel) (dv_cons (di_add (di_add (di_mul (de_var (pv 6)).i (de_var (pv 6)).i) (di_mul di_int (de_var (pv 5)).i)) di_int).v dv_nil)) di_int).e) (dss_one (ds_app (i := 4) (pv 4) (di_mod (di_callTV call_int1 ok_int (by rfl) T.n_int (by decide +kernel) (dv_cons (di_div (de_var (pv 6)).i di_int).v dv_nil)) di_int).e (fun h => pe_bm PySem.F.plainAttrs_list PySem.F.slot_list_append PySem.F.type_list_append mt_append (pv 4) h)))))))) (dss_one (ds_ret (de_var (pv 4))))))))
theorem ok__law_cell (T : Txt K mg A FD) : FnOk P w K mg base (L2.CX P w) 1 (A 1) (FD 1) ["_law_script", "_law_k"] (spD K 2 f__law_cell) := by
  refine fn_okD (N := ["_law_script", "_law_k"]) (ps := ["_law_script", "_law_k"]) (k := 0) (den := d__law_cell) T.F__law_cell sc__law_cell fun cdv Ar outer s H E hr => ?_
  have nd := sc__law_cell.nd
  have hu := hr.units
  have hu1 : (Ar.deeper (envOfC "_law_cell" (defScope s__law_cell) s.heap.objs.size (A 1) cdv)).units + 65 < cLine := by have := hr.un; omega
  have tk : Takes (cxOf (L2.CX P w) P w K mg base ["_law_script", "_law_k"] "_law_cell" (defScope s__law_cell) (A 1) cdv Ar outer s H E) (fun cls d _ H => E cls d H) := takes_of rfl rfl rfl rfl
  have po : PassesOwn (model P w) (Ar.deeper (envOfC "_law_cell" (defScope s__law_cell) s.heap.objs.size (A 1) cdv)) (cxOf (L2.CX P w) P w K mg base ["_law_script", "_law_k"] "_law_cell" (defScope s__law_cell) (A 1) cdv Ar outer s H E).env (cxOf (L2.CX P w) P w K mg base ["_law_script", "_law_k"] "_law_cell" (defScope s__law_cell) (A 1) cdv Ar outer s H E).xe := passes_of rfl
  exact (dss_cons (ds_if (dt_cmp op_lt2 ok_lt (de_var (pv 1)).v (di_callBV call_len ok_len (by rfl) T.n_len (by decide +kernel) (dv_cons (de_var (pv 0)).v dv_nil)).v (nomark _)) (dss_one (ds_ret (do_ix (de_var (pv 0)).o (de_var (pv 1)).i).i.e)) dss_nil) (dss_one (ds_ret di_int.e)))
theorem ok__law_state (T : Txt K mg A FD) : FnOk P w K mg base (L2.CX P w) 2 (A 2) (FD 2) ["_law_script", "_law_left"] (spD K 2 f__law_state) := by
  have G__law_numbers : FnOk P w K mg base (L2.CX P w) 1 (A 0) (FD 0) ["_law_cell_here", "_law_many"] (spD K 2 f__law_numbers) := ok__law_numbers T
  have G__law_cell : FnOk P w K mg base (L2.CX P w) 1 (A 1) (FD 1) ["_law_script", "_law_k"] (spD K 2 f__law_cell) := ok__law_cell T
  refine fn_okD (N := ["_law_script", "_law_left", "_law_numbers_here", "_law_parted", "_law_k"]) (ps := ["_law_script", "_law_left"]) (k := 1) (den := d__law_state) T.F__law_state sc__law_state fun cdv Ar outer s H E hr => ?_
  have nd := sc__law_state.nd
  have hu := hr.units
  have hu1 : (Ar.deeper (envOfC "_law_state" (defScope s__law_state) s.heap.objs.size (A 2) cdv)).units + 65 < cLine := by have := hr.un; omega
  have tk : Takes (cxOf (L2.CX P w) P w K mg base ["_law_script", "_law_left", "_law_numbers_here", "_law_parted", "_law_k"] "_law_state" (defScope s__law_state) (A 2) cdv Ar outer s H E) (fun cls d _ H => E cls d H) := takes_of rfl rfl rfl rfl
  have po : PassesOwn (model P w) (Ar.deeper (envOfC "_law_state" (defScope s__law_state) s.heap.objs.size (A 2) cdv)) (cxOf (L2.CX P w) P w K mg base ["_law_script", "_law_left", "_law_numbers_here", "_law_parted", "_law_k"] "_law_state" (defScope s__law_state) (A 2) cdv Ar outer s H E).env (cxOf (L2.CX P w) P w K mg base ["_law_script", "_law_left", "_law_numbers_here", "_law_parted", "_law_k"] "_law_state" (defScope s__law_state) (A 2) cdv Ar outer s H E).xe := passes_of rfl
  exact (dss_cons (ds_set (i := 2) nd rfl (.inl rfl) (de_lst da_nil)) (dss_cons (ds_setLc (i := 3) (own := [("_law_k", 4)]) rfl nd rfl rfl (sw_true rfl rfl rfl (by decide +kernel)) (dpi_range1 (by rfl) T.n_range (da_cons di_int da_nil)) (blkOk_by (N := ["_law_script", "_law_left", "_law_numbers_here", "_law_parted", "_law_k"]) (sc := defScope s__law_state) (by decide +kernel)) (by decide) (by decide) (fun _ _ _ _ _ => (dg_name (i := 4) nd rfl (.inl rfl))) (fun _ _ _ _ _ => dts_nil) (fun _ _ _ _ _ => (de_call G__law_numbers takes0 (hr.mono (by decide)) (by rfl) T.f__law_numbers T.F__law_numbers.kp T.b__law_numbers (dar_cons (de_call G__law_cell takes0 (hr.mono (by decide)) (by rfl) T.f__law_cell T.F__law_cell.kp T.b__law_cell (dar_cons (de_var (pv 0)) (dar_cons (de_var (pv 4)) dar_nil))) (dar_cons di_int.e dar_nil))).i.e)) (dss_cons (ds_forP po rfl (dpi_range1 (by rfl) T.n_range (da_cons di_int da_nil)) (dg_name (i := 4) nd rfl (.inl rfl)) (dss_cons (ds_app (i := 2) (pv 2) (do_ix (do_ix (de_var (pv 3)).o di_int) (de_var (pv 4)).i).i.e (fun h => pe_bm PySem.F.plainAttrs_list PySem.F.slot_list_append PySem.F.type_list_append mt_append (pv 2) h)) (dss_cons (ds_app (i := 2) (pv 2) (do_ix (do_ix (de_var (pv 3)).o di_int) (de_var (pv 4)).i).i.e (fun h => pe_bm PySem.F.plainAttrs_list PySem.F.slot_list_append PySem.F.type_list_append mt_append (pv 2) h)) (dss_one (ds_app (i := 2) (pv 2) (do_ix (do_ix (de_var (pv 3)).o di_int) (de_var (pv 4)).i).i.e (fun h => pe_bm PySem.F.plainAttrs_list PySem.F.slot_list_append PySem.F.type_list_append mt_append (pv 2) h)))))) (dss_one (ds_ret (de_lst (da_cons (de_var (pv 2)).i (da_cons di_int (da_cons (de_var (pv 1)).i (da_cons (de_var (pv 0)).i da_nil))))))))))
theorem ok__law_next (T : Txt K mg A FD) : FnOk P w K mg base (L2.CX P w) 1 (A 3) (FD 3) ["_law_state_here", "_law_many"] (spD K 2 f__law_next) := by
  refine fn_okD (N := ["_law_state_here", "_law_many", "_law_at"]) (ps := ["_law_state_here", "_law_many"]) (k := 0) (den := d__law_next) T.F__law_next sc__law_next fun cdv Ar outer s H E hr => ?_
  have nd := sc__law_next.nd
  have hu := hr.units
  have hu1 : (Ar.deeper (envOfC "_law_next" (defScope s__law_next) s.heap.objs.size (A 3) cdv)).units + 65 < cLine := by have := hr.un; omega
  have tk : Takes (cxOf (L2.CX P w) P w K mg base ["_law_state_here", "_law_many", "_law_at"] "_law_next" (defScope s__law_next) (A 3) cdv Ar outer s H E) (fun cls d _ H => E cls d H) := takes_of rfl rfl rfl rfl
  have po : PassesOwn (model P w) (Ar.deeper (envOfC "_law_next" (defScope s__law_next) s.heap.objs.size (A 3) cdv)) (cxOf (L2.CX P w) P w K mg base ["_law_state_here", "_law_many", "_law_at"] "_law_next" (defScope s__law_next) (A 3) cdv Ar outer s H E).env (cxOf (L2.CX P w) P w K mg base ["_law_state_here", "_law_many", "_law_at"] "_law_next" (defScope s__law_next) (A 3) cdv Ar outer s H E).xe := passes_of rfl
  exact (dss_cons (ds_set (i := 2) nd rfl (.inl rfl) (do_ix (de_var (pv 0)).o di_int).i.e) (dss_cons (ds_stI (i := 0) (pv 0) (di_add (de_var (pv 2)).i di_int) di_int (fun h1 h2 => ps_asg h1 (pg_sub (pv 0) h2 set_list))) (dss_one (ds_ret (di_mod (di_callTV call_int1 ok_int (by rfl) T.n_int (by decide +kernel) (dv_cons (di_add (do_ix (do_ix (de_var (pv 0)).o di_int) (di_mod (de_var (pv 2)).i di_int)).i (di_mul di_int (di_div (de_var (pv 2)).i di_int))).v dv_nil)) (de_var (pv 1)).i).e))))
theorem ok__law_number (T : Txt K mg A FD) : FnOk P w K mg base (L2.CX P w) 2 (A 4) (FD 4) ["_law_state_here", "_law_place"] (spD K 2 f__law_number) := by
  have G__law_next : FnOk P w K mg base (L2.CX P w) 1 (A 3) (FD 3) ["_law_state_here", "_law_many"] (spD K 2 f__law_next) := ok__law_next T
  have G__law_cell : FnOk P w K mg base (L2.CX P w) 1 (A 1) (FD 1) ["_law_script", "_law_k"] (spD K 2 f__law_cell) := ok__law_cell T
  refine fn_okD (N := ["_law_state_here", "_law_place", "_law_pick", "_law_cell_here"]) (ps := ["_law_state_here", "_law_place"]) (k := 1) (den := d__law_number) T.F__law_number sc__law_number fun cdv Ar outer s H E hr => ?_
  have nd := sc__law_number.nd
  have hu := hr.units
  have hu1 : (Ar.deeper (envOfC "_law_number" (defScope s__law_number) s.heap.objs.size (A 4) cdv)).units + 65 < cLine := by have := hr.un; omega
  have tk : Takes (cxOf (L2.CX P w) P w K mg base ["_law_state_here", "_law_place", "_law_pick", "_law_cell_here"] "_law_number" (defScope s__law_number) (A 4) cdv Ar outer s H E) (fun cls d _ H => E cls d H) := takes_of rfl rfl rfl rfl
  have po : PassesOwn (model P w) (Ar.deeper (envOfC "_law_number" (defScope s__law_number) s.heap.objs.size (A 4) cdv)) (cxOf (L2.CX P w) P w K mg base ["_law_state_here", "_law_place", "_law_pick", "_law_cell_here"] "_law_number" (defScope s__law_number) (A 4) cdv Ar outer s H E).env (cxOf (L2.CX P w) P w K mg base ["_law_state_here", "_law_place", "_law_pick", "_law_cell_here"] "_law_number" (defScope s__law_number) (A 4) cdv Ar outer s H E).xe := passes_of rfl
  exact (dss_cons (ds_set (i := 2) nd rfl (.inl rfl) (de_call G__law_next tk (hr.mono (by decide)) (by rfl) T.f__law_next T.F__law_next.kp T.b__law_next (dar_cons (de_var (pv 0)) (dar_cons di_int.e dar_nil)))) (dss_cons (ds_set (i := 3) nd rfl (.inl rfl) (de_call G__law_cell tk (hr.mono (by decide)) (by rfl) T.f__law_cell T.F__law_cell.kp T.b__law_cell (dar_cons (do_ix (de_var (pv 0)).o di_int).i.e (dar_cons (de_var (pv 1)) dar_nil)))) (dss_cons (ds_if (dt_cmp op_lt2 ok_lt (de_var (pv 2)).v di_int.v (nomark _)) (dss_one (ds_ret (di_sub (di_mod (di_callTV call_int1 ok_int (by rfl) T.n_int (by decide +kernel) (dv_cons (de_var (pv 3)).v dv_nil)) di_int) di_int).e)) dss_nil) (dss_cons (ds_if (dt_cmp (op_eqD hu) ok_eq (de_var (pv 2)).v di_int.v (nomark _)) (dss_one (ds_ret (di_ixI (de_lst (da_cons (di_pow di_int di_int) (da_cons (di_neg (di_pow di_int di_int)) (da_cons (di_sub (di_pow di_int di_int) di_int) (da_cons di_int (da_cons di_int (da_cons (di_neg di_int) da_nil))))))).i (de_call G__law_next tk (hr.mono (by decide)) (by rfl) T.f__law_next T.F__law_next.kp T.b__law_next (dar_cons (de_var (pv 0)) (dar_cons di_int.e dar_nil))).i).e)) dss_nil) (dss_cons (ds_if (dt_cmp (op_eqD hu) ok_eq (de_var (pv 2)).v di_int.v (nomark _)) (dss_one (ds_ret (di_sub (di_mod (di_callTV call_int1 ok_int (by rfl) T.n_int (by decide +kernel) (dv_cons (de_var (pv 3)).v dv_nil)) di_int) di_int).e)) dss_nil) (dss_one (ds_ret (di_sub (di_mod (di_callTV call_int1 ok_int (by rfl) T.n_int (by decide +kernel) (dv_cons (de_var (pv 3)).v dv_nil)) (di_add (di_mul di_int (di_pow di_int di_int)) di_int)) (di_pow di_int di_int)).e)))))))
theorem ok__law_inside (T : Txt K mg A FD) : FnOk P w K mg base (L2.CX P w) 1 (A 5) (FD 5) ["_law_number_here"] (spD K 1 f__law_inside) := by
  refine fn_okD (N := ["_law_number_here"]) (ps := ["_law_number_here"]) (k := 0) (den := d__law_inside) T.F__law_inside sc__law_inside fun cdv Ar outer s H E hr => ?_
  have nd := sc__law_inside.nd
  have hu := hr.units
  have hu1 : (Ar.deeper (envOfC "_law_inside" (defScope s__law_inside) s.heap.objs.size (A 5) cdv)).units + 65 < cLine := by have := hr.un; omega
  have tk : Takes (cxOf (L2.CX P w) P w K mg base ["_law_number_here"] "_law_inside" (defScope s__law_inside) (A 5) cdv Ar outer s H E) (fun cls d _ H => E cls d H) := takes_of rfl rfl rfl rfl
  have po : PassesOwn (model P w) (Ar.deeper (envOfC "_law_inside" (defScope s__law_inside) s.heap.objs.size (A 5) cdv)) (cxOf (L2.CX P w) P w K mg base ["_law_number_here"] "_law_inside" (defScope s__law_inside) (A 5) cdv Ar outer s H E).env (cxOf (L2.CX P w) P w K mg base ["_law_number_here"] "_law_inside" (defScope s__law_inside) (A 5) cdv Ar outer s H E).xe := passes_of rfl
  exact (dss_one (ds_ret (di_and (di_cmp op_le ok_le (di_neg (di_pow di_int di_int)).v (de_var (pv 0)).v (nomark _)) (di_one (di_cmp op_le ok_le (de_var (pv 0)).v (di_pow di_int di_int).v (nomark _)))).e))
theorem ok__law_near (T : Txt K mg A FD) : FnOk P w K mg base (L2.CX P w) 2 (A 6) (FD 6) ["_law_state_here", "_law_a"] (spD K 2 f__law_near) := by
  have G__law_next : FnOk P w K mg base (L2.CX P w) 1 (A 3) (FD 3) ["_law_state_here", "_law_many"] (spD K 2 f__law_next) := ok__law_next T
  have G__law_inside : FnOk P w K mg base (L2.CX P w) 1 (A 5) (FD 5) ["_law_number_here"] (spD K 1 f__law_inside) := ok__law_inside T
  refine fn_okD (N := ["_law_state_here", "_law_a", "_law_edge", "_law_found", "_law_near_here"]) (ps := ["_law_state_here", "_law_a"]) (k := 1) (den := d__law_near) T.F__law_near sc__law_near fun cdv Ar outer s H E hr => ?_
  have nd := sc__law_near.nd
  have hu := hr.units
  have hu1 : (Ar.deeper (envOfC "_law_near" (defScope s__law_near) s.heap.objs.size (A 6) cdv)).units + 65 < cLine := by have := hr.un; omega
  have tk : Takes (cxOf (L2.CX P w) P w K mg base ["_law_state_here", "_law_a", "_law_edge", "_law_found", "_law_near_here"] "_law_near" (defScope s__law_near) (A 6) cdv Ar outer s H E) (fun cls d _ H => E cls d H) := takes_of rfl rfl rfl rfl
  have po : PassesOwn (model P w) (Ar.deeper (envOfC "_law_near" (defScope s__law_near) s.heap.objs.size (A 6) cdv)) (cxOf (L2.CX P w) P w K mg base ["_law_state_here", "_law_a", "_law_edge", "_law_found", "_law_near_here"] "_law_near" (defScope s__law_near) (A 6) cdv Ar outer s H E).env (cxOf (L2.CX P w) P w K mg base ["_law_state_here", "_law_a", "_law_edge", "_law_found", "_law_near_here"] "_law_near" (defScope s__law_near) (A 6) cdv Ar outer s H E).xe := passes_of rfl
  exact (dss_cons (ds_set (i := 2) nd rfl (.inl rfl) (di_ixI (de_lst (da_cons (di_pow di_int di_int) (da_cons (di_add (di_pow di_int di_int) di_int) (da_cons (di_neg (di_pow di_int di_int)) (da_cons (di_sub (di_neg (di_pow di_int di_int)) di_int) da_nil))))).i (de_call G__law_next tk (hr.mono (by decide)) (by rfl) T.f__law_next T.F__law_next.kp T.b__law_next (dar_cons (de_var (pv 0)) (dar_cons di_int.e dar_nil))).i).e) (dss_cons (ds_set (i := 3) nd rfl (.inl rfl) (de_lst (da_cons (di_sub (de_var (pv 2)).i (de_var (pv 1)).i) (da_cons (di_sub (de_var (pv 1)).i (de_var (pv 2)).i) da_nil)))) (dss_cons (ds_if (dt_cmp (op_neD hu) ok_ne (de_var (pv 1)).v di_int.v (nomark _)) (dss_cons (ds_app (i := 3) (pv 3) (di_div (de_var (pv 2)).i (de_var (pv 1)).i).e (fun h => pe_bm PySem.F.plainAttrs_list PySem.F.slot_list_append PySem.F.type_list_append mt_append (pv 3) h)) (dss_one (ds_app (i := 3) (pv 3) (di_add (di_div (de_var (pv 2)).i (de_var (pv 1)).i) di_int).e (fun h => pe_bm PySem.F.plainAttrs_list PySem.F.slot_list_append PySem.F.type_list_append mt_append (pv 3) h)))) dss_nil) (dss_cons (ds_set (i := 4) nd rfl (.inl rfl) (di_ixI (de_var (pv 3)).i (de_call G__law_next tk (hr.mono (by decide)) (by rfl) T.f__law_next T.F__law_next.kp T.b__law_next (dar_cons (de_var (pv 0)) (dar_cons (di_callBV call_len ok_len (by rfl) T.n_len (by decide +kernel) (dv_cons (de_var (pv 3)).v dv_nil)).e dar_nil))).i).e) (dss_cons (ds_if (dt_tru (de_call G__law_inside tk (hr.mono (by decide)) (by rfl) T.f__law_inside T.F__law_inside.kp T.b__law_inside (dar_cons (de_var (pv 4)) dar_nil)).v) (dss_one (ds_ret (de_var (pv 4)))) dss_nil) (dss_one (ds_ret (de_var (pv 1)))))))))
theorem ok__law_is_integer (T : Txt K mg A FD) : FnOk P w K mg base (L2.CX P w) 1 (A 7) (FD 7) ["_law_value"] (spD K 1 f__law_is_integer) := by
  refine fn_okD (N := ["_law_value"]) (ps := ["_law_value"]) (k := 0) (den := d__law_is_integer) T.F__law_is_integer sc__law_is_integer fun cdv Ar outer s H E hr => ?_
  have nd := sc__law_is_integer.nd
  have hu := hr.units
  have hu1 : (Ar.deeper (envOfC "_law_is_integer" (defScope s__law_is_integer) s.heap.objs.size (A 7) cdv)).units + 65 < cLine := by have := hr.un; omega
  have tk : Takes (cxOf (L2.CX P w) P w K mg base ["_law_value"] "_law_is_integer" (defScope s__law_is_integer) (A 7) cdv Ar outer s H E) (fun cls d _ H => E cls d H) := takes_of rfl rfl rfl rfl
  have po : PassesOwn (model P w) (Ar.deeper (envOfC "_law_is_integer" (defScope s__law_is_integer) s.heap.objs.size (A 7) cdv)) (cxOf (L2.CX P w) P w K mg base ["_law_value"] "_law_is_integer" (defScope s__law_is_integer) (A 7) cdv Ar outer s H E).env (cxOf (L2.CX P w) P w K mg base ["_law_value"] "_law_is_integer" (defScope s__law_is_integer) (A 7) cdv Ar outer s H E).xe := passes_of rfl
  exact (dss_one (ds_ret (di_and (di_callBV call_isi ok_isi (by rfl) T.n_isinstance (by decide +kernel) (dv_cons (de_var (pv 0)).v (dv_cons (di_ty (by rfl) T.n_int (by decide +kernel)).v dv_nil))) (di_one (di_not (di_callBV call_isi ok_isi (by rfl) T.n_isinstance (by decide +kernel) (dv_cons (de_var (pv 0)).v (dv_cons (di_ty (by rfl) T.n_bool (by decide +kernel)).v dv_nil)))))).e))
theorem ok__law_same (T : Txt K mg A FD) : FnOk P w K mg base (L2.CX P w) 2 (A 8) (FD 8) ["_law_actual", "_law_ending", "_law_value"] (spD K 3 f__law_same) := by
  have G__law_is_integer : FnOk P w K mg base (L2.CX P w) 1 (A 7) (FD 7) ["_law_value"] (spD K 1 f__law_is_integer) := ok__law_is_integer T
  refine fn_okD (N := ["_law_actual", "_law_ending", "_law_value"]) (ps := ["_law_actual", "_law_ending", "_law_value"]) (k := 1) (den := d__law_same) T.F__law_same sc__law_same fun cdv Ar outer s H E hr => ?_
  have nd := sc__law_same.nd
  have hu := hr.units
  have hu1 : (Ar.deeper (envOfC "_law_same" (defScope s__law_same) s.heap.objs.size (A 8) cdv)).units + 65 < cLine := by have := hr.un; omega
  have tk : Takes (cxOf (L2.CX P w) P w K mg base ["_law_actual", "_law_ending", "_law_value"] "_law_same" (defScope s__law_same) (A 8) cdv Ar outer s H E) (fun cls d _ H => E cls d H) := takes_of rfl rfl rfl rfl
  have po : PassesOwn (model P w) (Ar.deeper (envOfC "_law_same" (defScope s__law_same) s.heap.objs.size (A 8) cdv)) (cxOf (L2.CX P w) P w K mg base ["_law_actual", "_law_ending", "_law_value"] "_law_same" (defScope s__law_same) (A 8) cdv Ar outer s H E).env (cxOf (L2.CX P w) P w K mg base ["_law_actual", "_law_ending", "_law_value"] "_law_same" (defScope s__law_same) (A 8) cdv Ar outer s H E).xe := passes_of rfl
  exact (dss_cons (ds_if (dw_or (dt_not (dt_tru (di_callBV call_isi ok_isi (by rfl) T.n_isinstance (by decide +kernel) (dv_cons (de_var (pv 0)).v (dv_cons (di_ty (by rfl) T.n_tuple (by decide +kernel)).v dv_nil))).v)) (dw_or (dt_cmp (op_neD hu) ok_ne (di_callBV call_len ok_len (by rfl) T.n_len (by decide +kernel) (dv_cons (de_var (pv 0)).v dv_nil)).v di_int.v (nomark _)) (dw_or (dt_not (dt_tru (di_callBV call_isi ok_isi (by rfl) T.n_isinstance (by decide +kernel) (dv_cons (do_ix (de_var (pv 0)).o di_int).v (dv_cons (di_ty (by rfl) T.n_str (by decide +kernel)).v dv_nil))).v)) (dw_or1 (dt_cmp (op_neD hu) ok_ne (do_ix (de_var (pv 0)).o di_int).v (de_var (pv 1)).v (nomark _)))))).t (dss_one (ds_ret di_bl.e)) dss_nil) (dss_cons (ds_if (dt_isN (de_var (pv 2)).v) (dss_one (ds_ret (di_isN (do_ix (de_var (pv 0)).o di_int).v).e)) dss_nil) (dss_cons (ds_if (dt_tru (di_callBV call_isi ok_isi (by rfl) T.n_isinstance (by decide +kernel) (dv_cons (de_var (pv 2)).v (dv_cons (di_ty (by rfl) T.n_bool (by decide +kernel)).v dv_nil))).v) (dss_one (ds_ret (di_and (di_callBV call_isi ok_isi (by rfl) T.n_isinstance (by decide +kernel) (dv_cons (do_ix (de_var (pv 0)).o di_int).v (dv_cons (di_ty (by rfl) T.n_bool (by decide +kernel)).v dv_nil))) (di_one (di_cmp (op_eqD hu) ok_eq (do_ix (de_var (pv 0)).o di_int).v (de_var (pv 2)).v (nomark _)))).e)) dss_nil) (dss_one (ds_ret (di_and (de_call G__law_is_integer tk (hr.mono (by decide)) (by rfl) T.f__law_is_integer T.F__law_is_integer.kp T.b__law_is_integer (dar_cons (do_ix (de_var (pv 0)).o di_int).i.e dar_nil)).i (di_one (di_cmp (op_eqD hu) ok_eq (do_ix (de_var (pv 0)).o di_int).v (de_var (pv 2)).v (nomark _)))).e)))))
theorem ok__law_counted (T : Txt K mg A FD) : FnOk P w K mg base (L2.CX P w) 3 (A 9) (FD 9) ["_law_actual", "_law_number_here"] (spD K 2 f__law_counted) := by
  have G__law_inside : FnOk P w K mg base (L2.CX P w) 1 (A 5) (FD 5) ["_law_number_here"] (spD K 1 f__law_inside) := ok__law_inside T
  have G__law_same : FnOk P w K mg base (L2.CX P w) 2 (A 8) (FD 8) ["_law_actual", "_law_ending", "_law_value"] (spD K 3 f__law_same) := ok__law_same T
  refine fn_okD (N := ["_law_actual", "_law_number_here"]) (ps := ["_law_actual", "_law_number_here"]) (k := 2) (den := d__law_counted) T.F__law_counted sc__law_counted fun cdv Ar outer s H E hr => ?_
  have nd := sc__law_counted.nd
  have hu := hr.units
  have hu1 : (Ar.deeper (envOfC "_law_counted" (defScope s__law_counted) s.heap.objs.size (A 9) cdv)).units + 65 < cLine := by have := hr.un; omega
  have tk : Takes (cxOf (L2.CX P w) P w K mg base ["_law_actual", "_law_number_here"] "_law_counted" (defScope s__law_counted) (A 9) cdv Ar outer s H E) (fun cls d _ H => E cls d H) := takes_of rfl rfl rfl rfl
  have po : PassesOwn (model P w) (Ar.deeper (envOfC "_law_counted" (defScope s__law_counted) s.heap.objs.size (A 9) cdv)) (cxOf (L2.CX P w) P w K mg base ["_law_actual", "_law_number_here"] "_law_counted" (defScope s__law_counted) (A 9) cdv Ar outer s H E).env (cxOf (L2.CX P w) P w K mg base ["_law_actual", "_law_number_here"] "_law_counted" (defScope s__law_counted) (A 9) cdv Ar outer s H E).xe := passes_of rfl
  exact (dss_cons (ds_if (dt_tru (de_call G__law_inside tk (hr.mono (by decide)) (by rfl) T.f__law_inside T.F__law_inside.kp T.b__law_inside (dar_cons (de_var (pv 1)) dar_nil)).v) (dss_one (ds_ret (de_call G__law_same tk (hr.mono (by decide)) (by rfl) T.f__law_same T.F__law_same.kp T.b__law_same (dar_cons (de_var (pv 0)) (dar_cons di_str.e (dar_cons (de_var (pv 1)) dar_nil)))))) dss_nil) (dss_one (ds_ret (de_call G__law_same tk (hr.mono (by decide)) (by rfl) T.f__law_same T.F__law_same.kp T.b__law_same (dar_cons (de_var (pv 0)) (dar_cons di_str.e (dar_cons di_non.e dar_nil)))))))
theorem ok_checked (T : Txt K mg A FD) : FnOk P w K mg base (L2.CX P w) 1 (A 10) (FD 10) ["number"] (spD K 1 f_checked) := by
  refine fn_okD (N := ["number"]) (ps := ["number"]) (k := 0) (den := d_checked) T.F_checked sc_checked fun cdv Ar outer s H E hr => ?_
  have nd := sc_checked.nd
  have hu := hr.units
  have hu1 : (Ar.deeper (envOfC "checked" (defScope s_checked) s.heap.objs.size (A 10) cdv)).units + 65 < cLine := by have := hr.un; omega
  have tk : Takes (cxOf (L2.CX P w) P w K mg base ["number"] "checked" (defScope s_checked) (A 10) cdv Ar outer s H E) (fun cls d _ H => E cls d H) := takes_of rfl rfl rfl rfl
  have po : PassesOwn (model P w) (Ar.deeper (envOfC "checked" (defScope s_checked) s.heap.objs.size (A 10) cdv)) (cxOf (L2.CX P w) P w K mg base ["number"] "checked" (defScope s_checked) (A 10) cdv Ar outer s H E).env (cxOf (L2.CX P w) P w K mg base ["number"] "checked" (defScope s_checked) (A 10) cdv Ar outer s H E).xe := passes_of rfl
  exact (dss_cons (ds_if (dt_chain op_le op_le ok_le ok_le (di_neg (di_gI (by rfl) T.g_MOST)).v (de_var (pv 0)).v (di_gI (by rfl) T.g_MOST).v) (dss_one (ds_ret (di_tup (da_cons di_str (da_cons (de_var (pv 0)).i da_nil))).e)) dss_nil) (dss_one (ds_ret (di_tup (da_cons di_str (da_cons di_non da_nil))).e)))
theorem ok_compute (T : Txt K mg A FD) : FnOk P w K mg base (L2.CX P w) 2 (A 11) (FD 11) ["sign", "a", "b"] (spD K 3 f_compute) := by
  have G_checked : FnOk P w K mg base (L2.CX P w) 1 (A 10) (FD 10) ["number"] (spD K 1 f_checked) := ok_checked T
  refine fn_okD (N := ["sign", "a", "b"]) (ps := ["sign", "a", "b"]) (k := 1) (den := d_compute) T.F_compute sc_compute fun cdv Ar outer s H E hr => ?_
  have nd := sc_compute.nd
  have hu := hr.units
  have hu1 : (Ar.deeper (envOfC "compute" (defScope s_compute) s.heap.objs.size (A 11) cdv)).units + 65 < cLine := by have := hr.un; omega
  have tk : Takes (cxOf (L2.CX P w) P w K mg base ["sign", "a", "b"] "compute" (defScope s_compute) (A 11) cdv Ar outer s H E) (fun cls d _ H => E cls d H) := takes_of rfl rfl rfl rfl
  have po : PassesOwn (model P w) (Ar.deeper (envOfC "compute" (defScope s_compute) s.heap.objs.size (A 11) cdv)) (cxOf (L2.CX P w) P w K mg base ["sign", "a", "b"] "compute" (defScope s_compute) (A 11) cdv Ar outer s H E).env (cxOf (L2.CX P w) P w K mg base ["sign", "a", "b"] "compute" (defScope s_compute) (A 11) cdv Ar outer s H E).xe := passes_of rfl
  exact (dss_cons (ds_match (de_var (pv 0)).i (dmc_cons hu (dss_one (ds_ret (de_call G_checked tk (hr.mono (by decide)) (by rfl) T.f_checked T.F_checked.kp T.b_checked (dar_cons (di_add (de_var (pv 1)).i (de_var (pv 2)).i).e dar_nil)))) (dmc_cons hu (dss_one (ds_ret (de_call G_checked tk (hr.mono (by decide)) (by rfl) T.f_checked T.F_checked.kp T.b_checked (dar_cons (di_sub (de_var (pv 1)).i (de_var (pv 2)).i).e dar_nil)))) (dmc_cons hu (dss_one (ds_ret (de_call G_checked tk (hr.mono (by decide)) (by rfl) T.f_checked T.F_checked.kp T.b_checked (dar_cons (di_mul (de_var (pv 1)).i (de_var (pv 2)).i).e dar_nil)))) (dmc_cons hu (dss_one (ds_ret (di_tup (da_cons di_str (da_cons (di_cmp (op_eqD hu) ok_eq (de_var (pv 1)).v (de_var (pv 2)).v (nomark _)) da_nil))).e)) (dmc_cons hu (dss_one (ds_ret (di_tup (da_cons di_str (da_cons (di_cmp op_lt2 ok_lt (de_var (pv 1)).v (de_var (pv 2)).v (nomark _)) da_nil))).e)) (dmc_cons hu (dss_one (ds_ret (di_tup (da_cons di_str (da_cons (di_cmp op_le ok_le (de_var (pv 1)).v (de_var (pv 2)).v (nomark _)) da_nil))).e)) dmc_nil))))))) (dss_cons (ds_if (dt_cmp (op_eqD hu) ok_eq (de_var (pv 2)).v di_int.v (nomark _)) (dss_one (ds_ret (di_tup (da_cons di_str (da_cons di_non da_nil))).e)) dss_nil) (dss_cons (ds_if (dt_cmp (op_eqD hu) ok_eq (de_var (pv 0)).v di_str.v (nomark _)) (dss_one (ds_ret (de_call G_checked tk (hr.mono (by decide)) (by rfl) T.f_checked T.F_checked.kp T.b_checked (dar_cons (di_div (de_var (pv 1)).i (de_var (pv 2)).i).e dar_nil)))) dss_nil) (dss_one (ds_ret (de_call G_checked tk (hr.mono (by decide)) (by rfl) T.f_checked T.F_checked.kp T.b_checked (dar_cons (di_mod (de_var (pv 1)).i (de_var (pv 2)).i).e dar_nil)))))))
theorem ok__law_divided (T : Txt K mg A FD) : FnOk P w K mg base (L2.CX P w) 3 (A 12) (FD 12) ["_law_a", "_law_b"] (spD K 2 f__law_divided) := by
  have G_compute : FnOk P w K mg base (L2.CX P w) 2 (A 11) (FD 11) ["sign", "a", "b"] (spD K 3 f_compute) := ok_compute T
  have G__law_same : FnOk P w K mg base (L2.CX P w) 2 (A 8) (FD 8) ["_law_actual", "_law_ending", "_law_value"] (spD K 3 f__law_same) := ok__law_same T
  have G__law_is_integer : FnOk P w K mg base (L2.CX P w) 1 (A 7) (FD 7) ["_law_value"] (spD K 1 f__law_is_integer) := ok__law_is_integer T
  refine fn_okD (N := ["_law_a", "_law_b", "_law_whole", "_law_rest"]) (ps := ["_law_a", "_law_b"]) (k := 2) (den := d__law_divided) T.F__law_divided sc__law_divided fun cdv Ar outer s H E hr => ?_
  have nd := sc__law_divided.nd
  have hu := hr.units
  have hu1 : (Ar.deeper (envOfC "_law_divided" (defScope s__law_divided) s.heap.objs.size (A 12) cdv)).units + 65 < cLine := by have := hr.un; omega
  have tk : Takes (cxOf (L2.CX P w) P w K mg base ["_law_a", "_law_b", "_law_whole", "_law_rest"] "_law_divided" (defScope s__law_divided) (A 12) cdv Ar outer s H E) (fun cls d _ H => E cls d H) := takes_of rfl rfl rfl rfl
  have po : PassesOwn (model P w) (Ar.deeper (envOfC "_law_divided" (defScope s__law_divided) s.heap.objs.size (A 12) cdv)) (cxOf (L2.CX P w) P w K mg base ["_law_a", "_law_b", "_law_whole", "_law_rest"] "_law_divided" (defScope s__law_divided) (A 12) cdv Ar outer s H E).env (cxOf (L2.CX P w) P w K mg base ["_law_a", "_law_b", "_law_whole", "_law_rest"] "_law_divided" (defScope s__law_divided) (A 12) cdv Ar outer s H E).xe := passes_of rfl
  exact (dss_cons (ds_set (i := 2) nd rfl (.inl rfl) (de_call G_compute tk (hr.mono (by decide)) (by rfl) T.f_compute T.F_compute.kp T.b_compute (dar_cons di_str.e (dar_cons (de_var (pv 0)) (dar_cons (de_var (pv 1)) dar_nil))))) (dss_cons (ds_set (i := 3) nd rfl (.inl rfl) (de_call G_compute tk (hr.mono (by decide)) (by rfl) T.f_compute T.F_compute.kp T.b_compute (dar_cons di_str.e (dar_cons (de_var (pv 0)) (dar_cons (de_var (pv 1)) dar_nil))))) (dss_cons (ds_if (dt_cmp (op_eqD hu) ok_eq (de_var (pv 1)).v di_int.v (nomark _)) (dss_one (ds_ret (di_and (de_call G__law_same tk (hr.mono (by decide)) (by rfl) T.f__law_same T.F__law_same.kp T.b__law_same (dar_cons (de_var (pv 2)) (dar_cons di_str.e (dar_cons di_non.e dar_nil)))).i (di_one (de_call G__law_same tk (hr.mono (by decide)) (by rfl) T.f__law_same T.F__law_same.kp T.b__law_same (dar_cons (de_var (pv 3)) (dar_cons di_str.e (dar_cons di_non.e dar_nil)))).i)).e)) dss_nil) (dss_cons (ds_if (dw_or (dt_not (dt_tru (di_callBV call_isi ok_isi (by rfl) T.n_isinstance (by decide +kernel) (dv_cons (de_var (pv 2)).v (dv_cons (di_ty (by rfl) T.n_tuple (by decide +kernel)).v dv_nil))).v)) (dw_or (dt_not (dt_tru (di_callBV call_isi ok_isi (by rfl) T.n_isinstance (by decide +kernel) (dv_cons (de_var (pv 3)).v (dv_cons (di_ty (by rfl) T.n_tuple (by decide +kernel)).v dv_nil))).v)) (dw_or (dt_cmp (op_neD hu) ok_ne (di_callBV call_len ok_len (by rfl) T.n_len (by decide +kernel) (dv_cons (de_var (pv 2)).v dv_nil)).v di_int.v (nomark _)) (dw_or1 (dt_cmp (op_neD hu) ok_ne (di_callBV call_len ok_len (by rfl) T.n_len (by decide +kernel) (dv_cons (de_var (pv 3)).v dv_nil)).v di_int.v (nomark _)))))).t (dss_one (ds_ret di_bl.e)) dss_nil) (dss_cons (ds_if (dw_or (dt_cmp (op_neD hu) ok_ne (do_ix (de_var (pv 2)).o di_int).v di_str.v (nomark _)) (dw_or (dt_cmp (op_neD hu) ok_ne (do_ix (de_var (pv 3)).o di_int).v di_str.v (nomark _)) (dw_or (dt_not (dt_tru (de_call G__law_is_integer tk (hr.mono (by decide)) (by rfl) T.f__law_is_integer T.F__law_is_integer.kp T.b__law_is_integer (dar_cons (do_ix (de_var (pv 2)).o di_int).i.e dar_nil)).v)) (dw_or1 (dt_not (dt_tru (de_call G__law_is_integer tk (hr.mono (by decide)) (by rfl) T.f__law_is_integer T.F__law_is_integer.kp T.b__law_is_integer (dar_cons (do_ix (de_var (pv 3)).o di_int).i.e dar_nil)).v)))))).t (dss_one (ds_ret di_bl.e)) dss_nil) (dss_cons (ds_if (dt_cmp (op_neD hu) ok_ne (di_add (di_mul (do_ix (de_var (pv 2)).o di_int).i (de_var (pv 1)).i) (do_ix (de_var (pv 3)).o di_int).i).v (de_var (pv 0)).v (nomark _)) (dss_one (ds_ret di_bl.e)) dss_nil) (dss_cons (ds_if (dt_cmp op_gt ok_gt (de_var (pv 1)).v di_int.v (nomark _)) (dss_one (ds_ret (di_and (di_cmp op_le ok_le di_int.v (do_ix (de_var (pv 3)).o di_int).v (nomark _)) (di_one (di_cmp op_lt2 ok_lt (do_ix (de_var (pv 3)).o di_int).v (de_var (pv 1)).v (nomark _)))).e)) dss_nil) (dss_one (ds_ret (di_and (di_cmp op_lt2 ok_lt (de_var (pv 1)).v (do_ix (de_var (pv 3)).o di_int).v (nomark _)) (di_one (di_cmp op_le ok_le (do_ix (de_var (pv 3)).o di_int).v di_int.v (nomark _)))).e)))))))))
theorem ok_law (T : Txt K mg A FD) : FnOk P w K mg base (L2.CX P w) 4 (A 13) (FD 13) ["_law_script"] (spD K 1 f_law) := by
  have G__law_state : FnOk P w K mg base (L2.CX P w) 2 (A 2) (FD 2) ["_law_script", "_law_left"] (spD K 2 f__law_state) := ok__law_state T
  have G__law_number : FnOk P w K mg base (L2.CX P w) 2 (A 4) (FD 4) ["_law_state_here", "_law_place"] (spD K 2 f__law_number) := ok__law_number T
  have G__law_next : FnOk P w K mg base (L2.CX P w) 1 (A 3) (FD 3) ["_law_state_here", "_law_many"] (spD K 2 f__law_next) := ok__law_next T
  have G__law_near : FnOk P w K mg base (L2.CX P w) 2 (A 6) (FD 6) ["_law_state_here", "_law_a"] (spD K 2 f__law_near) := ok__law_near T
  have G__law_counted : FnOk P w K mg base (L2.CX P w) 3 (A 9) (FD 9) ["_law_actual", "_law_number_here"] (spD K 2 f__law_counted) := ok__law_counted T
  have G_compute : FnOk P w K mg base (L2.CX P w) 2 (A 11) (FD 11) ["sign", "a", "b"] (spD K 3 f_compute) := ok_compute T
  have G__law_divided : FnOk P w K mg base (L2.CX P w) 3 (A 12) (FD 12) ["_law_a", "_law_b"] (spD K 2 f__law_divided) := ok__law_divided T
  have G__law_same : FnOk P w K mg base (L2.CX P w) 2 (A 8) (FD 8) ["_law_actual", "_law_ending", "_law_value"] (spD K 3 f__law_same) := ok__law_same T
  refine fn_okD (N := ["_law_script", "_law_state_here", "_law_a", "_law_b"]) (ps := ["_law_script"]) (k := 3) (den := d_law) T.F_law sc_law fun cdv Ar outer s H E hr => ?_
  have nd := sc_law.nd
  have hu := hr.units
  have hu1 : (Ar.deeper (envOfC "law" (defScope s_law) s.heap.objs.size (A 13) cdv)).units + 65 < cLine := by have := hr.un; omega
  have tk : Takes (cxOf (L2.CX P w) P w K mg base ["_law_script", "_law_state_here", "_law_a", "_law_b"] "law" (defScope s_law) (A 13) cdv Ar outer s H E) (fun cls d _ H => E cls d H) := takes_of rfl rfl rfl rfl
  have po : PassesOwn (model P w) (Ar.deeper (envOfC "law" (defScope s_law) s.heap.objs.size (A 13) cdv)) (cxOf (L2.CX P w) P w K mg base ["_law_script", "_law_state_here", "_law_a", "_law_b"] "law" (defScope s_law) (A 13) cdv Ar outer s H E).env (cxOf (L2.CX P w) P w K mg base ["_law_script", "_law_state_here", "_law_a", "_law_b"] "law" (defScope s_law) (A 13) cdv Ar outer s H E).xe := passes_of rfl
  exact (dss_cons (ds_set (i := 1) nd rfl (.inl rfl) (de_call G__law_state tk (hr.mono (by decide)) (by rfl) T.f__law_state T.F__law_state.kp T.b__law_state (dar_cons (de_var (pv 0)) (dar_cons di_int.e dar_nil)))) (dss_cons (ds_set (i := 2) nd rfl (.inl rfl) (de_call G__law_number tk (hr.mono (by decide)) (by rfl) T.f__law_number T.F__law_number.kp T.b__law_number (dar_cons (de_var (pv 1)) (dar_cons di_int.e dar_nil)))) (dss_cons (ds_set (i := 3) nd rfl (.inl rfl) (de_call G__law_number tk (hr.mono (by decide)) (by rfl) T.f__law_number T.F__law_number.kp T.b__law_number (dar_cons (de_var (pv 1)) (dar_cons di_int.e dar_nil)))) (dss_cons (ds_if (dt_cmp (op_eqD hu) ok_eq (de_call G__law_next tk (hr.mono (by decide)) (by rfl) T.f__law_next T.F__law_next.kp T.b__law_next (dar_cons (de_var (pv 1)) (dar_cons di_int.e dar_nil))).v di_int.v (nomark _)) (dss_one (ds_set (i := 3) nd rfl (.inl rfl) (de_call G__law_near tk (hr.mono (by decide)) (by rfl) T.f__law_near T.F__law_near.kp T.b__law_near (dar_cons (de_var (pv 1)) (dar_cons (de_var (pv 2)) dar_nil))))) dss_nil) (dss_cons (ds_if (dt_cmp (op_eqD hu) ok_eq (de_call G__law_next tk (hr.mono (by decide)) (by rfl) T.f__law_next T.F__law_next.kp T.b__law_next (dar_cons (de_var (pv 1)) (dar_cons di_int.e dar_nil))).v di_int.v (nomark _)) (dss_one (ds_set (i := 3) nd rfl (.inl rfl) (de_var (pv 2)))) dss_nil) (dss_cons (ds_if (dw_or (dt_not (dt_tru (de_call G__law_counted tk (hr.mono (by decide)) (by rfl) T.f__law_counted T.F__law_counted.kp T.b__law_counted (dar_cons (de_call G_compute tk (hr.mono (by decide)) (by rfl) T.f_compute T.F_compute.kp T.b_compute (dar_cons di_str.e (dar_cons (de_var (pv 2)) (dar_cons (de_var (pv 3)) dar_nil)))) (dar_cons (di_add (de_var (pv 2)).i (de_var (pv 3)).i).e dar_nil))).v)) (dw_or1 (dt_not (dt_tru (de_call G__law_counted tk (hr.mono (by decide)) (by rfl) T.f__law_counted T.F__law_counted.kp T.b__law_counted (dar_cons (de_call G_compute tk (hr.mono (by decide)) (by rfl) T.f_compute T.F_compute.kp T.b_compute (dar_cons di_str.e (dar_cons (de_var (pv 2)) (dar_cons (de_var (pv 3)) dar_nil)))) (dar_cons (di_sub (de_var (pv 2)).i (de_var (pv 3)).i).e dar_nil))).v)))).t (dss_one (ds_ret di_bl.e)) dss_nil) (dss_cons (ds_if (dw_or (dt_not (dt_tru (de_call G__law_counted tk (hr.mono (by decide)) (by rfl) T.f__law_counted T.F__law_counted.kp T.b__law_counted (dar_cons (de_call G_compute tk (hr.mono (by decide)) (by rfl) T.f_compute T.F_compute.kp T.b_compute (dar_cons di_str.e (dar_cons (de_var (pv 2)) (dar_cons (de_var (pv 3)) dar_nil)))) (dar_cons (di_mul (de_var (pv 2)).i (de_var (pv 3)).i).e dar_nil))).v)) (dw_or1 (dt_not (dt_tru (de_call G__law_divided tk (hr.mono (by decide)) (by rfl) T.f__law_divided T.F__law_divided.kp T.b__law_divided (dar_cons (de_var (pv 2)) (dar_cons (de_var (pv 3)) dar_nil))).v)))).t (dss_one (ds_ret di_bl.e)) dss_nil) (dss_cons (ds_if (dw_or (dt_not (dt_tru (de_call G__law_same tk (hr.mono (by decide)) (by rfl) T.f__law_same T.F__law_same.kp T.b__law_same (dar_cons (de_call G_compute tk (hr.mono (by decide)) (by rfl) T.f_compute T.F_compute.kp T.b_compute (dar_cons di_str.e (dar_cons (de_var (pv 2)) (dar_cons (de_var (pv 3)) dar_nil)))) (dar_cons di_str.e (dar_cons (di_cmp (op_eqD hu) ok_eq (de_var (pv 2)).v (de_var (pv 3)).v (nomark _)).e dar_nil)))).v)) (dw_or1 (dt_not (dt_tru (de_call G__law_same tk (hr.mono (by decide)) (by rfl) T.f__law_same T.F__law_same.kp T.b__law_same (dar_cons (de_call G_compute tk (hr.mono (by decide)) (by rfl) T.f_compute T.F_compute.kp T.b_compute (dar_cons di_str.e (dar_cons (de_var (pv 2)) (dar_cons (de_var (pv 3)) dar_nil)))) (dar_cons di_str.e (dar_cons (di_cmp op_lt2 ok_lt (de_var (pv 2)).v (de_var (pv 3)).v (nomark _)).e dar_nil)))).v)))).t (dss_one (ds_ret di_bl.e)) dss_nil) (dss_one (ds_ret (de_call G__law_same tk (hr.mono (by decide)) (by rfl) T.f__law_same T.F__law_same.kp T.b__law_same (dar_cons (de_call G_compute tk (hr.mono (by decide)) (by rfl) T.f_compute T.F_compute.kp T.b_compute (dar_cons di_str.e (dar_cons (de_var (pv 2)) (dar_cons (de_var (pv 3)) dar_nil)))) (dar_cons di_str.e (dar_cons (di_cmp op_le ok_le (de_var (pv 2)).v (de_var (pv 3)).v (nomark _)).e dar_nil))))))))))))))
end
theorem all_mk {l : PySem.W.OpenLaw} {w : World} {K : PySem.W.Frag} {h : Heap} {mg : Str → Option Value} {fa : Addr} (X : K.In h) (G : h.Ns mainGlobals mg) (hfa : mg "law" = some (.ref fa))
    {a0 a1 a2 a3 a4 a5 a6 a7 a8 a9 a10 a11 a12 a13 : Addr} {od0 an0 od1 an1 od2 an2 od3 an3 od4 an4 od5 an5 od6 an6 od7 an7 od8 an8 od9 an9 od10 an10 od11 an11 od12 an12 od13 an13 : Option Addr} {sl0 sl1 sl2 sl3 sl4 sl5 sl6 sl7 sl8 sl9 sl10 sl11 sl12 sl13 : Array (Option Value)} {oc0 kV0 dc0 pm0 cd0 ct0 oc1 kV1 dc1 pm1 cd1 ct1 oc2 kV2 dc2 pm2 cd2 ct2 oc3 kV3 dc3 pm3 cd3 ct3 oc4 kV4 dc4 pm4 cd4 ct4 oc5 kV5 dc5 pm5 cd5 ct5 oc6 kV6 dc6 pm6 cd6 ct6 oc7 kV7 dc7 pm7 cd7 ct7 oc8 kV8 dc8 pm8 cd8 ct8 oc9 kV9 dc9 pm9 cd9 ct9 oc10 kV10 dc10 pm10 cd10 ct10 oc11 kV11 dc11 pm11 cd11 ct11 oc12 kV12 dc12 pm12 cd12 ct12 oc13 kV13 dc13 pm13 cd13 ct13 : Value}
    (q0 : PySem.W.nsIn K mainGlobals "_law_numbers" = some (some (.ref a0))) (l0 : K.lookup a0 = some ⟨oc0, od0, .func (PySem.W.fnOf "_law_numbers" "_law_numbers" (defArgs s__law_numbers) (defBody s__law_numbers) (defScope s__law_numbers) .none kV0 dc0 pm0 an0 cd0 ct0), sl0⟩) (c0 : PySem.W.codeIn K cd0 "_law_numbers" = true) (k0 : PySem.W.keepIn K (.ref a0) = true)
    (q1 : PySem.W.nsIn K mainGlobals "_law_cell" = some (some (.ref a1))) (l1 : K.lookup a1 = some ⟨oc1, od1, .func (PySem.W.fnOf "_law_cell" "_law_cell" (defArgs s__law_cell) (defBody s__law_cell) (defScope s__law_cell) .none kV1 dc1 pm1 an1 cd1 ct1), sl1⟩) (c1 : PySem.W.codeIn K cd1 "_law_cell" = true) (k1 : PySem.W.keepIn K (.ref a1) = true)
    (q2 : PySem.W.nsIn K mainGlobals "_law_state" = some (some (.ref a2))) (l2 : K.lookup a2 = some ⟨oc2, od2, .func (PySem.W.fnOf "_law_state" "_law_state" (defArgs s__law_state) (defBody s__law_state) (defScope s__law_state) .none kV2 dc2 pm2 an2 cd2 ct2), sl2⟩) (c2 : PySem.W.codeIn K cd2 "_law_state" = true) (k2 : PySem.W.keepIn K (.ref a2) = true)
    (q3 : PySem.W.nsIn K mainGlobals "_law_next" = some (some (.ref a3))) (l3 : K.lookup a3 = some ⟨oc3, od3, .func (PySem.W.fnOf "_law_next" "_law_next" (defArgs s__law_next) (defBody s__law_next) (defScope s__law_next) .none kV3 dc3 pm3 an3 cd3 ct3), sl3⟩) (c3 : PySem.W.codeIn K cd3 "_law_next" = true) (k3 : PySem.W.keepIn K (.ref a3) = true)
    (q4 : PySem.W.nsIn K mainGlobals "_law_number" = some (some (.ref a4))) (l4 : K.lookup a4 = some ⟨oc4, od4, .func (PySem.W.fnOf "_law_number" "_law_number" (defArgs s__law_number) (defBody s__law_number) (defScope s__law_number) .none kV4 dc4 pm4 an4 cd4 ct4), sl4⟩) (c4 : PySem.W.codeIn K cd4 "_law_number" = true) (k4 : PySem.W.keepIn K (.ref a4) = true)
    (q5 : PySem.W.nsIn K mainGlobals "_law_inside" = some (some (.ref a5))) (l5 : K.lookup a5 = some ⟨oc5, od5, .func (PySem.W.fnOf "_law_inside" "_law_inside" (defArgs s__law_inside) (defBody s__law_inside) (defScope s__law_inside) .none kV5 dc5 pm5 an5 cd5 ct5), sl5⟩) (c5 : PySem.W.codeIn K cd5 "_law_inside" = true) (k5 : PySem.W.keepIn K (.ref a5) = true)
    (q6 : PySem.W.nsIn K mainGlobals "_law_near" = some (some (.ref a6))) (l6 : K.lookup a6 = some ⟨oc6, od6, .func (PySem.W.fnOf "_law_near" "_law_near" (defArgs s__law_near) (defBody s__law_near) (defScope s__law_near) .none kV6 dc6 pm6 an6 cd6 ct6), sl6⟩) (c6 : PySem.W.codeIn K cd6 "_law_near" = true) (k6 : PySem.W.keepIn K (.ref a6) = true)
    (q7 : PySem.W.nsIn K mainGlobals "_law_is_integer" = some (some (.ref a7))) (l7 : K.lookup a7 = some ⟨oc7, od7, .func (PySem.W.fnOf "_law_is_integer" "_law_is_integer" (defArgs s__law_is_integer) (defBody s__law_is_integer) (defScope s__law_is_integer) .none kV7 dc7 pm7 an7 cd7 ct7), sl7⟩) (c7 : PySem.W.codeIn K cd7 "_law_is_integer" = true) (k7 : PySem.W.keepIn K (.ref a7) = true)
    (q8 : PySem.W.nsIn K mainGlobals "_law_same" = some (some (.ref a8))) (l8 : K.lookup a8 = some ⟨oc8, od8, .func (PySem.W.fnOf "_law_same" "_law_same" (defArgs s__law_same) (defBody s__law_same) (defScope s__law_same) .none kV8 dc8 pm8 an8 cd8 ct8), sl8⟩) (c8 : PySem.W.codeIn K cd8 "_law_same" = true) (k8 : PySem.W.keepIn K (.ref a8) = true)
    (q9 : PySem.W.nsIn K mainGlobals "_law_counted" = some (some (.ref a9))) (l9 : K.lookup a9 = some ⟨oc9, od9, .func (PySem.W.fnOf "_law_counted" "_law_counted" (defArgs s__law_counted) (defBody s__law_counted) (defScope s__law_counted) .none kV9 dc9 pm9 an9 cd9 ct9), sl9⟩) (c9 : PySem.W.codeIn K cd9 "_law_counted" = true) (k9 : PySem.W.keepIn K (.ref a9) = true)
    (q10 : PySem.W.nsIn K mainGlobals "checked" = some (some (.ref a10))) (l10 : K.lookup a10 = some ⟨oc10, od10, .func (PySem.W.fnOf "checked" "checked" (defArgs s_checked) (defBody s_checked) (defScope s_checked) .none kV10 dc10 pm10 an10 cd10 ct10), sl10⟩) (c10 : PySem.W.codeIn K cd10 "checked" = true) (k10 : PySem.W.keepIn K (.ref a10) = true)
    (q11 : PySem.W.nsIn K mainGlobals "compute" = some (some (.ref a11))) (l11 : K.lookup a11 = some ⟨oc11, od11, .func (PySem.W.fnOf "compute" "compute" (defArgs s_compute) (defBody s_compute) (defScope s_compute) .none kV11 dc11 pm11 an11 cd11 ct11), sl11⟩) (c11 : PySem.W.codeIn K cd11 "compute" = true) (k11 : PySem.W.keepIn K (.ref a11) = true)
    (q12 : PySem.W.nsIn K mainGlobals "_law_divided" = some (some (.ref a12))) (l12 : K.lookup a12 = some ⟨oc12, od12, .func (PySem.W.fnOf "_law_divided" "_law_divided" (defArgs s__law_divided) (defBody s__law_divided) (defScope s__law_divided) .none kV12 dc12 pm12 an12 cd12 ct12), sl12⟩) (c12 : PySem.W.codeIn K cd12 "_law_divided" = true) (k12 : PySem.W.keepIn K (.ref a12) = true)
    (q13 : PySem.W.nsIn K mainGlobals "law" = some (some (.ref a13))) (l13 : K.lookup a13 = some ⟨oc13, od13, .func (PySem.W.fnOf "law" "law" (defArgs s_law) (defBody s_law) (defScope s_law) .none kV13 dc13 pm13 an13 cd13 ct13), sl13⟩) (c13 : PySem.W.codeIn K cd13 "law" = true) (k13 : PySem.W.keepIn K (.ref a13) = true)
    {t0 : Tok} (z0 : PySem.W.nsIn K mainGlobals "MOST" = some (some (.int 1000000000000000 t0)))
    (z1 : PySem.W.nsIn K mainGlobals "abs" = some none)
    (z2 : PySem.W.nsIn K mainGlobals "bool" = some none)
    (z3 : PySem.W.nsIn K mainGlobals "int" = some none)
    (z4 : PySem.W.nsIn K mainGlobals "isinstance" = some none)
    (z5 : PySem.W.nsIn K mainGlobals "len" = some none)
    (z6 : PySem.W.nsIn K mainGlobals "range" = some none)
    (z7 : PySem.W.nsIn K mainGlobals "str" = some none)
    (z8 : PySem.W.nsIn K mainGlobals "tuple" = some none)
    : ∃ fd : FuncData, (∀ (s : Shared) (v : Value), BindsTo s fd ⟨[v], []⟩ [("_law_script", v)]) ∧ ∀ base : Heap, K.In base → base.Ns mainGlobals mg → FnOk l.prog w K mg base (L2.CX l.prog w) 4 fa fd ["_law_script"] (spD K 1 f_law) := by
  have e := hfa.symm.trans (PySem.W.mg_of X G q13)
  cases e
  have F0 := fun_mk (st := s__law_numbers) l0 c0 k0
  have b0 := F0.binds (ps := ["_law_cell_here", "_law_many"]) fun _ _ _ _ _ _ us hl => match us, hl with | [_, _], _ => rfl
  have F1 := fun_mk (st := s__law_cell) l1 c1 k1
  have b1 := F1.binds (ps := ["_law_script", "_law_k"]) fun _ _ _ _ _ _ us hl => match us, hl with | [_, _], _ => rfl
  have F2 := fun_mk (st := s__law_state) l2 c2 k2
  have b2 := F2.binds (ps := ["_law_script", "_law_left"]) fun _ _ _ _ _ _ us hl => match us, hl with | [_, _], _ => rfl
  have F3 := fun_mk (st := s__law_next) l3 c3 k3
  have b3 := F3.binds (ps := ["_law_state_here", "_law_many"]) fun _ _ _ _ _ _ us hl => match us, hl with | [_, _], _ => rfl
  have F4 := fun_mk (st := s__law_number) l4 c4 k4
  have b4 := F4.binds (ps := ["_law_state_here", "_law_place"]) fun _ _ _ _ _ _ us hl => match us, hl with | [_, _], _ => rfl
  have F5 := fun_mk (st := s__law_inside) l5 c5 k5
  have b5 := F5.binds (ps := ["_law_number_here"]) fun _ _ _ _ _ _ us hl => match us, hl with | [_], _ => rfl
  have F6 := fun_mk (st := s__law_near) l6 c6 k6
  have b6 := F6.binds (ps := ["_law_state_here", "_law_a"]) fun _ _ _ _ _ _ us hl => match us, hl with | [_, _], _ => rfl
  have F7 := fun_mk (st := s__law_is_integer) l7 c7 k7
  have b7 := F7.binds (ps := ["_law_value"]) fun _ _ _ _ _ _ us hl => match us, hl with | [_], _ => rfl
  have F8 := fun_mk (st := s__law_same) l8 c8 k8
  have b8 := F8.binds (ps := ["_law_actual", "_law_ending", "_law_value"]) fun _ _ _ _ _ _ us hl => match us, hl with | [_, _, _], _ => rfl
  have F9 := fun_mk (st := s__law_counted) l9 c9 k9
  have b9 := F9.binds (ps := ["_law_actual", "_law_number_here"]) fun _ _ _ _ _ _ us hl => match us, hl with | [_, _], _ => rfl
  have F10 := fun_mk (st := s_checked) l10 c10 k10
  have b10 := F10.binds (ps := ["number"]) fun _ _ _ _ _ _ us hl => match us, hl with | [_], _ => rfl
  have F11 := fun_mk (st := s_compute) l11 c11 k11
  have b11 := F11.binds (ps := ["sign", "a", "b"]) fun _ _ _ _ _ _ us hl => match us, hl with | [_, _, _], _ => rfl
  have F12 := fun_mk (st := s__law_divided) l12 c12 k12
  have b12 := F12.binds (ps := ["_law_a", "_law_b"]) fun _ _ _ _ _ _ us hl => match us, hl with | [_, _], _ => rfl
  have F13 := fun_mk (st := s_law) l13 c13 k13
  have T : Txt K mg (fun n => match n with | 0 => a0 | 1 => a1 | 2 => a2 | 3 => a3 | 4 => a4 | 5 => a5 | 6 => a6 | 7 => a7 | 8 => a8 | 9 => a9 | 10 => a10 | 11 => a11 | 12 => a12 | 13 => fa | _ => 0) (fun n => match n with | 0 => (PySem.W.fnOf "_law_numbers" "_law_numbers" (defArgs s__law_numbers) (defBody s__law_numbers) (defScope s__law_numbers) .none kV0 dc0 pm0 an0 cd0 ct0) | 1 => (PySem.W.fnOf "_law_cell" "_law_cell" (defArgs s__law_cell) (defBody s__law_cell) (defScope s__law_cell) .none kV1 dc1 pm1 an1 cd1 ct1) | 2 => (PySem.W.fnOf "_law_state" "_law_state" (defArgs s__law_state) (defBody s__law_state) (defScope s__law_state) .none kV2 dc2 pm2 an2 cd2 ct2) | 3 => (PySem.W.fnOf "_law_next" "_law_next" (defArgs s__law_next) (defBody s__law_next) (defScope s__law_next) .none kV3 dc3 pm3 an3 cd3 ct3) | 4 => (PySem.W.fnOf "_law_number" "_law_number" (defArgs s__law_number) (defBody s__law_number) (defScope s__law_number) .none kV4 dc4 pm4 an4 cd4 ct4) | 5 => (PySem.W.fnOf "_law_inside" "_law_inside" (defArgs s__law_inside) (defBody s__law_inside) (defScope s__law_inside) .none kV5 dc5 pm5 an5 cd5 ct5) | 6 => (PySem.W.fnOf "_law_near" "_law_near" (defArgs s__law_near) (defBody s__law_near) (defScope s__law_near) .none kV6 dc6 pm6 an6 cd6 ct6) | 7 => (PySem.W.fnOf "_law_is_integer" "_law_is_integer" (defArgs s__law_is_integer) (defBody s__law_is_integer) (defScope s__law_is_integer) .none kV7 dc7 pm7 an7 cd7 ct7) | 8 => (PySem.W.fnOf "_law_same" "_law_same" (defArgs s__law_same) (defBody s__law_same) (defScope s__law_same) .none kV8 dc8 pm8 an8 cd8 ct8) | 9 => (PySem.W.fnOf "_law_counted" "_law_counted" (defArgs s__law_counted) (defBody s__law_counted) (defScope s__law_counted) .none kV9 dc9 pm9 an9 cd9 ct9) | 10 => (PySem.W.fnOf "checked" "checked" (defArgs s_checked) (defBody s_checked) (defScope s_checked) .none kV10 dc10 pm10 an10 cd10 ct10) | 11 => (PySem.W.fnOf "compute" "compute" (defArgs s_compute) (defBody s_compute) (defScope s_compute) .none kV11 dc11 pm11 an11 cd11 ct11) | 12 => (PySem.W.fnOf "_law_divided" "_law_divided" (defArgs s__law_divided) (defBody s__law_divided) (defScope s__law_divided) .none kV12 dc12 pm12 an12 cd12 ct12) | 13 => (PySem.W.fnOf "law" "law" (defArgs s_law) (defBody s_law) (defScope s_law) .none kV13 dc13 pm13 an13 cd13 ct13) | _ => (PySem.W.fnOf "_law_numbers" "_law_numbers" (defArgs s__law_numbers) (defBody s__law_numbers) (defScope s__law_numbers) .none kV0 dc0 pm0 an0 cd0 ct0)) := ⟨F0, PySem.W.mg_of X G q0, b0, F1, PySem.W.mg_of X G q1, b1, F2, PySem.W.mg_of X G q2, b2, F3, PySem.W.mg_of X G q3, b3, F4, PySem.W.mg_of X G q4, b4, F5, PySem.W.mg_of X G q5, b5, F6, PySem.W.mg_of X G q6, b6, F7, PySem.W.mg_of X G q7, b7, F8, PySem.W.mg_of X G q8, b8, F9, PySem.W.mg_of X G q9, b9, F10, PySem.W.mg_of X G q10, b10, F11, PySem.W.mg_of X G q11, b11, F12, PySem.W.mg_of X G q12, b12, F13, ⟨_, PySem.W.mg_of X G z0⟩, PySem.W.mg_none_of X G z1, PySem.W.mg_none_of X G z2, PySem.W.mg_none_of X G z3, PySem.W.mg_none_of X G z4, PySem.W.mg_none_of X G z5, PySem.W.mg_none_of X G z6, PySem.W.mg_none_of X G z7, PySem.W.mg_none_of X G z8⟩
  exact ⟨(PySem.W.fnOf "law" "law" (defArgs s_law) (defBody s_law) (defScope s_law) .none kV13 dc13 pm13 an13 cd13 ct13), fun s v => .of_eq rfl, fun base _ _ => ok_law T⟩
end K21

namespace K21
open PySem DL
local macro_rules
  | `(tactic| trivial) => `(tactic| repeat' with_reducible first
    | refine DL.w_seq ?_ | refine DL.w_next ?_ | refine DL.w_if ?_ | refine DL.w_match ?_ | refine DL.pickP_of (by with_unfolding_all decide) ?_ | refine DL.sp_t ?_ | refine DL.sp_f (by with_unfolding_all decide) ?_ | refine DL.sp_n ?_ | refine DL.w_rt ?_ | refine DL.w_set ?_ | refine DL.w_drop ?_ | refine DL.w_app (by with_unfolding_all rfl) ?_ | (refine DL.appP_of (by with_unfolding_all rfl) (by first | assumption | with_unfolding_all exact Nat.le_of_ble_eq_true rfl | (simp only [List.length_append, List.length_map, List.length_cons, List.length_nil]; omega)) ?_; simp only [List.set_cons_succ, List.set_cons_zero, DL.O.flat]) | refine DL.w_forP ?_ | refine DL.w_sforv (by with_unfolding_all rfl) (by with_unfolding_all rfl) ?_ | refine DL.w_asg ?_ | refine DL.w_forV ?_ | refine DL.sqt_if ?_ | refine DL.sqt_rt ?_ | refine DL.sqt_next ?_
    | refine DL.w_frzI (by with_unfolding_all rfl) ?_ | refine DL.w_vwI (by with_unfolding_all rfl) ?_ | refine DL.w_owO (by with_unfolding_all rfl) ?_ | refine DL.w_varI (by with_unfolding_all rfl) ?_ | refine DL.w_varL (by with_unfolding_all rfl) ?_ | refine DL.w_varT (by with_unfolding_all rfl) ?_
    | refine DL.w_vwO (by with_unfolding_all rfl) ?_ | (refine DL.w_frzO (by with_unfolding_all rfl) ?_; simp only [List.set_cons_succ, List.set_cons_zero, DL.O.flat])
    | refine DL.w_pure ?_ | refine DL.w_dq ?_ | refine DL.w_imR ?_ | refine DL.w_imD ?_ | refine DL.w_fl ?_ | refine DL.w_bin ?_ | refine DL.w_cmp ?_ | refine DL.w_chain ?_ | refine DL.w_dtB ?_ | refine DL.w_dtru ?_
    | refine DL.w_dand ?_ | refine DL.w_dor ?_ | refine DL.w_dnot ?_ | refine DL.w_dandV ?_ | refine DL.w_dorV ?_ | refine DL.w_dnotV ?_ | refine DL.w_dif ?_
    | refine DL.w_dcons ?_ | refine DL.w_dconsV ?_ | refine DL.w_darcons ?_ | (refine DL.w_dtup ?_) | refine DL.w_dlst ?_ | refine DL.w_dixO ?_ | refine DL.w_sq ?_ | refine DL.w_rg ?_ | refine DL.w_rvO ?_ | refine DL.w_dslice ?_ | refine DL.w_dtmc ?_ | refine DL.w_dtupN ?_ | refine DL.w_dlist ?_ | refine DL.w_dtuple ?_ | refine DL.w_tupV ?_ | refine DL.w_listV ?_
    | refine DL.w_bind ?_ | refine DL.w_lift ?_ | refine DL.w_frz ?_ | refine DL.w_vw ?_ | refine DL.w_ow ?_
    | refine DL.frzP_im ?_ | refine DL.frzP_new ?_ | refine DL.vwP_im ?_ | refine DL.vwP_new ?_ | refine DL.vwP_bor ?_ | refine DL.owP_im ?_ | refine DL.owP_new ?_ | refine DL.owP_bor ?_
    | (refine DL.setP_im (by with_unfolding_all first | rfl | exact DL.fo_free rfl) ?_; simp only [List.set_cons_succ, List.set_cons_zero, DL.O.flat]) | (refine DL.setP_new (by with_unfolding_all first | rfl | exact DL.fo_free rfl) ?_; simp only [List.set_cons_succ, List.set_cons_zero, DL.O.flat])
    | refine DL.argP_im ?_ | refine DL.argP_new ?_ | refine DL.argP_bor ?_ | refine DL.rvP_im ?_ | refine DL.rvP_new ?_ | refine DL.mvP_im ?_ | refine DL.mvP_new ?_ | (refine DL.mvP_bor (by with_unfolding_all rfl) ?_; simp only [List.set_cons_succ, List.set_cons_zero]) | refine DL.itP_im ?_ | refine DL.itP_new ?_ | refine DL.tuP_lst ?_ | refine DL.blP_of ?_
    | refine DL.op_rng (by with_unfolding_all decide) ?_ | refine DL.op_rngG ?_ | refine DL.op_isiII ?_ | refine DL.op_isiIB ?_ | refine DL.op_isiTT ?_ | refine DL.op_isiLL ?_
    | refine DL.op_eq ?_ | refine DL.op_ne ?_ | refine DL.br_t ?_ | refine DL.br_f ?_ | refine DL.br_not ?_ | refine DL.br_eqT (by with_unfolding_all rfl) ?_ | refine DL.br_eqF (by with_unfolding_all rfl) ?_
    | refine DL.sz (by with_unfolding_all exact Nat.le_of_ble_eq_true rfl) ?_
    | refine DL.outI_im (by with_unfolding_all exact Nat.le_of_ble_eq_true rfl) ?_ | refine DL.outI_new (by with_unfolding_all exact Nat.le_of_ble_eq_true rfl) ?_ | refine DL.outI_bor (by with_unfolding_all exact Nat.le_of_ble_eq_true rfl) (by with_unfolding_all rfl) ?_
    | refine DL.op_mod (by with_unfolding_all decide) ?_ | refine DL.op_div (by with_unfolding_all decide) ?_ | refine DL.op_mul (DL.mul_r (by with_unfolding_all decide)) ?_ | refine DL.op_mul (DL.mul_l (by with_unfolding_all decide)) ?_ | refine DL.op_pow (by with_unfolding_all decide) ?_
    | refine DL.w_op (by with_unfolding_all rfl) ?_ | rfl)

theorem cell_ok (ns : List Int) (k : Int) (hk : 0 ≤ k) : FI f__law_cell [.scr (ns.map D.int), .int k] (· = .im (.int (ns.getD k.toNat 0))) := by
  refine w_fi ?_
  unfold d__law_cell
  show SW _ [some (false, .im _), some (false, .im _)] _
  trivial
  refine br_dec (fun h => ?_) (fun h => ?_)
  · rw [List.length_map] at h
    trivial
    refine w_op (z := .im (.int (ns.getD k.toNat 0))) (by show (L2.atI (ns.map D.int) k).map O.im = _; rw [atI_int hk h]; rfl) ?_
    trivial
  · rw [List.length_map] at h
    trivial
    rw [List.getD_eq_getElem?_getD, List.getElem?_eq_none (by omega)]
    rfl
def Sm (m : Nat) (ns : List Int) : Prop := ns.length = m ∧ ∀ n ∈ ns, 0 ≤ n ∧ n < 1000
theorem Sm.nil : Sm 0 [] := ⟨rfl, fun n h => by cases h⟩
theorem Sm.app {m : Nat} {ns : List Int} {n : Int} (h : Sm m ns) (h0 : 0 ≤ n) (h1 : n < 1000) : Sm (m + 1) (ns ++ [n]) := ⟨by rw [List.length_append, h.1]; rfl, fun x hx => by
  rcases List.mem_append.mp hx with z | z
  · exact h.2 x z
  · rw [List.mem_singleton] at z
    subst z
    exact ⟨h0, h1⟩⟩
theorem fm (a : Int) {b : Int} (h : 0 < b) : 0 ≤ a.fmod b ∧ a.fmod b < b := ⟨Int.fmod_nonneg_of_pos a h, Int.fmod_lt_of_pos a h⟩
theorem numbers_ok (c m : Int) (h0 : 0 ≤ m) (hm : m ≤ 1000) : FI f__law_numbers [.int c, .int m] fun r => ∃ ns, r = .new (.lst (ns.map fun n => O.im (.int n))) ∧ Sm m.toNat ns := by
  refine w_fi ?_
  unfold d__law_numbers
  show SW _ [some (false, .im _), some (false, .im _), none, none, none, none, none] _
  trivial
  refine ⟨⟨h0, by omega⟩, ?_⟩
  refine sw_range (fun i e => ∃ rest ns s5 s6, e = [some (false, .im (.int c)), some (false, .im (.int m)), some (false, .im (.int rest)), some (false, .im (.int (if c < 0 then -c else c))), some (false, .lst (ns.map fun n => O.im (.int n))), fo s5, fo s6] ∧ Sm i ns) ⟨_, [], none, none, rfl, Sm.nil⟩ ?_ ?_
  · rintro i e hi ⟨rest, ns, s5, s6, rfl, hs⟩
    refine ⟨_, if_pos (fo_free rfl), ?_⟩
    simp only [List.set_cons_succ, List.set_cons_zero]
    have fin : ∀ (rest k : Int) (s6 : Option O), 0 ≤ k → k < 1000 → ∃ rest' ns' s5 s6', [some (false, O.im (D.int c)), some (false, .im (.int m)), some (false, .im (.int rest)), some (false, .im (.int (if c < 0 then -c else c))), some (false, .lst (List.map (fun n => O.im (D.int n)) ns ++ [.im (.int k)])), some (false, .im (.int i)), fo s6] =
        [some (false, .im (.int c)), some (false, .im (.int m)), some (false, .im (.int rest')), some (false, .im (.int (if c < 0 then -c else c))), some (false, .lst (ns'.map fun n => O.im (.int n))), fo s5, fo s6'] ∧ Sm (i + 1) ns' := fun rest k s6 h0 h1 => ⟨rest, ns ++ [k], some (.im (.int i)), s6, by rw [List.map_append]; rfl, hs.app h0 h1⟩
    have len : (List.map (fun n => O.im (D.int n)) ns).length < sizeLine := by
      rw [List.length_map, hs.1]
      exact Nat.lt_of_lt_of_le (show i < 1000 by omega) (by decide)
    trivial
    refine br_dec (fun h => ?_) (fun h => ?_)
    · trivial
      refine br_dec (fun h => ?_) (fun h => ?_)
      · trivial
        have := fm rest (b := 1000) (by decide)
        exact fin _ _ _ this.1 this.2
      · trivial
        have := fm ((if c < 0 then -c else c) * 48271 + ↑i * 69621 + 11) (b := 2147483647) (by decide)
        refine op_mul (mul_l (by omega)) ?_
        trivial
        exact fin _ _ (some _) (fm _ (by decide)).1 (fm _ (by decide)).2
    · trivial
      have := fm ((if c < 0 then -c else c) * 48271 + ↑i * 69621 + 11) (b := 2147483647) (by decide)
      refine op_mul (mul_l (by omega)) ?_
      trivial
      exact fin _ _ (some _) (fm _ (by decide)).1 (fm _ (by decide)).2
  · rintro e ⟨rest, ns, s5, s6, rfl, hs⟩
    trivial
    exact ⟨ns, rfl, hs⟩

/-! ### the state that numbers are drawn from -/
def stO (ns xs : List Int) (at' left : Int) : O := .lst [.im (.lst (ns.map D.int)), .im (.int at'), .im (.int left), .im (.scr (xs.map D.int))]
theorem w_stI {e : DL.Env} {N : DL.Env → Prop} {R : Rv → DL.Env → Prop} {B C : DL.Env → Prop} {i : Nat} {de di : Den D} (p : EW false de e fun x e1 => OP (slotO e1 i) fun _ => EW false di e1 fun k e' => match lk e' i, k with
    | some (b, .lst os), .int j => ∃ n d0, L2.ixN os.length j = some n ∧ os[n]? = some (.im d0) ∧ N (e'.set i (some (b, .lst (os.set n (.im x)))))
    | _, _ => False) : SW (sstI i de di) e ⟨N, R, B, C⟩ := by
  unfold sstI
  rw [sw_bind]
  refine ew_imp p fun x e1 h => ?_
  obtain ⟨o, ho, h⟩ := h
  unfold SW
  dsimp only
  rw [ho]
  dsimp only
  refine sw_bind.mpr (ew_imp h fun k e' h => ?_)
  unfold SW
  cases hl : lk e' i with
  | none => rw [hl] at h; exact False.elim h
  | some y =>
    obtain ⟨b, y⟩ := y
    rw [hl] at h
    dsimp only
    rw [lk_some hl]
    cases y <;> cases k <;> first | exact False.elim h | skip
    obtain ⟨n, d0, h1, h2, h3⟩ := h
    dsimp only
    rw [h1]
    dsimp only
    rw [h2]
    exact ⟨_, rfl, h3⟩
theorem next_ok (ns xs : List Int) (at' left m : Int) (hn : ns.length = 120) (hr : ∀ n ∈ ns, 0 ≤ n) (ha : 0 ≤ at') (hm : 0 < m) :
    FO f__law_next [stO ns xs at' left, .im (.int m)] fun os' r => os' = [stO ns xs (at' + 1) left, .im (.int m)] ∧ ∃ v, r = .im (.int v) ∧ 0 ≤ v ∧ v < m := by
  refine w_fun ?_
  unfold d__law_next stO
  show SW _ [some (true, _), some (false, .im _), none] _
  trivial
  refine w_stI ?_
  trivial
  refine ⟨1, _, rfl, rfl, ?_⟩
  simp only [List.set_cons_succ, List.set_cons_zero]
  have h1 := fm at' (b := 120) (by decide)
  trivial
  refine op_li (ns := ns) (.inl rfl) h1.1 (by omega) ?_
  trivial
  refine op_mod (by omega) ?_
  trivial
  exact ⟨_, rfl, rfl, _, rfl, (fm _ hm).1, (fm _ hm).2⟩
theorem state_ok (xs : List Int) (left : Int) : FI f__law_state [.scr (xs.map D.int), .int left] fun r => ∃ ns, ns.length = 120 ∧ (∀ n ∈ ns, 0 ≤ n) ∧ r = .new (stO ns xs 0 left) := by
  refine w_fi ?_
  unfold d__law_state
  show SW _ [some (false, .im _), some (false, .im _), none, none, none] _
  trivial
  have pick : ∀ c : Int, ∃ ns : List Int, Sm 40 ns ∧ FI f__law_numbers [.int c, .int 40] (· = .new (.lst (ns.map fun n => O.im (.int n)))) := fun c => by
    obtain ⟨m, os', r, h1, h2, ns, rfl, hs⟩ := numbers_ok c 40 (by decide) (by decide)
    exact ⟨ns, hs, m, os', _, h1, h2, rfl⟩
  obtain ⟨n0, s0, f0⟩ := pick (xs.getD (Int.toNat 0) 0)
  obtain ⟨n1, s1, f1⟩ := pick (xs.getD (Int.toNat 1) 0)
  obtain ⟨n2, s2, f2⟩ := pick (xs.getD (Int.toNat 2) 0)
  refine w_compM [0, 1, 2] (fun k : Nat => .int k) (fun k => .im (.lst ((if k = 0 then n0 else if k = 1 then n1 else n2).map D.int))) ?_
  trivial
  refine ⟨rfl, ⟨rfl, rfl⟩, by decide, ?_, ?_⟩
  · intro k hk
    have hk : k = 0 ∨ k = 1 ∨ k = 2 := by simpa using hk
    refine w_op rfl ?_
    rcases hk with rfl | rfl | rfl
    · trivial
      refine w_callI (cell_ok xs 0 (by decide)) rfl ?_
      trivial
      refine w_callN f0 rfl ?_
      trivial
      exact ⟨by rw [flat_map]; rfl, rfl⟩
    · trivial
      refine w_callI (cell_ok xs 1 (by decide)) rfl ?_
      trivial
      refine w_callN f1 rfl ?_
      trivial
      exact ⟨by rw [flat_map]; rfl, rfl⟩
    · trivial
      refine w_callI (cell_ok xs 2 (by decide)) rfl ?_
      trivial
      refine w_callN f2 rfl ?_
      trivial
      exact ⟨by rw [flat_map]; rfl, rfl⟩
  rw [show List.map (fun k : Nat => O.im (.lst ((if k = 0 then n0 else if k = 1 then n1 else n2).map D.int))) [0, 1, 2] = [.im (.lst (n0.map D.int)), .im (.lst (n1.map D.int)), .im (.lst (n2.map D.int))] from rfl]
  trivial
  have l0 := s0.1
  have l1 := s1.1
  have l2 := s2.1
  have nn : ∀ {l : List Int} {i : Int}, Sm 40 l → 0 ≤ i → i < l.length → 0 ≤ l.getD i.toNat 0 := fun {l i} h h0 h1 => by
    rw [List.getD_eq_getElem?_getD, List.getElem?_eq_getElem (by omega)]
    exact (h.2 _ (List.getElem_mem _)).1
  refine sw_range (fun i e => ∃ ns s4, ns.length = 3 * i ∧ (∀ n ∈ ns, 0 ≤ n) ∧ e = [some (false, .im (.scr (xs.map D.int))), some (false, .im (.int left)), some (false, .lst (ns.map fun n => O.im (.int n))), some (false, .lst [.im (.lst (n0.map D.int)), .im (.lst (n1.map D.int)), .im (.lst (n2.map D.int))]), fo s4]) ⟨[], none, rfl, (fun n h => by cases h), rfl⟩ ?_ ?_
  · rintro i e hi ⟨ns, s4, hlen, hnn, rfl⟩
    have hi : i < 40 := hi
    have hsz : ns.length + 5 < sizeLine := Nat.lt_of_lt_of_le (show ns.length + 5 < 1000 by omega) (by decide)
    refine ⟨_, if_pos (fo_free rfl), ?_⟩
    simp only [List.set_cons_succ, List.set_cons_zero]
    trivial
    refine op_li (ns := n0) (.inl rfl) (by omega) (by omega) ?_
    trivial
    refine op_li (ns := n1) (.inl rfl) (by omega) (by omega) ?_
    trivial
    refine op_li (ns := n2) (.inl rfl) (by omega) (by omega) ?_
    trivial
    refine ⟨ns ++ [n0.getD (i : Int).toNat 0] ++ [n1.getD (i : Int).toNat 0] ++ [n2.getD (i : Int).toNat 0], some (.im (.int i)), by simp only [List.length_append, List.length_cons, List.length_nil]; omega, ?_, by simp only [List.map_append]; rfl⟩
    intro n hn
    simp only [List.mem_append, List.mem_singleton] at hn
    rcases hn with ((h | rfl) | rfl) | rfl
    · exact hnn n h
    · exact nn s0 (by omega) (by omega)
    · exact nn s1 (by omega) (by omega)
    · exact nn s2 (by omega) (by omega)
  · rintro e ⟨ns, s4, hlen, hnn, rfl⟩
    trivial
    exact ⟨ns, hlen, hnn, by rw [flats_int]; rfl⟩
end K21

namespace K21
open PySem DL
local macro_rules
  | `(tactic| trivial) => `(tactic| repeat' with_reducible first
    | refine DL.w_seq ?_ | refine DL.w_next ?_ | refine DL.w_if ?_ | refine DL.w_match ?_ | refine DL.pickP_of (by with_unfolding_all decide) ?_ | refine DL.sp_t ?_ | refine DL.sp_f (by with_unfolding_all decide) ?_ | refine DL.sp_n ?_ | refine DL.w_rt ?_ | refine DL.w_set ?_ | refine DL.w_drop ?_ | refine DL.w_app (by with_unfolding_all rfl) ?_ | (refine DL.appP_of (by with_unfolding_all rfl) (by first | assumption | with_unfolding_all exact Nat.le_of_ble_eq_true rfl | (simp only [List.length_append, List.length_map, List.length_cons, List.length_nil]; omega)) ?_; simp only [List.set_cons_succ, List.set_cons_zero, DL.O.flat]) | refine DL.w_forP ?_ | refine DL.w_sforv (by with_unfolding_all rfl) (by with_unfolding_all rfl) ?_ | refine DL.w_asg ?_ | refine DL.w_forV ?_ | refine DL.sqt_if ?_ | refine DL.sqt_rt ?_ | refine DL.sqt_next ?_
    | refine DL.w_frzI (by with_unfolding_all rfl) ?_ | refine DL.w_vwI (by with_unfolding_all rfl) ?_ | refine DL.w_owO (by with_unfolding_all rfl) ?_ | refine DL.w_varI (by with_unfolding_all rfl) ?_ | refine DL.w_varL (by with_unfolding_all rfl) ?_ | refine DL.w_varT (by with_unfolding_all rfl) ?_
    | refine DL.w_vwO (by with_unfolding_all rfl) ?_ | (refine DL.w_frzO (by with_unfolding_all rfl) ?_; simp only [List.set_cons_succ, List.set_cons_zero, DL.O.flat])
    | refine DL.w_pure ?_ | refine DL.w_dq ?_ | refine DL.w_imR ?_ | refine DL.w_imD ?_ | refine DL.w_fl ?_ | refine DL.w_bin ?_ | refine DL.w_cmp ?_ | refine DL.w_chain ?_ | refine DL.w_dtB ?_ | refine DL.w_dtru ?_
    | refine DL.w_dand ?_ | refine DL.w_dor ?_ | refine DL.w_dnot ?_ | refine DL.w_dandV ?_ | refine DL.w_dorV ?_ | refine DL.w_dnotV ?_ | refine DL.w_dif ?_
    | refine DL.w_dcons ?_ | refine DL.w_dconsV ?_ | refine DL.w_darcons ?_ | (refine DL.w_dtup ?_) | refine DL.w_dlst ?_ | refine DL.w_dixO ?_ | refine DL.w_sq ?_ | refine DL.w_rg ?_ | refine DL.w_rvO ?_ | refine DL.w_dslice ?_ | refine DL.w_dtmc ?_ | refine DL.w_dtupN ?_ | refine DL.w_dlist ?_ | refine DL.w_dtuple ?_ | refine DL.w_tupV ?_ | refine DL.w_listV ?_
    | refine DL.w_bind ?_ | refine DL.w_lift ?_ | refine DL.w_frz ?_ | refine DL.w_vw ?_ | refine DL.w_ow ?_
    | refine DL.frzP_im ?_ | refine DL.frzP_new ?_ | refine DL.vwP_im ?_ | refine DL.vwP_new ?_ | refine DL.vwP_bor ?_ | refine DL.owP_im ?_ | refine DL.owP_new ?_ | refine DL.owP_bor ?_
    | (refine DL.setP_im (by with_unfolding_all first | rfl | exact DL.fo_free rfl) ?_; simp only [List.set_cons_succ, List.set_cons_zero, DL.O.flat]) | (refine DL.setP_new (by with_unfolding_all first | rfl | exact DL.fo_free rfl) ?_; simp only [List.set_cons_succ, List.set_cons_zero, DL.O.flat])
    | refine DL.argP_im ?_ | refine DL.argP_new ?_ | refine DL.argP_bor ?_ | refine DL.rvP_im ?_ | refine DL.rvP_new ?_ | refine DL.mvP_im ?_ | refine DL.mvP_new ?_ | (refine DL.mvP_bor (by with_unfolding_all rfl) ?_; simp only [List.set_cons_succ, List.set_cons_zero]) | refine DL.itP_im ?_ | refine DL.itP_new ?_ | refine DL.tuP_lst ?_ | refine DL.blP_of ?_
    | refine DL.op_rng (by with_unfolding_all decide) ?_ | refine DL.op_rngG ?_ | refine DL.op_isiII ?_ | refine DL.op_isiIB ?_ | refine DL.op_isiTT ?_ | refine DL.op_isiLL ?_
    | refine DL.op_eq ?_ | refine DL.op_ne ?_ | refine DL.br_t ?_ | refine DL.br_f ?_ | refine DL.br_not ?_ | refine DL.br_eqT (by with_unfolding_all rfl) ?_ | refine DL.br_eqF (by with_unfolding_all rfl) ?_
    | refine DL.sz (by with_unfolding_all exact Nat.le_of_ble_eq_true rfl) ?_
    | refine DL.outI_im (by with_unfolding_all exact Nat.le_of_ble_eq_true rfl) ?_ | refine DL.outI_new (by with_unfolding_all exact Nat.le_of_ble_eq_true rfl) ?_ | refine DL.outI_bor (by with_unfolding_all exact Nat.le_of_ble_eq_true rfl) (by with_unfolding_all rfl) ?_
    | refine DL.op_mod (by with_unfolding_all decide) ?_ | refine DL.op_div (by with_unfolding_all decide) ?_ | refine DL.op_mul (DL.mul_r (by with_unfolding_all decide)) ?_ | refine DL.op_mul (DL.mul_l (by with_unfolding_all decide)) ?_ | refine DL.op_pow (by with_unfolding_all decide) ?_
    | refine DL.w_op (by with_unfolding_all rfl) ?_ | rfl)

theorem getD_all {P : Int → Prop} {l : List Int} {i : Nat} (h : ∀ x ∈ l, P x) (hi : i < l.length) : P (l.getD i 0) := by
  rw [List.getD_eq_getElem?_getD, List.getElem?_eq_getElem hi]
  exact h _ (List.getElem_mem _)
theorem inside_ok (n : Int) : FI f__law_inside [.int n] (· = .im (.bl (decide (-1000000000000000 ≤ n) && decide (n ≤ 1000000000000000)))) := by
  refine w_fi ?_
  unfold d__law_inside
  show SW _ [some (false, .im _)] _
  trivial
  refine br_dec (fun h => ?_) (fun h => ?_)
  · trivial
    rw [decide_eq_true (show -1000000000000000 ≤ n from h)]
    rfl
  · trivial
    rw [decide_eq_false (show ¬ -1000000000000000 ≤ n from h)]
    rfl
theorem number_ok (ns xs : List Int) (at' left pl : Int) (hn : ns.length = 120) (hr : ∀ n ∈ ns, 0 ≤ n) (ha : 0 ≤ at') (hp : 0 ≤ pl) :
    FO f__law_number [stO ns xs at' left, .im (.int pl)] fun os' r => ∃ at2, 0 ≤ at2 ∧ os' = [stO ns xs at2 left, .im (.int pl)] ∧ ∃ v, r = .im (.int v) ∧ -1000000000000000 ≤ v ∧ v ≤ 1000000000000000 := by
  refine w_fun ?_
  unfold d__law_number
  show SW _ [some (true, stO ns xs at' left), some (false, .im _), none, none] _
  trivial
  refine w_fo (next_ok ns xs at' left 9 hn hr ha (by decide)) rfl rfl (.inl rfl) ?_
  rintro os' r ⟨rfl, v, rfl, h0, h1⟩
  refine ⟨_, rfl, ?_⟩
  simp only [List.set_cons_succ, List.set_cons_zero, rvF]
  trivial
  refine w_callI (cell_ok xs pl hp) rfl ?_
  have m1 := fun x => fm x (b := 41) (by decide)
  have m2 := fun x => fm x (b := 70000001) (by decide)
  trivial
  refine br_dec (fun h => ?_) (fun h => ?_)
  · trivial
    have := m1 (xs.getD pl.toNat 0)
    exact ⟨_, rfl, _, (by omega : 0 ≤ at' + 1), rfl, _, rfl, by omega, by omega⟩
  · trivial
    refine br_dec (fun h => ?_) (fun h => ?_)
    · trivial
      refine w_fo (next_ok ns xs (at' + 1) left 6 hn hr (by omega) (by decide)) rfl rfl (.inl rfl) ?_
      rintro os' r ⟨rfl, w, rfl, hw0, hw1⟩
      refine ⟨_, rfl, ?_⟩
      simp only [List.set_cons_succ, List.set_cons_zero, rvF]
      trivial
      refine op_eli (ns := [1000000000000000, -1000000000000000, 1000000000000000 - 1, 0, 1, -1]) rfl hw0 (by simpa using hw1) ?_
      have := getD_all (P := fun v => -1000000000000000 ≤ v ∧ v ≤ 1000000000000000) (l := [1000000000000000, -1000000000000000, 1000000000000000 - 1, 0, 1, -1]) (i := w.toNat) (by simp) (by simp; omega)
      trivial
      exact ⟨_, rfl, _, (by omega : 0 ≤ at' + 1 + 1), rfl, _, rfl, this.1, this.2⟩
    · trivial
      refine br_dec (fun h => ?_) (fun h => ?_)
      · trivial
        have := m2 (xs.getD pl.toNat 0)
        exact ⟨_, rfl, _, (by omega : 0 ≤ at' + 1), rfl, _, rfl, by omega, by omega⟩
      · trivial
        have := fm (xs.getD pl.toNat 0) (b := 2 * 1000000000000000 + 1) (by decide)
        exact ⟨_, rfl, _, (by omega : 0 ≤ at' + 1), rfl, (xs.getD pl.toNat 0).fmod (2 * 1000000000000000 + 1) - 1000000000000000, rfl, by omega, by omega⟩
theorem near_ok (ns xs : List Int) (at' left a : Int) (hn : ns.length = 120) (hr : ∀ n ∈ ns, 0 ≤ n) (ha : 0 ≤ at') (hp : -1000000000000000 ≤ a ∧ a ≤ 1000000000000000) :
    FO f__law_near [stO ns xs at' left, .im (.int a)] fun os' r => ∃ at2, 0 ≤ at2 ∧ os' = [stO ns xs at2 left, .im (.int a)] ∧ ∃ v, r = .im (.int v) ∧ -1000000000000000 ≤ v ∧ v ≤ 1000000000000000 := by
  refine w_fun ?_
  unfold d__law_near
  show SW _ [some (true, stO ns xs at' left), some (false, .im _), none, none, none] _
  trivial
  refine w_fo (next_ok ns xs at' left 4 hn hr ha (by decide)) rfl rfl (.inl rfl) ?_
  rintro os' r ⟨rfl, w, rfl, hw0, hw1⟩
  refine ⟨_, rfl, ?_⟩
  simp only [List.set_cons_succ, List.set_cons_zero, rvF]
  trivial
  refine op_eli (ns := [1000000000000000, 1000000000000000 + 1, -1000000000000000, -1000000000000000 - 1]) rfl hw0 (by simpa using hw1) ?_
  generalize [1000000000000000, 1000000000000000 + 1, -1000000000000000, -1000000000000000 - 1].getD w.toNat 0 = edge
  have key : ∀ (l : List Int) (s2 : Slot), l ≠ [] → 
      SW (sseq (sset 4 (imR (dbin (frz (dvar 3)) (frz (dbind (darcons (dvar 0) (darcons (imR (dbind (dconsV (vw (dvar 3)) (dpure [])) fun vs => dlift (lenD vs))) (dpure []))) fun as => dfnA 2 f__law_next as)) elemD))) (sseq (sif (dtru (vw (dbind (darcons (dvar 4) (dpure [])) fun as => dfnA 1 f__law_inside as))) (srt (dvar 4)) snext) (srt (dvar 1))))
        [some (true, stO ns xs (at' + 1) left), some (false, .im (.int a)), s2, some (false, .lst (l.map fun n => O.im (.int n))), none]
        ⟨fun e => OP (outs [stO ns xs at' left, .im (.int a)] e) fun os' => ∃ at2, 0 ≤ at2 ∧ os' = [stO ns xs at2 left, .im (.int a)] ∧ ∃ v, FRv.im .non = .im (.int v) ∧ -1000000000000000 ≤ v ∧ v ≤ 1000000000000000, fun r e => outP [stO ns xs at' left, .im (.int a)] (fun os' r => ∃ at2, 0 ≤ at2 ∧ os' = [stO ns xs at2 left, .im (.int a)] ∧ ∃ v, r = .im (.int v) ∧ -1000000000000000 ≤ v ∧ v ≤ 1000000000000000) r e, fun _ => False, fun _ => False⟩ := by
    intro l s2 hl
    have hl : 0 < l.length := List.length_pos_iff.mpr hl
    trivial
    rw [flats_int]
    trivial
    rw [List.length_map]
    refine w_fo (next_ok ns xs (at' + 1) left l.length hn hr (by omega) (by omega)) rfl rfl (.inl rfl) ?_
    rintro os' r ⟨rfl, w, rfl, hw0, hw1⟩
    refine ⟨_, rfl, ?_⟩
    simp only [List.set_cons_succ, List.set_cons_zero, rvF]
    trivial
    refine op_eli (ns := l) rfl hw0 hw1 ?_
    generalize l.getD w.toNat 0 = v
    trivial
    refine w_callI (inside_ok v) rfl ?_
    trivial
    refine br_of (fun h => ?_) (fun h => ?_)
    · trivial
      simp only [Bool.and_eq_true, decide_eq_true_eq] at h
      exact ⟨_, rfl, _, (by omega : 0 ≤ at' + 1 + 1), rfl, _, rfl, h.1, h.2⟩
    · trivial
      exact ⟨_, rfl, _, (by omega : 0 ≤ at' + 1 + 1), rfl, _, rfl, hp.1, hp.2⟩
  trivial
  refine br_dec (fun h => ?_) (fun h => ?_)
  · refine w_next ?_
    exact key [edge - a, a - edge] _ (by simp)
  · refine w_cut (fun e' => e' = [some (true, stO ns xs (at' + 1) left), some (false, .im (.int a)), some (false, .im (.int edge)), some (false, .lst ([edge - a, a - edge, edge.fdiv a, edge.fdiv a + 1].map fun n => O.im (.int n))), none]) ?_ ?_
    · trivial
      refine op_div (log2_lt h (by omega)) ?_
      trivial
      refine op_div (log2_lt h (by omega)) ?_
      trivial
      rfl
    · rintro e rfl
      exact key [edge - a, a - edge, edge.fdiv a, edge.fdiv a + 1] _ (by simp)
theorem isint_ok (n : Int) : FI f__law_is_integer [.int n] (· = .im (.bl true)) := by
  refine w_fi ?_
  unfold d__law_is_integer
  show SW _ [some (false, .im _)] _
  trivial
  rfl
theorem seq_str {z : Str} (h : PyData.strOk z = true) : eqD (.str z) (.str z) = some true := by
  unfold eqD
  simp [D.py, SeqAt.shaped, PyData.canLay0, PyData.depth, h, PyData.eqv]
theorem sne_str {z : Str} (h : PyData.strOk z = true) : neD (.str z) (.str z) = some false := by
  unfold neD
  rw [seq_str h]
  rfl
theorem same_ok (z : Str) (d : D) (h : PyData.strOk z = true) (hd : (∃ n, d = .int n) ∨ (∃ b, d = .bl b) ∨ d = .non) : FI f__law_same [.tup [.str z, d], .str z, d] (· = .im (.bl true)) := by
  refine w_fi ?_
  unfold d__law_same
  show SW _ [some (false, .im _), some (false, .im _), some (false, .im _)] _
  trivial
  refine w_op (sne_str h) ?_
  rcases hd with ⟨n, rfl⟩ | ⟨b, rfl⟩ | rfl
  · trivial
    refine w_callI (isint_ok _) rfl ?_
    trivial
    show FRv.im (.bl (PyData.eqv (.int n) (.int n))) = _
    simp [PyData.eqv]
  · trivial
    simp [PyData.eqv]
  · trivial
    rfl
def chk (n : Int) : D := if -1000000000000000 ≤ n ∧ n ≤ 1000000000000000 then .tup [.str "value", .int n] else .tup [.str "range", .non]
theorem checked_ok (n : Int) : FI f_checked [.int n] (· = .im (chk n)) := by
  refine w_fi ?_
  unfold d_checked
  show SW _ [some (false, .im _)] _
  unfold chk
  trivial
  refine br_dec (fun h => ?_) (fun h => ?_)
  · trivial
    refine br_dec (fun h2 => ?_) (fun h2 => ?_)
    · rw [if_pos ⟨h, h2⟩]
      trivial
    · rw [if_neg fun z => h2 z.2]
      trivial
  · rw [if_neg fun z => h z.1]
    trivial
theorem str_ne (y z : Str) (hy : PyData.strOk y = true) (hz : PyData.strOk z = true) (h : y ≠ z) : eqD (.str y) (.str z) = some false := by
  unfold eqD
  simp [D.py, SeqAt.shaped, PyData.canLay0, PyData.depth, hy, hz, PyData.eqv, h]
theorem comp_add (a b : Int) : FI f_compute [.str "+", .int a, .int b] (· = .im (chk (a + b))) := by
  refine w_fi ?_
  unfold d_compute
  show SW _ [some (false, .im _), some (false, .im _), some (false, .im _)] _
  trivial
  refine w_callI (checked_ok _) rfl ?_
  trivial
theorem comp_sub (a b : Int) : FI f_compute [.str "-", .int a, .int b] (· = .im (chk (a - b))) := by
  refine w_fi ?_
  unfold d_compute
  show SW _ [some (false, .im _), some (false, .im _), some (false, .im _)] _
  trivial
  refine w_callI (checked_ok _) rfl ?_
  trivial
theorem comp_mul (a b : Int) (h : mulOk a b = true) : FI f_compute [.str "*", .int a, .int b] (· = .im (chk (a * b))) := by
  refine w_fi ?_
  unfold d_compute
  show SW _ [some (false, .im _), some (false, .im _), some (false, .im _)] _
  trivial
  refine op_mul h ?_
  trivial
  refine w_callI (checked_ok _) rfl ?_
  trivial
theorem comp_eq (a b : Int) : FI f_compute [.str "==", .int a, .int b] (· = .im (.tup [.str "value", .bl (decide (a = b))])) := by
  refine w_fi ?_
  unfold d_compute
  show SW _ [some (false, .im _), some (false, .im _), some (false, .im _)] _
  trivial
theorem comp_lt (a b : Int) : FI f_compute [.str "<", .int a, .int b] (· = .im (.tup [.str "value", .bl (decide (a < b))])) := by
  refine w_fi ?_
  unfold d_compute
  show SW _ [some (false, .im _), some (false, .im _), some (false, .im _)] _
  trivial
theorem comp_le (a b : Int) : FI f_compute [.str "<=", .int a, .int b] (· = .im (.tup [.str "value", .bl (decide (a ≤ b))])) := by
  refine w_fi ?_
  unfold d_compute
  show SW _ [some (false, .im _), some (false, .im _), some (false, .im _)] _
  trivial
theorem comp_div (a b : Int) (hb : -1000000000000000 ≤ b ∧ b ≤ 1000000000000000) : FI f_compute [.str "div", .int a, .int b] (· = .im (if b = 0 then .tup [.str "division", .non] else chk (a.fdiv b))) := by
  refine w_fi ?_
  unfold d_compute
  show SW _ [some (false, .im _), some (false, .im _), some (false, .im _)] _
  trivial
  refine br_dec (fun h => ?_) (fun h => ?_)
  · rw [if_pos h]
    trivial
  · rw [if_neg h]
    trivial
    refine op_div (log2_lt h (by omega)) ?_
    trivial
    refine w_callI (checked_ok _) rfl ?_
    trivial
theorem comp_mod (a b : Int) : FI f_compute [.str "mod", .int a, .int b] (· = .im (if b = 0 then .tup [.str "division", .non] else chk (a.fmod b))) := by
  refine w_fi ?_
  unfold d_compute
  show SW _ [some (false, .im _), some (false, .im _), some (false, .im _)] _
  trivial
  refine br_dec (fun h => ?_) (fun h => ?_)
  · rw [if_pos h]
    trivial
  · rw [if_neg h]
    trivial
    refine op_mod h ?_
    trivial
    refine w_callI (checked_ok _) rfl ?_
    trivial
theorem counted_ok (n : Int) : FI f__law_counted [chk n, .int n] (· = .im (.bl true)) := by
  refine w_fi ?_
  unfold d__law_counted
  show SW _ [some (false, .im _), some (false, .im _)] _
  trivial
  refine w_callI (inside_ok n) rfl ?_
  trivial
  refine br_of (fun h => ?_) (fun h => ?_)
  · simp only [Bool.and_eq_true, decide_eq_true_eq] at h
    rw [show chk n = .tup [.str "value", .int n] from if_pos h]
    trivial
    refine w_callI (same_ok "value" (.int n) (by decide +kernel) (.inl ⟨n, rfl⟩)) rfl ?_
    trivial
  · have h : ¬ (-1000000000000000 ≤ n ∧ n ≤ 1000000000000000) := by
      simp only [Bool.and_eq_false_iff, decide_eq_false_iff_not] at h
      omega
    rw [show chk n = .tup [.str "range", .non] from if_neg h]
    trivial
    refine w_callI (same_ok "range" .non (by decide +kernel) (.inr (.inr rfl))) rfl ?_
    trivial
end K21

namespace K21
open PySem DL
local macro_rules
  | `(tactic| trivial) => `(tactic| repeat' with_reducible first
    | refine DL.w_seq ?_ | refine DL.w_next ?_ | refine DL.w_if ?_ | refine DL.w_match ?_ | refine DL.pickP_of (by with_unfolding_all decide) ?_ | refine DL.sp_t ?_ | refine DL.sp_f (by with_unfolding_all decide) ?_ | refine DL.sp_n ?_ | refine DL.w_rt ?_ | refine DL.w_set ?_ | refine DL.w_drop ?_ | refine DL.w_app (by with_unfolding_all rfl) ?_ | (refine DL.appP_of (by with_unfolding_all rfl) (by first | assumption | with_unfolding_all exact Nat.le_of_ble_eq_true rfl | (simp only [List.length_append, List.length_map, List.length_cons, List.length_nil]; omega)) ?_; simp only [List.set_cons_succ, List.set_cons_zero, DL.O.flat]) | refine DL.w_forP ?_ | refine DL.w_sforv (by with_unfolding_all rfl) (by with_unfolding_all rfl) ?_ | refine DL.w_asg ?_ | refine DL.w_forV ?_ | refine DL.sqt_if ?_ | refine DL.sqt_rt ?_ | refine DL.sqt_next ?_
    | refine DL.w_frzI (by with_unfolding_all rfl) ?_ | refine DL.w_vwI (by with_unfolding_all rfl) ?_ | refine DL.w_owO (by with_unfolding_all rfl) ?_ | refine DL.w_varI (by with_unfolding_all rfl) ?_ | refine DL.w_varL (by with_unfolding_all rfl) ?_ | refine DL.w_varT (by with_unfolding_all rfl) ?_
    | refine DL.w_vwO (by with_unfolding_all rfl) ?_ | (refine DL.w_frzO (by with_unfolding_all rfl) ?_; simp only [List.set_cons_succ, List.set_cons_zero, DL.O.flat])
    | refine DL.w_pure ?_ | refine DL.w_dq ?_ | refine DL.w_imR ?_ | refine DL.w_imD ?_ | refine DL.w_fl ?_ | refine DL.w_bin ?_ | refine DL.w_cmp ?_ | refine DL.w_chain ?_ | refine DL.w_dtB ?_ | refine DL.w_dtru ?_
    | refine DL.w_dand ?_ | refine DL.w_dor ?_ | refine DL.w_dnot ?_ | refine DL.w_dandV ?_ | refine DL.w_dorV ?_ | refine DL.w_dnotV ?_ | refine DL.w_dif ?_
    | refine DL.w_dcons ?_ | refine DL.w_dconsV ?_ | refine DL.w_darcons ?_ | (refine DL.w_dtup ?_) | refine DL.w_dlst ?_ | refine DL.w_dixO ?_ | refine DL.w_sq ?_ | refine DL.w_rg ?_ | refine DL.w_rvO ?_ | refine DL.w_dslice ?_ | refine DL.w_dtmc ?_ | refine DL.w_dtupN ?_ | refine DL.w_dlist ?_ | refine DL.w_dtuple ?_ | refine DL.w_tupV ?_ | refine DL.w_listV ?_
    | refine DL.w_bind ?_ | refine DL.w_lift ?_ | refine DL.w_frz ?_ | refine DL.w_vw ?_ | refine DL.w_ow ?_
    | refine DL.frzP_im ?_ | refine DL.frzP_new ?_ | refine DL.vwP_im ?_ | refine DL.vwP_new ?_ | refine DL.vwP_bor ?_ | refine DL.owP_im ?_ | refine DL.owP_new ?_ | refine DL.owP_bor ?_
    | (refine DL.setP_im (by with_unfolding_all first | rfl | exact DL.fo_free rfl) ?_; simp only [List.set_cons_succ, List.set_cons_zero, DL.O.flat]) | (refine DL.setP_new (by with_unfolding_all first | rfl | exact DL.fo_free rfl) ?_; simp only [List.set_cons_succ, List.set_cons_zero, DL.O.flat])
    | refine DL.argP_im ?_ | refine DL.argP_new ?_ | refine DL.argP_bor ?_ | refine DL.rvP_im ?_ | refine DL.rvP_new ?_ | refine DL.mvP_im ?_ | refine DL.mvP_new ?_ | (refine DL.mvP_bor (by with_unfolding_all rfl) ?_; simp only [List.set_cons_succ, List.set_cons_zero]) | refine DL.itP_im ?_ | refine DL.itP_new ?_ | refine DL.tuP_lst ?_ | refine DL.blP_of ?_
    | refine DL.op_rng (by with_unfolding_all decide) ?_ | refine DL.op_rngG ?_ | refine DL.op_isiII ?_ | refine DL.op_isiIB ?_ | refine DL.op_isiTT ?_ | refine DL.op_isiLL ?_
    | refine DL.op_eq ?_ | refine DL.op_ne ?_ | refine DL.br_t ?_ | refine DL.br_f ?_ | refine DL.br_not ?_ | refine DL.br_eqT (by with_unfolding_all rfl) ?_ | refine DL.br_eqF (by with_unfolding_all rfl) ?_
    | refine DL.sz (by with_unfolding_all exact Nat.le_of_ble_eq_true rfl) ?_
    | refine DL.outI_im (by with_unfolding_all exact Nat.le_of_ble_eq_true rfl) ?_ | refine DL.outI_new (by with_unfolding_all exact Nat.le_of_ble_eq_true rfl) ?_ | refine DL.outI_bor (by with_unfolding_all exact Nat.le_of_ble_eq_true rfl) (by with_unfolding_all rfl) ?_
    | refine DL.op_mod (by with_unfolding_all decide) ?_ | refine DL.op_div (by with_unfolding_all decide) ?_ | refine DL.op_mul (DL.mul_r (by with_unfolding_all decide)) ?_ | refine DL.op_mul (DL.mul_l (by with_unfolding_all decide)) ?_ | refine DL.op_pow (by with_unfolding_all decide) ?_
    | refine DL.w_op (by with_unfolding_all rfl) ?_ | rfl)

theorem fdiv_in (a b : Int) (ha : -1000000000000000 ≤ a ∧ a ≤ 1000000000000000) (hb : b ≠ 0) : -1000000000000000 ≤ a.fdiv b ∧ a.fdiv b ≤ 1000000000000000 := by
  have key : ∀ a b : Int, 0 < b → -1000000000000000 ≤ a ∧ a ≤ 1000000000000000 → -1000000000000000 ≤ a.fdiv b ∧ a.fdiv b ≤ 1000000000000000 := by
    intro a b hb ha
    have h1 := Int.mul_fdiv_add_fmod a b
    have h2 := fm a hb
    generalize a.fdiv b = q at *
    generalize a.fmod b = r at *
    constructor
    · rcases Int.lt_or_le q 0 with h | h
      · have : b * (q + 1) ≤ 1 * (q + 1) := Int.mul_le_mul_of_nonpos_right (by omega) (by omega)
        rw [Int.mul_add, Int.mul_one] at this
        omega
      · omega
    · rcases Int.lt_or_le 0 q with h | h
      · have : 1 * q ≤ b * q := Int.mul_le_mul_of_nonneg_right (by omega) (by omega)
        omega
      · omega
  rcases Int.lt_or_le 0 b with h | h
  · exact key a b h ha
  · have := key (-a) (-b) (by omega) (by omega)
    rwa [Int.neg_fdiv_neg] at this
theorem fmod_neg (a b : Int) (hb : b < 0) : b < a.fmod b ∧ a.fmod b ≤ 0 := by
  have h1 := Int.mul_fdiv_add_fmod a b
  have h2 := Int.mul_fdiv_add_fmod (-a) (-b)
  have h3 := fm (-a) (b := -b) (by omega)
  rw [Int.neg_fdiv_neg, Int.neg_mul] at h2
  omega
theorem divided_ok (a b : Int) (ha : -1000000000000000 ≤ a ∧ a ≤ 1000000000000000) (hb : -1000000000000000 ≤ b ∧ b ≤ 1000000000000000) : FI f__law_divided [.int a, .int b] (· = .im (.bl true)) := by
  refine w_fi ?_
  unfold d__law_divided
  show SW _ [some (false, .im _), some (false, .im _), none, none] _
  trivial
  refine w_callI (comp_div a b hb) rfl ?_
  trivial
  refine w_callI (comp_mod a b) rfl ?_
  by_cases hz : b = 0
  · rw [if_pos hz, if_pos hz]
    trivial
    refine br_eqT (decide_eq_true hz) ?_
    trivial
    refine w_callI (same_ok "division" .non (by decide +kernel) (.inr (.inr rfl))) rfl ?_
    trivial
    refine w_callI (same_ok "division" .non (by decide +kernel) (.inr (.inr rfl))) rfl ?_
    trivial
  · have hm : -1000000000000000 ≤ a.fmod b ∧ a.fmod b ≤ 1000000000000000 := by
      rcases Int.lt_or_le 0 b with h | h
      · have := fm a h
        omega
      · have := fmod_neg a b (by omega)
        omega
    have hd := Int.mul_fdiv_add_fmod a b
    rw [Int.mul_comm] at hd
    rw [if_neg hz, if_neg hz, show chk (a.fdiv b) = .tup [.str "value", .int (a.fdiv b)] from if_pos (fdiv_in a b ha hz), show chk (a.fmod b) = .tup [.str "value", .int (a.fmod b)] from if_pos hm]
    trivial
    refine br_eqF (decide_eq_false hz) ?_
    trivial
    refine w_callI (isint_ok _) rfl ?_
    trivial
    refine w_callI (isint_ok _) rfl ?_
    trivial
    refine op_mul (mul_r (by omega)) ?_
    trivial
    refine br_eqT (decide_eq_true hd) ?_
    trivial
    refine br_dec (fun h => ?_) (fun h => ?_)
    · have h2 := fm a h
      trivial
      refine br_eqT (decide_eq_true h2.1) ?_
      trivial
      exact congrArg (fun x => FRv.im (D.bl x)) (decide_eq_true h2.2)
    · have h2 := fmod_neg a b (by omega)
      trivial
      refine br_eqT (decide_eq_true h2.1) ?_
      trivial
      exact congrArg (fun x => FRv.im (D.bl x)) (decide_eq_true h2.2)
theorem law_FI (xs : List Int) : FI f_law [.scr (xs.map D.int)] (· = .im (.bl true)) := by
  refine w_fi ?_
  unfold d_law
  show SW _ [some (false, .im _), none, none, none] _
  trivial
  refine w_call (state_ok xs 0) rfl fun r hr => ?_
  obtain ⟨ns, hn, hnn, rfl⟩ := hr
  dsimp only [rvF]
  trivial
  refine w_fo (number_ok ns xs 0 0 3 hn hnn (by decide) (by decide)) rfl rfl (.inl rfl) ?_
  rintro os' r ⟨t1, ht1, rfl, a, rfl, ha⟩
  refine ⟨_, rfl, ?_⟩
  simp only [List.set_cons_succ, List.set_cons_zero, rvF]
  trivial
  refine w_fo (number_ok ns xs t1 0 4 hn hnn ht1 (by decide)) rfl rfl (.inl rfl) ?_
  rintro os' r ⟨t2, ht2, rfl, b, rfl, hb⟩
  refine ⟨_, rfl, ?_⟩
  simp only [List.set_cons_succ, List.set_cons_zero, rvF]
  refine setP_im rfl ?_
  simp only [List.set_cons_succ, List.set_cons_zero]
  refine w_seqM (fun e => ∃ t b, 0 ≤ t ∧ (-1000000000000000 ≤ b ∧ b ≤ 1000000000000000) ∧ e = [some (false, .im (.scr (xs.map D.int))), some (false, stO ns xs t 0), some (false, .im (.int a)), some (false, .im (.int b))]) ?_ ?_
  · trivial
    refine w_fo (next_ok ns xs t2 0 4 hn hnn ht2 (by decide)) rfl rfl (.inl rfl) ?_
    rintro os' r ⟨rfl, v, rfl, h0, h1⟩
    refine ⟨_, rfl, ?_⟩
    simp only [List.set_cons_succ, List.set_cons_zero, rvF]
    trivial
    refine br_dec (fun h => ?_) (fun h => ?_)
    · trivial
      refine w_fo (near_ok ns xs (t2 + 1) 0 a hn hnn (by omega) ha) rfl rfl (.inl rfl) ?_
      rintro os' r ⟨t3, ht3, rfl, b2, rfl, hb2⟩
      refine ⟨_, rfl, ?_⟩
      simp only [List.set_cons_succ, List.set_cons_zero, rvF]
      trivial
      exact ⟨t3, b2, ht3, hb2, rfl⟩
    · trivial
      exact ⟨_, b, (by omega : 0 ≤ t2 + 1), hb, rfl⟩
  clear hb
  rintro e ⟨t4, b, ht4, hb, rfl⟩
  refine w_seqM (fun e => ∃ t b, 0 ≤ t ∧ (-1000000000000000 ≤ b ∧ b ≤ 1000000000000000) ∧ e = [some (false, .im (.scr (xs.map D.int))), some (false, stO ns xs t 0), some (false, .im (.int a)), some (false, .im (.int b))]) ?_ ?_
  · trivial
    refine w_fo (next_ok ns xs t4 0 8 hn hnn ht4 (by decide)) rfl rfl (.inl rfl) ?_
    rintro os' r ⟨rfl, v, rfl, h0, h1⟩
    refine ⟨_, rfl, ?_⟩
    simp only [List.set_cons_succ, List.set_cons_zero, rvF]
    trivial
    refine br_dec (fun h => ?_) (fun h => ?_)
    · trivial
      exact ⟨_, a, (by omega : 0 ≤ t4 + 1), ha, rfl⟩
    · trivial
      exact ⟨_, b, (by omega : 0 ≤ t4 + 1), hb, rfl⟩
  clear hb
  rintro e ⟨t5, b, ht5, hb, rfl⟩
  trivial
  refine w_callI (comp_add a b) rfl ?_
  trivial
  refine w_callI (counted_ok (a + b)) rfl ?_
  trivial
  refine w_callI (comp_sub a b) rfl ?_
  trivial
  refine w_callI (counted_ok (a - b)) rfl ?_
  have hm : mulOk a b = true := mul_r (by omega)
  trivial
  refine w_callI (comp_mul a b hm) rfl ?_
  trivial
  refine op_mul hm ?_
  trivial
  refine w_callI (counted_ok (a * b)) rfl ?_
  trivial
  refine w_callI (divided_ok a b ha hb) rfl ?_
  trivial
  refine w_callI (comp_eq a b) rfl ?_
  trivial
  refine w_callI (same_ok "value" (.bl (decide (a = b))) (by decide +kernel) (.inr (.inl ⟨_, rfl⟩))) rfl ?_
  trivial
  refine w_callI (comp_lt a b) rfl ?_
  trivial
  refine w_callI (same_ok "value" (.bl (decide (a < b))) (by decide +kernel) (.inr (.inl ⟨_, rfl⟩))) rfl ?_
  trivial
  refine w_callI (comp_le a b) rfl ?_
  trivial
  refine w_callI (same_ok "value" (.bl (decide (a ≤ b))) (by decide +kernel) (.inr (.inl ⟨_, rfl⟩))) rfl ?_
  trivial
theorem law_true (xs : List Int) (_ : xs.length ≤ 63) : ∃ m os, f_law [.im (.scr (xs.map D.int))] = some (.ok m os (.im (.bl true))) := by
  obtain ⟨m, os, r, h1, h2, h3⟩ := law_FI xs
  subst h3
  exact ⟨m, os, h1⟩
end K21

open PySem PySem.W PyProof.Rows

set_option maxRecDepth 100000 in
set_option maxHeartbeats 0 in
theorem PySem.Challenge.cw_keptcoin_k21_operators_holds : PySem.Challenge.rw_keptcoin_k21_operators.Holds := by
  w_on; o_law; k_head; (case hw => w_witness2)
  k_fill
  refine DL.walkD (l := PySem.Challenge.rw_keptcoin_k21_operators) (x := "_law_script") (f := K21.f_law) (k := 4) rfl rfl ⟨rfl, by decide, by decide⟩ (fun w h Y => PySem.W.kIn_of Y) K21.law_true ?F
  case F =>
    intro w mg fa h KX G hmg
    refine' K21.all_mk KX G hmg ?q0 ?l0 ?c0 ?k0 ?q1 ?l1 ?c1 ?k1 ?q2 ?l2 ?c2 ?k2 ?q3 ?l3 ?c3 ?k3 ?q4 ?l4 ?c4 ?k4 ?q5 ?l5 ?c5 ?k5 ?q6 ?l6 ?c6 ?k6 ?q7 ?l7 ?c7 ?k7 ?q8 ?l8 ?c8 ?k8 ?q9 ?l9 ?c9 ?k9 ?q10 ?l10 ?c10 ?k10 ?q11 ?l11 ?c11 ?k11 ?q12 ?l12 ?c12 ?k12 ?q13 ?l13 ?c13 ?k13 ?z0 ?z1 ?z2 ?z3 ?z4 ?z5 ?z6 ?z7 ?z8
    (case q0 => k_is)
    (case l0 => k_is)
    (case c0 => k_is)
    (case k0 => k_is)
    (case q1 => k_is)
    (case l1 => k_is)
    (case c1 => k_is)
    (case k1 => k_is)
    (case q2 => k_is)
    (case l2 => k_is)
    (case c2 => k_is)
    (case k2 => k_is)
    (case q3 => k_is)
    (case l3 => k_is)
    (case c3 => k_is)
    (case k3 => k_is)
    (case q4 => k_is)
    (case l4 => k_is)
    (case c4 => k_is)
    (case k4 => k_is)
    (case q5 => k_is)
    (case l5 => k_is)
    (case c5 => k_is)
    (case k5 => k_is)
    (case q6 => k_is)
    (case l6 => k_is)
    (case c6 => k_is)
    (case k6 => k_is)
    (case q7 => k_is)
    (case l7 => k_is)
    (case c7 => k_is)
    (case k7 => k_is)
    (case q8 => k_is)
    (case l8 => k_is)
    (case c8 => k_is)
    (case k8 => k_is)
    (case q9 => k_is)
    (case l9 => k_is)
    (case c9 => k_is)
    (case k9 => k_is)
    (case q10 => k_is)
    (case l10 => k_is)
    (case c10 => k_is)
    (case k10 => k_is)
    (case q11 => k_is)
    (case l11 => k_is)
    (case c11 => k_is)
    (case k11 => k_is)
    (case q12 => k_is)
    (case l12 => k_is)
    (case c12 => k_is)
    (case k12 => k_is)
    (case q13 => k_is)
    (case l13 => k_is)
    (case c13 => k_is)
    (case k13 => k_is)
    (case z0 => k_is)
    (case z1 => k_is)
    (case z2 => k_is)
    (case z3 => k_is)
    (case z4 => k_is)
    (case z5 => k_is)
    (case z6 => k_is)
    (case z7 => k_is)
    (case z8 => k_is)

