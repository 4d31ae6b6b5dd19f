import PyProof.Rows.All
import Wide.All
import OpenK.AllK
import Wide.FinOn
import HandS.ForMost
import HandS.ForExc
import HandS.Codes
import HandS.IsInst
import HandS.SortRule
import HandS.Deep
import HandS.ExcIs
import HandS.SortInts
import HandS.More
import HandS.Text
import HandS.NoneIn
import HandS.WordsDict
import HandS.Iter
import HandS.HotCalls
import HandS.Walk
import PySem.Challenge.RW_radixtrail_k12_whole_deeds
set_option Elab.async false
set_option linter.all false
set_option maxRecDepth 100000
set_option maxHeartbeats 4000000
namespace Rt
open PySem L2

/-! ### texts as lists of signs -/
abbrev Tx := List Nat
def S (l : Tx) : Str := ⟨l.toArray⟩
theorem S_cps (l : Tx) : (S l).cps.toList = l := by simp [S]
theorem S_of (x : Str) : S x.cps.toList = x := by cases x; simp [S]
theorem S_inj {a b : Tx} (h : S a = S b) : a = b := by
  have := congrArg (fun z : Str => z.cps.toList) h
  simpa [S_cps] using this
theorem S_eq {a b : Tx} : (S a = S b) ↔ a = b := ⟨S_inj, fun h => by rw [h]⟩
theorem S_len (l : Tx) : (S l).length = l.length := by simp [S, Str.length]
theorem S_app (a b : Tx) : S a ++ S b = S (a ++ b) := by
  show (⟨(S a).cps ++ (S b).cps⟩ : Str) = _
  simp [S]
def tx (s : String) : Tx := (Str.ofString s).cps.toList
theorem S_tx (s : String) : S (tx s) = Str.ofString s := S_of _
def cutL (l : Tx) (lo hi : Option Int) : Tx := (l.drop (HT.sIx l.length 0 lo)).take (HT.sIx l.length l.length hi - HT.sIx l.length 0 lo)
theorem S_cut (l : Tx) (lo hi : Option Int) : cutS (S l) lo hi = S (cutL l lo hi) := by
  show (⟨(((S l).cps.toList.drop (HT.sIx (S l).length 0 lo)).take (HT.sIx (S l).length (S l).length hi - HT.sIx (S l).length 0 lo)).toArray⟩ : Str) = _
  rw [S_cps, S_len]; rfl
theorem cutL_nn (l : Tx) (i j : Nat) : cutL l (some (i : Int)) (some (j : Int)) = (l.drop i).take (j - i) := by
  unfold cutL
  rw [HT.sIx_nat, HT.sIx_nat]
  by_cases h : i ≤ l.length
  · rw [Nat.min_eq_left h]
    by_cases h2 : j ≤ l.length
    · rw [Nat.min_eq_left h2]
    · rw [Nat.min_eq_right (by omega)]
      rw [List.take_of_length_le (by rw [List.length_drop]; omega), List.take_of_length_le (by rw [List.length_drop]; omega)]
  · rw [Nat.min_eq_right (by omega : l.length ≤ i), List.drop_eq_nil_of_le (Nat.le_refl _), List.drop_eq_nil_of_le (by omega : l.length ≤ i)]
    simp
theorem cutL_to (l : Tx) (j : Nat) : cutL l none (some (j : Int)) = l.take j := by
  have h := cutL_nn l 0 j
  rw [List.drop_zero, Nat.sub_zero] at h
  rw [← h]
  unfold cutL
  rw [HT.sIx_nat, HT.sIx_none, HT.sIx_nat]; simp
theorem cutL_from (l : Tx) (i : Nat) : cutL l (some (i : Int)) none = l.drop i := by
  unfold cutL
  rw [HT.sIx_nat, HT.sIx_none]
  by_cases h : i ≤ l.length
  · rw [Nat.min_eq_left h, List.take_of_length_le (by rw [List.length_drop]; omega)]
  · rw [Nat.min_eq_right (by omega), List.drop_eq_nil_of_le (Nat.le_refl _), List.drop_eq_nil_of_le (by omega : l.length ≤ i)]; simp
theorem cutL_to1 (l : Tx) : cutL l none (some 1) = l.take 1 := cutL_to l 1
theorem cutL_from1 (l : Tx) : cutL l (some 1) none = l.drop 1 := cutL_from l 1
theorem cutL_one (l : Tx) (k : Nat) : cutL l (some (k : Int)) (some ((k : Int) + 1)) = (l.drop k).take 1 := by
  rw [show ((k : Int) + 1) = ((k + 1 : Nat) : Int) by omega, cutL_nn, Nat.add_sub_cancel_left]
theorem cutL_behind (l : Tx) (k : Nat) : cutL l (some ((k : Int) + 1)) none = l.drop (k + 1) := by
  rw [show ((k : Int) + 1) = ((k + 1 : Nat) : Int) by omega, cutL_from]

/-! ### data -/
inductive D where
  | non | bl (b : Bool) | int (i : Int) | str (l : Tx) | tup (ds : List D) | lst (ds : List D) | raw (v : V) | scr (ns : List Int)
mutual
def D.imm : D → Bool
  | .tup ds => D.imms ds
  | .lst _ => false
  | _ => true
def D.imms : List D → Bool
  | [] => true
  | d :: ds => d.imm && D.imms ds
end
theorem D.imms_mem : ∀ {ds : List D}, D.imms ds = true → ∀ d ∈ ds, d.imm = true
  | [], _, d, h => by cases h
  | e :: ds, h, d, hd => by
    have h' : (e.imm && D.imms ds) = true := h
    rw [Bool.and_eq_true] at h'
    rcases List.mem_cons.mp hd with rfl | hd
    · exact h'.1
    · exact D.imms_mem h'.2 d hd
theorem D.imms_of : ∀ {ds : List D}, (∀ d ∈ ds, d.imm = true) → D.imms ds = true
  | [], _ => rfl
  | e :: ds, h => by
    show (e.imm && D.imms ds) = true
    rw [h e List.mem_cons_self, D.imms_of fun d hd => h d (List.mem_cons_of_mem _ hd)]; rfl
theorem D.imms_app {a b : List D} (ha : D.imms a = true) (hb : D.imms b = true) : D.imms (a ++ b) = true :=
  D.imms_of fun d hd => (List.mem_append.mp hd).elim (D.imms_mem ha d) (D.imms_mem hb d)
theorem D.imms_map {α : Type} {f : α → D} {l : List α} (h : ∀ x ∈ l, (f x).imm = true) : D.imms (l.map f) = true :=
  D.imms_of fun d hd => by
    obtain ⟨x, hx, rfl⟩ := List.mem_map.mp hd
    exact h x hx
def immS : List (Option D) → Bool
  | [] => true
  | none :: r => immS r
  | some d :: r => d.imm && immS r
theorem immS_of : ∀ {ds : List (Option D)}, immS ds = true → ∀ d, some d ∈ ds → d.imm = true
  | [], _, d, h => by cases h
  | none :: r, h, d, hd => by
    rcases List.mem_cons.mp hd with q | q
    · cases q
    · exact immS_of (ds := r) h d q
  | some e :: r, h, d, hd => by
    have h' : (e.imm && immS r) = true := h
    rw [Bool.and_eq_true] at h'
    rcases List.mem_cons.mp hd with q | q
    · cases q; exact h'.1
    · exact immS_of (ds := r) h'.2 d q
theorem D.imm_tup {ds : List D} (h : D.imms ds = true) : (D.tup ds).imm = true := h

section
variable {K : PySem.W.Frag} {H H' : Hp}
/-- a list that nobody changes: the script -/
def Fz (K : PySem.W.Frag) (H : Hp) (a : Addr) (xs : List V) : Prop :=
  (∃ o, H a = some (.frz o (.lst xs))) ∨ ∃ (o : Obj) (its : Array Value) (n : Nat), K.lookup a = some o ∧ o.cls = .type "list" ∧ o.dict = none ∧ o.data = .seq its n ∧ its.size ≤ sizeLine ∧ Vals xs its.toList
theorem Fz.sql {a : Addr} {xs : List V} (h : Fz K H a xs) : SqL K H a xs := by
  rcases h with ⟨o, h⟩ | h
  · exact .inl (.inr ⟨o, h⟩)
  · exact .inr h
theorem Fz.of {a : Addr} {xs : List V} (h : SqL K H a xs) (ho : Only H) : Fz K H a xs := by
  rcases h with (h | ⟨o, h⟩) | h
  · rcases ho a with q | ⟨o, ys, q⟩
    · rw [h] at q; cases q
    · rw [h] at q; cases q
  · exact .inl ⟨o, h⟩
  · exact .inr h
theorem Fz.mono {a : Addr} {xs : List V} (e : Same H H') (h : Fz K H a xs) : Fz K H' a xs := by
  rcases h with ⟨o, h⟩ | h
  · exact .inl ⟨o, e _ _ h⟩
  · exact .inr h
theorem Fz.put {a l : Addr} {xs ys : List V} {o : HO} (hl : H l = some (.lst ys)) (h : Fz K H a xs) : Fz K (upd H l o) a xs := by
  rcases h with ⟨u, h⟩ | h
  · exact .inl ⟨u, by rw [upd_ne (ne_of h hl (by intro q; cases q))]; exact h⟩
  · exact .inr h
mutual
def Dt (K : PySem.W.Frag) (H : Hp) : D → V → Prop
  | .non, v => v = .non
  | .bl b, v => v = .bl b
  | .int i, v => v = .int i
  | .str l, v => v = .str (S l)
  | .raw w, v => v = w
  | .scr ns, v => ∃ a, v = .ref a ∧ Fz K H a (ns.map V.int)
  | .tup ds, v => ∃ a vs, v = .ref a ∧ H a = some (.tup vs) ∧ Dts K H ds vs
  | .lst ds, v => ∃ a vs, v = .ref a ∧ H a = some (.lst vs) ∧ Dts K H ds vs
def Dts (K : PySem.W.Frag) (H : Hp) : List D → List V → Prop
  | [], vs => vs = []
  | d :: ds, vs => ∃ v r, vs = v :: r ∧ Dt K H d v ∧ Dts K H ds r
end
theorem Same.rd {a : Addr} {u : HO} (e : Same H H') (h : Rd H a u) : Rd H' a u := by
  rcases h with h | ⟨o, h⟩
  · exact .inl (e a _ h)
  · exact .inr ⟨o, e a _ h⟩
theorem Same.sqt {a : Addr} {xs : List V} (e : Same H H') (h : SqT K H a xs) : SqT K H' a xs := by
  rcases h with h | h
  · exact .inl (Same.rd e h)
  · exact .inr h
theorem Same.sql {a : Addr} {xs : List V} (e : Same H H') (h : SqL K H a xs) : SqL K H' a xs := e.seq h
theorem Same.new {p : Addr} {o : HO} (h : H p = none) : Same H (upd H p o) := fun a u e => by
  rw [upd_ne (ne_of_none e h)]
  exact e
theorem Same.mut {p : Addr} {o : HO} (e : Same H H') (h : H p = none) : Same H (upd H' p o) := fun a u ha => by
  rw [upd_ne (ne_of_none ha h)]
  exact e a u ha
mutual
theorem Dt.mono (e : Same H H') : ∀ (d : D) {v : V}, Dt K H d v → Dt K H' d v
  | .non, _, h => h
  | .bl _, _, h => h
  | .int _, _, h => h
  | .str _, _, h => h
  | .raw _, _, h => h
  | .scr _, _, ⟨a, h1, h2⟩ => ⟨a, h1, Fz.mono e h2⟩
  | .tup ds, _, ⟨a, vs, h1, h2, h3⟩ => ⟨a, vs, h1, e _ _ h2, Dts.mono e ds h3⟩
  | .lst ds, _, ⟨a, vs, h1, h2, h3⟩ => ⟨a, vs, h1, e _ _ h2, Dts.mono e ds h3⟩
theorem Dts.mono (e : Same H H') : ∀ (ds : List D) {vs : List V}, Dts K H ds vs → Dts K H' ds vs
  | [], _, h => h
  | d :: ds, _, ⟨v, r, h1, h2, h3⟩ => ⟨v, r, h1, Dt.mono e d h2, Dts.mono e ds h3⟩
end
mutual
theorem Dt.put {l : Addr} {xs : List V} {o : HO} (hl : H l = some (.lst xs)) : ∀ (d : D) {v : V}, d.imm = true → Dt K H d v → Dt K (upd H l o) d v
  | .non, _, _, h => h
  | .bl _, _, _, h => h
  | .int _, _, _, h => h
  | .str _, _, _, h => h
  | .raw _, _, _, h => h
  | .scr _, _, _, ⟨a, h1, h2⟩ => ⟨a, h1, Fz.put hl h2⟩
  | .tup ds, _, i, ⟨a, vs, h1, h2, h3⟩ => ⟨a, vs, h1, by rw [upd_ne (ne_of h2 hl (by intro q; cases q))]; exact h2, Dts.put hl ds i h3⟩
  | .lst ds, _, i, _ => by cases i
theorem Dts.put {l : Addr} {xs : List V} {o : HO} (hl : H l = some (.lst xs)) : ∀ (ds : List D) {vs : List V}, D.imms ds = true → Dts K H ds vs → Dts K (upd H l o) ds vs
  | [], _, _, h => h
  | d :: ds, _, i, ⟨v, r, h1, h2, h3⟩ => by
    have i' : (d.imm && D.imms ds) = true := i
    rw [Bool.and_eq_true] at i'
    exact ⟨v, r, h1, Dt.put hl d i'.1 h2, Dts.put hl ds i'.2 h3⟩
end
theorem Dts.len : ∀ {ds : List D} {vs : List V}, Dts K H ds vs → vs.length = ds.length
  | [], _, h => by rw [show _ = [] from h]; rfl
  | d :: ds, _, ⟨v, r, h1, h2, h3⟩ => by rw [h1, List.length_cons, List.length_cons, Dts.len h3]
theorem Dts.get : ∀ {ds : List D} {vs : List V} {i : Nat} {d : D}, Dts K H ds vs → ds[i]? = some d → ∃ v, vs[i]? = some v ∧ Dt K H d v
  | [], _, _, _, _, e => by simp at e
  | d :: ds, _, 0, e, ⟨v, r, h1, h2, h3⟩, he => by
    simp at he; subst he
    exact ⟨v, by rw [h1]; rfl, h2⟩
  | d :: ds, _, i + 1, e, ⟨v, r, h1, h2, h3⟩, he => by
    obtain ⟨w, q1, q2⟩ := Dts.get (i := i) (d := e) h3 (by simpa using he)
    exact ⟨w, by rw [h1]; simpa using q1, q2⟩
theorem Dts.getv : ∀ {ds : List D} {vs : List V} {i : Nat} {v : V}, Dts K H ds vs → vs[i]? = some v → ∃ d, ds[i]? = some d ∧ Dt K H d v
  | [], _, _, _, h, e => by rw [show _ = [] from h] at e; simp at e
  | d :: ds, _, 0, e, ⟨v, r, h1, h2, h3⟩, he => by
    rw [h1] at he; simp at he; subst he
    exact ⟨d, rfl, h2⟩
  | d :: ds, _, i + 1, e, ⟨v, r, h1, h2, h3⟩, he => by
    rw [h1] at he
    obtain ⟨w, q1, q2⟩ := Dts.getv (i := i) (v := e) h3 (by simpa using he)
    exact ⟨w, by simpa using q1, q2⟩
theorem Dts.snoc : ∀ {ds : List D} {vs : List V} {d : D} {v : V}, Dts K H ds vs → Dt K H d v → Dts K H (ds ++ [d]) (vs ++ [v])
  | [], _, d, v, h, q => by rw [show _ = [] from h]; exact ⟨v, [], rfl, q, rfl⟩
  | e :: ds, _, d, v, ⟨w, r, h1, h2, h3⟩, q => by rw [h1]; exact ⟨w, r ++ [v], rfl, h2, Dts.snoc h3 q⟩
theorem Dts.app : ∀ {ds es : List D} {vs ws : List V}, Dts K H ds vs → Dts K H es ws → Dts K H (ds ++ es) (vs ++ ws)
  | [], _, _, _, h, q => by rw [show _ = [] from h]; exact q
  | e :: ds, _, _, _, ⟨w, r, h1, h2, h3⟩, q => by rw [h1]; exact ⟨w, _, rfl, h2, Dts.app h3 q⟩
theorem Dts.drop : ∀ (n : Nat) {ds : List D} {vs : List V}, Dts K H ds vs → Dts K H (ds.drop n) (vs.drop n)
  | 0, _, _, h => h
  | n + 1, [], _, h => by rw [show _ = [] from h]; exact rfl
  | n + 1, e :: ds, _, ⟨w, r, h1, h2, h3⟩ => by rw [h1]; exact Dts.drop n h3
theorem Dts.take : ∀ (n : Nat) {ds : List D} {vs : List V}, Dts K H ds vs → Dts K H (ds.take n) (vs.take n)
  | 0, _, _, h => by rw [List.take_zero, List.take_zero]; exact rfl
  | n + 1, [], _, h => by rw [show _ = [] from h]; exact rfl
  | n + 1, e :: ds, _, ⟨w, r, h1, h2, h3⟩ => by rw [h1]; exact ⟨w, _, rfl, h2, Dts.take n h3⟩

/-! ### slots -/
def Sl (K : PySem.W.Frag) (H : Hp) : List (Option D) → St → Prop
  | [], σ => σ = []
  | none :: ds, σ => ∃ x r, σ = x :: r ∧ Sl K H ds r
  | some d :: ds, σ => ∃ v r, σ = some v :: r ∧ Dt K H d v ∧ Sl K H ds r
theorem Sl.get : ∀ {ds : List (Option D)} {σ : St} {i : Nat} {d : D}, Sl K H ds σ → ds[i]? = some (some d) → ∃ v, σ[i]? = some (some v) ∧ Dt K H d v
  | [], _, _, _, _, e => by simp at e
  | none :: ds, _, 0, _, _, e => by simp at e
  | some d :: ds, _, 0, e, ⟨v, r, h1, h2, h3⟩, he => by
    simp at he; subst he
    exact ⟨v, by rw [h1]; rfl, h2⟩
  | none :: ds, _, i + 1, e, ⟨v, r, h1, h3⟩, he => by
    obtain ⟨w, q1, q2⟩ := Sl.get (i := i) (d := e) h3 (by simpa using he)
    exact ⟨w, by rw [h1]; simpa using q1, q2⟩
  | some d :: ds, _, i + 1, e, ⟨v, r, h1, h2, h3⟩, he => by
    obtain ⟨w, q1, q2⟩ := Sl.get (i := i) (d := e) h3 (by simpa using he)
    exact ⟨w, by rw [h1]; simpa using q1, q2⟩
theorem Sl.set : ∀ {ds : List (Option D)} {σ : St} (i : Nat) {d : D} {v : V}, Sl K H ds σ → Dt K H d v → Sl K H (ds.set i (some d)) (σ.set i (some v))
  | [], _, _, _, _, h, _ => by rw [show _ = [] from h]; exact rfl
  | none :: ds, _, 0, d, v, ⟨x, r, h1, h2⟩, q => by rw [h1]; exact ⟨v, r, rfl, q, h2⟩
  | some d :: ds, _, 0, e, v, ⟨x, r, h1, h2, h3⟩, q => by rw [h1]; exact ⟨v, r, rfl, q, h3⟩
  | none :: ds, _, i + 1, d, v, ⟨x, r, h1, h2⟩, q => by rw [h1]; exact ⟨x, _, rfl, Sl.set i h2 q⟩
  | some d :: ds, _, i + 1, e, v, ⟨x, r, h1, h2, h3⟩, q => by rw [h1]; exact ⟨x, _, rfl, h2, Sl.set i h3 q⟩
theorem Sl.unset : ∀ {ds : List (Option D)} {σ : St} (i : Nat) (x : Option V), Sl K H ds σ → Sl K H (ds.set i none) (σ.set i x)
  | [], _, _, _, h => by rw [show _ = [] from h]; exact rfl
  | none :: ds, _, 0, v, ⟨x, r, h1, h2⟩ => by rw [h1]; exact ⟨v, r, rfl, h2⟩
  | some d :: ds, _, 0, v, ⟨x, r, h1, h2, h3⟩ => by rw [h1]; exact ⟨v, r, rfl, h3⟩
  | none :: ds, _, i + 1, v, ⟨x, r, h1, h2⟩ => by rw [h1]; exact ⟨x, _, rfl, Sl.unset i v h2⟩
  | some d :: ds, _, i + 1, v, ⟨x, r, h1, h2, h3⟩ => by rw [h1]; exact ⟨x, _, rfl, h2, Sl.unset i v h3⟩
theorem Sl.mono (e : Same H H') : ∀ {ds : List (Option D)} {σ : St}, Sl K H ds σ → Sl K H' ds σ
  | [], _, h => h
  | none :: ds, _, ⟨x, r, h1, h2⟩ => ⟨x, r, h1, Sl.mono e h2⟩
  | some d :: ds, _, ⟨v, r, h1, h2, h3⟩ => ⟨v, r, h1, Dt.mono e d h2, Sl.mono e h3⟩
/-- forgetting: each told slot is told alike -/
def Fits : List (Option D) → List (Option D) → Prop
  | [], [] => True
  | none :: r, _ :: s => Fits r s
  | some d :: r, some e :: s => d = e ∧ Fits r s
  | _, _ => False
theorem Sl.fit : ∀ {ds es : List (Option D)} {σ : St}, Fits es ds → Sl K H ds σ → Sl K H es σ
  | [], [], _, _, h => h
  | [], none :: _, _, f, _ => f.elim
  | [], some _ :: _, _, f, _ => f.elim
  | none :: _, [], _, f, _ => f.elim
  | some _ :: _, [], _, f, _ => f.elim
  | none :: ds, none :: es, _, f, ⟨x, r, h1, h2⟩ => ⟨x, r, h1, Sl.fit f h2⟩
  | some d :: ds, none :: es, _, f, ⟨v, r, h1, h2, h3⟩ => ⟨_, r, h1, Sl.fit f h3⟩
  | none :: ds, some e :: es, _, f, _ => f.elim
  | some d :: ds, some e :: es, _, ⟨f1, f2⟩, ⟨v, r, h1, h2, h3⟩ => ⟨v, r, h1, by rw [f1]; exact h2, Sl.fit f2 h3⟩
def wipeD (ds : List (Option D)) : List Nat → List (Option D)
  | [] => ds
  | v :: vs => (wipeD ds vs).set v none
theorem Sl.wipe {ds : List (Option D)} {σ : St} (h : Sl K H ds σ) : ∀ vs : List Nat, Sl K H (wipeD ds vs) (L2.wipe σ vs)
  | [] => h
  | v :: vs => by
    show Sl K H ((wipeD ds vs).set v none) ((L2.wipe σ vs).set v none)
    exact Sl.unset v none (Sl.wipe h vs)
theorem Sl.put {l : Addr} {xs : List V} {o : HO} (hl : H l = some (.lst xs)) : ∀ {ds : List (Option D)} {σ : St}, (∀ d, some d ∈ ds → d.imm = true) → Sl K H ds σ → Sl K (upd H l o) ds σ
  | [], _, _, h => h
  | none :: ds, _, i, ⟨x, r, h1, h2⟩ => ⟨x, r, h1, Sl.put hl (fun d hd => i d (List.mem_cons_of_mem _ hd)) h2⟩
  | some d :: ds, _, i, ⟨v, r, h1, h2, h3⟩ => ⟨v, r, h1, Dt.put hl d (i d List.mem_cons_self) h2, Sl.put hl (fun d hd => i d (List.mem_cons_of_mem _ hd)) h3⟩
theorem Sl.start {N : List Str} : ∀ {ds : List D} {vs : List V}, Dts K H ds vs → Sl K H (ds.map some ++ List.replicate (N.length - ds.length) none) (L2.start N vs) := by
  intro ds vs h
  have e := h.len
  unfold L2.start
  rw [e]
  have rep : ∀ n : Nat, Sl K H (List.replicate n none) (List.replicate n none) := by
    intro n
    induction n with
    | zero => exact rfl
    | succ n ih => exact ⟨none, _, rfl, ih⟩
  have go : ∀ (n : Nat) (ds : List D) (vs : List V), Dts K H ds vs → Sl K H (ds.map some ++ List.replicate n none) (vs.map some ++ List.replicate n none) := by
    intro n ds
    induction ds with
    | nil => intro vs h; rw [show vs = [] from h]; exact rep n
    | cons d ds ih =>
      rintro vs ⟨v, r, h1, h2, h3⟩
      rw [h1]
      exact ⟨v, _, rfl, h2, ih r h3⟩
  exact go _ ds vs h
end
end Rt
namespace Rt
open PySem L2

theorem small {n : Nat} (h : n ≤ 100000) : n ≤ sizeLine := Nat.le_trans h (by decide)
theorem smallLt {n : Nat} (h : n < 100000) : n < sizeLine := Nat.lt_of_lt_of_le h (by decide)
theorem free_back {H H' : Hp} {p : Addr} (e : Same H H') (h : H' p = none) : H p = none := e.free h

/-! ### what evaluates to what -/
def EvP (te : TE) (σ : St) (H : Hp) (P : V → Hp → Prop) : Prop := ∀ H1, Same H H1 → ∀ Q : VK, (∀ v H2, Same H1 H2 → P v H2 → Q v H2) → te σ H1 Q
def Ev (K : PySem.W.Frag) (te : TE) (σ : St) (H : Hp) (d : D) : Prop := ∀ H1, Same H H1 → ∀ Q : VK, (∀ v H2, Same H1 H2 → Dt K H2 d v → Q v H2) → te σ H1 Q
/-- a new list of these -/
def EvN (K : PySem.W.Frag) (te : TE) (σ : St) (H : Hp) (ds : List D) : Prop := ∀ H1, Same H H1 → ∀ Q : VK, (∀ p vs H2, H1 p = none → Same H1 H2 → H2 p = some (.lst vs) → Dts K H2 ds vs → Q (.ref p) H2) → te σ H1 Q
def EvT (K : PySem.W.Frag) (tt : TT) (σ : St) (H : Hp) (b : Bool) : Prop := ∀ H1, Same H H1 → ∀ Q : Bool → Hp → Prop, (∀ H2, Same H1 H2 → Q b H2) → tt σ H1 Q
def EvA (K : PySem.W.Frag) (ta : TA) (σ : St) (H : Hp) (ds : List D) : Prop := ∀ H1, Same H H1 → ∀ Q : List V → Hp → Prop, (∀ vs H2, Same H1 H2 → Dts K H2 ds vs → Q vs H2) → ta σ H1 Q
def EvO (K : PySem.W.Frag) (to : TO) (σ : St) (H : Hp) (o : Option Int) : Prop := ∀ H1, Same H H1 → ∀ Q : Option Int → Hp → Prop, (∀ H2, Same H1 H2 → Q o H2) → to σ H1 Q

section
variable {K : PySem.W.Frag} {σ : St} {H H' : Hp} {ta tb te tx : TE} {t u : TT} {d e : D}

theorem Ev.mono (s : Same H H') (h : Ev K te σ H d) : Ev K te σ H' d := fun H1 a Q q => h H1 (s.trans a) Q q
theorem EvN.mono {ds : List D} (s : Same H H') (h : EvN K te σ H ds) : EvN K te σ H' ds := fun H1 a Q q => h H1 (s.trans a) Q q
theorem EvT.mono {b : Bool} (s : Same H H') (h : EvT K t σ H b) : EvT K t σ H' b := fun H1 a Q q => h H1 (s.trans a) Q q
theorem EvA.mono {t : TA} {ds : List D} (s : Same H H') (h : EvA K t σ H ds) : EvA K t σ H' ds := fun H1 a Q q => h H1 (s.trans a) Q q
theorem EvN.ev {ds : List D} (h : EvN K te σ H ds) : Ev K te σ H (.lst ds) := fun H1 a Q q => h H1 a Q fun p vs H2 _ s hp hd => q _ _ s ⟨p, vs, rfl, hp, hd⟩
theorem Ev.to (h : Ev K te σ H d) (q : d = e) : Ev K te σ H e := by rw [← q]; exact h
theorem EvN.to {ds es : List D} (h : EvN K te σ H ds) (q : ds = es) : EvN K te σ H es := by rw [← q]; exact h
theorem EvT.to {a b : Bool} (h : EvT K t σ H a) (q : a = b) : EvT K t σ H b := by rw [← q]; exact h
theorem EvA.to {t : TA} {ds es : List D} (h : EvA K t σ H ds) (q : ds = es) : EvA K t σ H es := by rw [← q]; exact h

/-! ### names, constants -/
theorem ev_var {ds : List (Option D)} {i : Nat} (s : Sl K H ds σ) (h : ds[i]? = some (some d)) : Ev K (tVar i) σ H d := fun H1 a Q q => by
  obtain ⟨v, h1, h2⟩ := (s.mono a).get h
  exact ⟨v, h1, q v H1 (Same.refl H1) h2⟩
theorem ev_int {i : Int} : Ev K (tC (.int i)) σ H (.int i) := fun H1 _ Q q => q _ H1 (Same.refl H1) rfl
theorem ev_bl {b : Bool} : Ev K (tC (.bl b)) σ H (.bl b) := fun H1 _ Q q => q _ H1 (Same.refl H1) rfl
theorem ev_non : Ev K (tC .non) σ H .non := fun H1 _ Q q => q _ H1 (Same.refl H1) rfl
theorem ev_str {x : Str} : Ev K (tC (.str x)) σ H (.str x.cps.toList) := fun H1 _ Q q => q _ H1 (Same.refl H1) (by show V.str x = .str (S x.cps.toList); rw [S_of])
theorem ev_c {v : V} : Ev K (tC v) σ H (.raw v) := fun H1 _ Q q => q _ H1 (Same.refl H1) rfl
/-- a local list whose address is known -/
theorem ev_own {l : Addr} {vs : List V} {ds : List D} (h : Ev K te σ H (.raw (.ref l))) (hl : H l = some (.lst vs)) (hd : Dts K H ds vs) : Ev K te σ H (.lst ds) := fun H1 a Q q =>
  h H1 a Q fun v H2 s hv => q v H2 s ⟨l, vs, hv, (a.trans s) _ _ hl, Dts.mono (a.trans s) ds hd⟩

/-! ### arguments, displays -/
theorem ea_nil : EvA K tNil σ H [] := fun H1 _ Q q => q [] H1 (Same.refl H1) rfl
theorem ea_cons {tr : TA} {ds : List D} (h : Ev K ta σ H d) (hr : EvA K tr σ H ds) : EvA K (tCons ta tr) σ H (d :: ds) := fun H1 a Q q =>
  h H1 a _ fun v H2 s2 hv => hr H2 (a.trans s2) _ fun vs H3 s3 hvs => q _ H3 (s2.trans s3) ⟨v, vs, rfl, Dt.mono s3 d hv, hvs⟩
theorem ev_tup {t : TA} {ds : List D} (h : EvA K t σ H ds) (hz : ds.length ≤ 100000) : Ev K (tTup t) σ H (.tup ds) := fun H1 a Q q =>
  h H1 a _ fun vs H2 s2 hvs => ⟨small (by rw [hvs.len]; exact hz), fun p hp => q _ _ (s2.trans (Same.new hp)) ⟨p, vs, rfl, upd_same, Dts.mono (Same.new hp) ds hvs⟩⟩
theorem en_lst {t : TA} {ds : List D} (h : EvA K t σ H ds) (hz : ds.length ≤ 100000) : EvN K (tLst t) σ H ds := fun H1 a Q q =>
  h H1 a _ fun vs H2 s2 hvs => ⟨small (by rw [hvs.len]; exact hz), fun p hp => q p vs _ (s2.free hp) (s2.trans (Same.new hp)) upd_same (Dts.mono (Same.new hp) ds hvs)⟩
theorem ev_lst {t : TA} {ds : List D} (h : EvA K t σ H ds) (hz : ds.length ≤ 100000) : Ev K (tLst t) σ H (.lst ds) := (en_lst h hz).ev

/-! ### two-place operations -/
theorem ev_op {r : R2} {z : D} (ha : Ev K ta σ H d) (hb : Ev K tb σ H e) (hr : ∀ v w H1, Same H H1 → Dt K H1 d v → Dt K H1 e w → ∀ Q : VK, (∀ x H2, Same H1 H2 → Dt K H2 z x → Q x H2) → r v w H1 Q) : Ev K (tOp r ta tb) σ H z := fun H1 a Q q =>
  ha H1 a _ fun v H2 s2 hv => hb H2 (a.trans s2) _ fun w H3 s3 hw => hr v w H3 ((a.trans s2).trans s3) (Dt.mono s3 d hv) hw Q fun x H4 s4 hx => q x H4 ((s2.trans s3).trans s4) hx
theorem ev_I0 {i j : Int} {z : D} {g : Int → Int → V} (ha : Ev K ta σ H (.int i)) (hb : Ev K tb σ H (.int j)) (hz : ∀ H, Dt K H z (g i j)) : Ev K (tOp (rI0 g) ta tb) σ H z :=
  ev_op ha hb fun v w H1 _ hv hw Q q => ⟨i, j, hv, hw, q _ _ (Same.refl _) (hz _)⟩
theorem ev_I {i j : Int} {z : D} {C : Int → Int → Prop} {g : Int → Int → V} (ha : Ev K ta σ H (.int i)) (hb : Ev K tb σ H (.int j)) (hc : C i j) (hz : ∀ H, Dt K H z (g i j)) : Ev K (tOp (rI C g) ta tb) σ H z :=
  ev_op ha hb fun v w H1 _ hv hw Q q => ⟨i, j, hv, hw, hc, q _ _ (Same.refl _) (hz _)⟩
theorem ev_add {i j : Int} (ha : Ev K ta σ H (.int i)) (hb : Ev K tb σ H (.int j)) : Ev K (tOp (rI0 fun i j => .int (i + j)) ta tb) σ H (.int (i + j)) := ev_I0 ha hb fun _ => rfl
theorem ev_sub {i j : Int} (ha : Ev K ta σ H (.int i)) (hb : Ev K tb σ H (.int j)) : Ev K (tOp (rI0 fun i j => .int (i - j)) ta tb) σ H (.int (i - j)) := ev_I0 ha hb fun _ => rfl
theorem ev_lt {i j : Int} (ha : Ev K ta σ H (.int i)) (hb : Ev K tb σ H (.int j)) : Ev K (tOp (rI0 fun i j => .bl (decide (i < j))) ta tb) σ H (.bl (decide (i < j))) := ev_I0 ha hb fun _ => rfl
theorem ev_le {i j : Int} (ha : Ev K ta σ H (.int i)) (hb : Ev K tb σ H (.int j)) : Ev K (tOp (rI0 fun i j => .bl (decide (i ≤ j))) ta tb) σ H (.bl (decide (i ≤ j))) := ev_I0 ha hb fun _ => rfl
theorem ev_gt {i j : Int} (ha : Ev K ta σ H (.int i)) (hb : Ev K tb σ H (.int j)) : Ev K (tOp (rI0 fun i j => .bl (decide (j < i))) ta tb) σ H (.bl (decide (j < i))) := ev_I0 ha hb fun _ => rfl
theorem ev_ge {i j : Int} (ha : Ev K ta σ H (.int i)) (hb : Ev K tb σ H (.int j)) : Ev K (tOp (rI0 fun i j => .bl (decide (j ≤ i))) ta tb) σ H (.bl (decide (j ≤ i))) := ev_I0 ha hb fun _ => rfl
theorem ev_mul {i j : Int} (ha : Ev K ta σ H (.int i)) (hb : Ev K tb σ H (.int j)) (hc : CMul i j) : Ev K (tOp (rI CMul fun i j => .int (i * j)) ta tb) σ H (.int (i * j)) := ev_I ha hb hc fun _ => rfl
theorem ev_fdiv {i j : Int} (ha : Ev K ta σ H (.int i)) (hb : Ev K tb σ H (.int j)) (hc : CDiv i j) : Ev K (tOp (rI CDiv fun i j => .int (i / j)) ta tb) σ H (.int (i / j)) := ev_I ha hb hc fun _ => rfl
theorem ev_mod {i j : Int} (ha : Ev K ta σ H (.int i)) (hb : Ev K tb σ H (.int j)) (hc : 0 < j) : Ev K (tOp (rI (fun _ j => 0 < j) fun i j => .int (i % j)) ta tb) σ H (.int (i % j)) := ev_I (C := fun _ j => 0 < j) ha hb hc fun _ => rfl
theorem ev_addS {a b : Tx} (ha : Ev K ta σ H (.str a)) (hb : Ev K tb σ H (.str b)) (hz : a.length + b.length ≤ 100000) : Ev K (tOp (fun x y H Q => ∃ i j, x = .str i ∧ y = .str j ∧ i.length + j.length ≤ sizeLine ∧ Q (.str (i ++ j)) H) ta tb) σ H (.str (a ++ b)) :=
  ev_op ha hb fun v w H1 _ hv hw Q q => ⟨S a, S b, hv, hw, by rw [S_len, S_len]; exact small hz, q _ _ (Same.refl _) (by show V.str (S a ++ S b) = .str (S (a ++ b)); rw [S_app])⟩
theorem ev_eqS {a b : Tx} (ha : Ev K ta σ H (.str a)) (hb : Ev K tb σ H (.str b)) : Ev K (tOp rEq ta tb) σ H (.bl (decide (a = b))) :=
  ev_op ha hb fun v w H1 _ hv hw Q q => by
    rw [show v = .str (S a) from hv, show w = .str (S b) from hw]
    refine ⟨rfl, q _ _ (Same.refl _) ?_⟩
    show V.bl _ = V.bl _
    congr 1
    exact decide_eq_decide.mpr ⟨fun h => S_inj (V.str.inj h), fun h => by rw [h]⟩
theorem ev_neS {a b : Tx} (ha : Ev K ta σ H (.str a)) (hb : Ev K tb σ H (.str b)) : Ev K (tOp rNe ta tb) σ H (.bl (!decide (a = b))) :=
  ev_op ha hb fun v w H1 _ hv hw Q q => by
    rw [show v = .str (S a) from hv, show w = .str (S b) from hw]
    refine ⟨rfl, q _ _ (Same.refl _) ?_⟩
    show V.bl _ = V.bl _
    congr 2
    exact decide_eq_decide.mpr ⟨fun h => S_inj (V.str.inj h), fun h => by rw [h]⟩
theorem ev_eqI {a b : Int} (ha : Ev K ta σ H (.int a)) (hb : Ev K tb σ H (.int b)) : Ev K (tOp rEq ta tb) σ H (.bl (decide (a = b))) :=
  ev_op ha hb fun v w H1 _ hv hw Q q => by
    rw [show v = .int a from hv, show w = .int b from hw]
    refine ⟨rfl, q _ _ (Same.refl _) ?_⟩
    show V.bl _ = V.bl _
    congr 1
    exact decide_eq_decide.mpr ⟨fun h => V.int.inj h, fun h => by rw [h]⟩
theorem ev_neI {a b : Int} (ha : Ev K ta σ H (.int a)) (hb : Ev K tb σ H (.int b)) : Ev K (tOp rNe ta tb) σ H (.bl (!decide (a = b))) :=
  ev_op ha hb fun v w H1 _ hv hw Q q => by
    rw [show v = .int a from hv, show w = .int b from hw]
    refine ⟨rfl, q _ _ (Same.refl _) ?_⟩
    show V.bl _ = V.bl _
    congr 2
    exact decide_eq_decide.mpr ⟨fun h => V.int.inj h, fun h => by rw [h]⟩
theorem ev_neB {a b : Bool} (ha : Ev K ta σ H (.bl a)) (hb : Ev K tb σ H (.bl b)) : Ev K (tOp rNe ta tb) σ H (.bl (!decide (a = b))) :=
  ev_op ha hb fun v w H1 _ hv hw Q q => by
    rw [show v = .bl a from hv, show w = .bl b from hw]
    refine ⟨rfl, q _ _ (Same.refl _) ?_⟩
    show V.bl _ = V.bl _
    congr 2
    exact decide_eq_decide.mpr ⟨fun h => V.bl.inj h, fun h => by rw [h]⟩
theorem ev_eqB {a b : Bool} (ha : Ev K ta σ H (.bl a)) (hb : Ev K tb σ H (.bl b)) : Ev K (tOp rEq ta tb) σ H (.bl (decide (a = b))) :=
  ev_op ha hb fun v w H1 _ hv hw Q q => by
    rw [show v = .bl a from hv, show w = .bl b from hw]
    refine ⟨rfl, q _ _ (Same.refl _) ?_⟩
    show V.bl _ = V.bl _
    congr 1
    exact decide_eq_decide.mpr ⟨fun h => V.bl.inj h, fun h => by rw [h]⟩
theorem ev_ltS {a b : Tx} (ha : Ev K ta σ H (.str a)) (hb : Ev K tb σ H (.str b)) : Ev K (tOp (fun x y H Q => ∃ i j, x = .str i ∧ y = .str j ∧ Q (.bl (decide (i.cps.toList < j.cps.toList))) H) ta tb) σ H (.bl (decide (a < b))) :=
  ev_op ha hb fun v w H1 _ hv hw Q q => ⟨S a, S b, hv, hw, q _ _ (Same.refl _) (by show V.bl _ = V.bl _; simp only [S_cps])⟩
theorem ev_leS {a b : Tx} (ha : Ev K ta σ H (.str a)) (hb : Ev K tb σ H (.str b)) : Ev K (tOp (fun x y H Q => ∃ i j, x = .str i ∧ y = .str j ∧ Q (.bl (!decide (j.cps.toList < i.cps.toList))) H) ta tb) σ H (.bl (!decide (b < a))) :=
  ev_op ha hb fun v w H1 _ hv hw Q q => ⟨S a, S b, hv, hw, q _ _ (Same.refl _) (by show V.bl _ = V.bl _; simp only [S_cps])⟩
theorem ev_gtS {a b : Tx} (ha : Ev K ta σ H (.str a)) (hb : Ev K tb σ H (.str b)) : Ev K (tOp (fun x y H Q => ∃ i j, x = .str i ∧ y = .str j ∧ Q (.bl (decide (j.cps.toList < i.cps.toList))) H) ta tb) σ H (.bl (decide (b < a))) :=
  ev_op ha hb fun v w H1 _ hv hw Q q => ⟨S a, S b, hv, hw, q _ _ (Same.refl _) (by show V.bl _ = V.bl _; simp only [S_cps])⟩
theorem ev_geS {a b : Tx} (ha : Ev K ta σ H (.str a)) (hb : Ev K tb σ H (.str b)) : Ev K (tOp (fun x y H Q => ∃ i j, x = .str i ∧ y = .str j ∧ Q (.bl (!decide (i.cps.toList < j.cps.toList))) H) ta tb) σ H (.bl (!decide (a < b))) :=
  ev_op ha hb fun v w H1 _ hv hw Q q => ⟨S a, S b, hv, hw, q _ _ (Same.refl _) (by show V.bl _ = V.bl _; simp only [S_cps])⟩
/-- is None -/
def D.isNon : D → Bool
  | .non => true
  | .raw v => decide (v = .non)
  | _ => false
theorem Dt.isNon : ∀ {d : D} {v : V}, Dt K H d v → decide (v = .non) = d.isNon
  | .non, _, h => by rw [show _ = V.non from h]; rfl
  | .bl _, _, h => by rw [show _ = V.bl _ from h]; rfl
  | .int _, _, h => by rw [show _ = V.int _ from h]; rfl
  | .str _, _, h => by rw [show _ = V.str _ from h]; rfl
  | .raw _, _, h => by rw [show _ = _ from h]; rfl
  | .tup _, _, ⟨_, _, h, _⟩ => by rw [h]; rfl
  | .lst _, _, ⟨_, _, h, _⟩ => by rw [h]; rfl
  | .scr _, _, ⟨_, h, _⟩ => by rw [h]; rfl
theorem ev_isN (ha : Ev K ta σ H d) : Ev K (tOp (fun x y H Q => y = .non ∧ Q (.bl (decide (x = .non))) H) ta (tC .non)) σ H (.bl d.isNon) :=
  ev_op ha ev_non fun v w H1 _ hv hw Q q => ⟨hw, q _ _ (Same.refl _) (by rw [hv.isNon]; rfl)⟩
theorem ev_notN (ha : Ev K ta σ H d) : Ev K (tOp (fun x y H Q => y = .non ∧ Q (.bl (!decide (x = .non))) H) ta (tC .non)) σ H (.bl (!d.isNon)) :=
  ev_op ha ev_non fun v w H1 _ hv hw Q q => ⟨hw, q _ _ (Same.refl _) (by rw [hv.isNon]; rfl)⟩

/-! ### items, slices, len -/
abbrev rLen (K : PySem.W.Frag) : List V → Hp → VK → Prop := fun xs H Q => ∃ p ys, xs = [.ref p] ∧ (SqL K H p ys ∨ SqT K H p ys) ∧ Q (.int ys.length) H
theorem atI_dts {ds : List D} {vs : List V} {i : Int} (h : Dts K H ds vs) (e : atI ds i = some d) : ∃ v, atI vs i = some v ∧ Dt K H d v := by
  unfold atI at e ⊢
  rw [h.len]
  cases hx : ixN ds.length i with
  | none => rw [hx] at e; cases e
  | some j => rw [hx] at e; exact h.get e
theorem ev_ixT {ds : List D} {i : Int} (ha : Ev K ta σ H (.tup ds)) (hb : Ev K tb σ H (.int i)) (h : atI ds i = some d) : Ev K (tOp (rIxT K) ta tb) σ H d :=
  ev_op ha hb fun v w H1 _ ⟨a, vs, h1, h2, h3⟩ hw Q q => by
    obtain ⟨x, h4, h5⟩ := atI_dts h3 h
    exact ⟨a, vs, i, x, h1, hw, SqT.of h2, h4, q _ _ (Same.refl _) h5⟩
theorem ev_ixL {ds : List D} {i : Int} (ha : Ev K ta σ H (.lst ds)) (hb : Ev K tb σ H (.int i)) (h : atI ds i = some d) : Ev K (tOp (rIxL K) ta tb) σ H d :=
  ev_op ha hb fun v w H1 _ ⟨a, vs, h1, h2, h3⟩ hw Q q => by
    obtain ⟨x, h4, h5⟩ := atI_dts h3 h
    exact ⟨a, vs, i, x, h1, hw, SqL.of h2, h4, q _ _ (Same.refl _) h5⟩
theorem ev_ixS {l : Tx} {i : Int} {c : Nat} (ha : Ev K ta σ H (.str l)) (hb : Ev K tb σ H (.int i)) (hz : l.length ≤ 100000) (h : atI l i = some c) : Ev K (tOp rIxS ta tb) σ H (.str [c]) :=
  ev_op ha hb fun v w H1 _ hv hw Q q => ⟨S l, i, c, hv, hw, by rw [S_len]; exact small hz, by rw [S_cps]; exact h, q _ _ (Same.refl _) rfl⟩
theorem ev_ixR {ns : List Int} {i z : Int} (ha : Ev K ta σ H (.scr ns)) (hb : Ev K tb σ H (.int i)) (h : atI ns i = some z) : Ev K (tOp (rIxL K) ta tb) σ H (.int z) :=
  ev_op ha hb fun v w H1 _ ⟨a, h1, h2⟩ hw Q q => by
    refine ⟨a, ns.map V.int, i, .int z, h1, hw, h2.sql, ?_, q _ _ (Same.refl _) rfl⟩
    unfold atI at h ⊢
    rw [List.length_map]
    cases hx : ixN ns.length i with
    | none => rw [hx] at h; cases h
    | some j =>
      rw [hx] at h
      show (ns.map V.int)[j]? = some (.int z)
      rw [List.getElem?_map, show ns[j]? = some z from h]; rfl
theorem eo_none : EvO K tNoPart σ H none := fun H1 _ _ q => q H1 (Same.refl H1)
theorem eo_some {i : Int} (h : Ev K te σ H (.int i)) : EvO K (tPart te) σ H (some i) := fun H1 a _ q => h H1 a _ fun v H2 s hv => ⟨i, hv, q H2 s⟩
theorem ev_slS {l : Tx} {tl th : TO} {lo hi : Option Int} (h : Ev K te σ H (.str l)) (h1 : EvO K tl σ H lo) (h2 : EvO K th σ H hi) (hz : l.length ≤ 100000) : Ev K (tSl rSlS te tl th) σ H (.str (cutL l lo hi)) := fun H1 a Q q =>
  h H1 a _ fun v H2 s2 hv => h1 H2 (a.trans s2) _ fun H3 s3 => h2 H3 ((a.trans s2).trans s3) _ fun H4 s4 =>
    ⟨S l, hv, by rw [S_len]; exact small hz, q _ H4 ((s2.trans s3).trans s4) (by show V.str (cutS (S l) lo hi) = _; rw [S_cut])⟩
theorem ev_slTo {l : Tx} {i : Int} (n : Nat) (h : Ev K te σ H (.str l)) (h2 : Ev K tb σ H (.int i)) (e : i = (n : Int)) (hz : l.length ≤ 100000) : Ev K (tSl rSlS te tNoPart (tPart tb)) σ H (.str (l.take n)) := by
  have q := ev_slS h eo_none (eo_some h2) hz
  rw [e, cutL_to] at q
  exact q
theorem ev_slFrom {l : Tx} {i : Int} (n : Nat) (h : Ev K te σ H (.str l)) (h2 : Ev K tb σ H (.int i)) (e : i = (n : Int)) (hz : l.length ≤ 100000) : Ev K (tSl rSlS te (tPart tb) tNoPart) σ H (.str (l.drop n)) := by
  have q := ev_slS h (eo_some h2) eo_none hz
  rw [e, cutL_from] at q
  exact q
theorem ev_slNN {l : Tx} {i j : Int} (n m : Nat) (h : Ev K te σ H (.str l)) (h1 : Ev K ta σ H (.int i)) (h2 : Ev K tb σ H (.int j)) (e1 : i = (n : Int)) (e2 : j = ((n + m : Nat) : Int)) (hz : l.length ≤ 100000) : Ev K (tSl rSlS te (tPart ta) (tPart tb)) σ H (.str ((l.drop n).take m)) := by
  have q := ev_slS h (eo_some h1) (eo_some h2) hz
  rw [e1, e2, cutL_nn, Nat.add_sub_cancel_left] at q
  exact q
def cutD (ds : List D) (lo hi : Option Int) : List D := (ds.drop (HT.sIx ds.length 0 lo)).take (HT.sIx ds.length ds.length hi - HT.sIx ds.length 0 lo)
theorem cut_dts {ds : List D} {vs : List V} (h : Dts K H ds vs) (lo hi : Option Int) : Dts K H (cutD ds lo hi) (cutV vs lo hi) := by
  unfold cutD cutV
  rw [h.len]
  exact Dts.take _ (Dts.drop _ h)
theorem en_slL {ds : List D} {tl th : TO} {lo hi : Option Int} (h : Ev K te σ H (.lst ds)) (h1 : EvO K tl σ H lo) (h2 : EvO K th σ H hi) : EvN K (tSl (rSlL K) te tl th) σ H (cutD ds lo hi) := fun H1 a Q q =>
  h H1 a _ fun v H2 s2 ⟨b, vs, e1, e2, e3⟩ => h1 H2 (a.trans s2) _ fun H3 s3 => h2 H3 ((a.trans s2).trans s3) _ fun H4 s4 =>
    ⟨b, vs, e1, SqL.of ((s3.trans s4) _ _ e2), fun p hp => q p _ _ (((s2.trans s3).trans s4).free hp) (((s2.trans s3).trans s4).trans (Same.new hp)) upd_same
      (Dts.mono ((s3.trans s4).trans (Same.new hp)) _ (cut_dts e3 lo hi))⟩
theorem ev_cb {r : List V → Hp → VK → Prop} {t : TA} {ds : List D} {z : D} (h : EvA K t σ H ds) (hr : ∀ vs H1, Same H H1 → Dts K H1 ds vs → ∀ Q : VK, (∀ x H2, Same H1 H2 → Dt K H2 z x → Q x H2) → r vs H1 Q) : Ev K (tCB r t) σ H z := fun H1 a Q q =>
  h H1 a _ fun vs H2 s2 hvs => hr vs H2 (a.trans s2) hvs Q fun x H3 s3 hx => q x H3 (s2.trans s3) hx
theorem en_cb {r : List V → Hp → VK → Prop} {t : TA} {ds : List D} {zs : List D} (h : EvA K t σ H ds) (hr : ∀ vs H1, Same H H1 → Dts K H1 ds vs → ∀ Q : VK, (∀ p ws H2, H1 p = none → Same H1 H2 → H2 p = some (.lst ws) → Dts K H2 zs ws → Q (.ref p) H2) → r vs H1 Q) : EvN K (tCB r t) σ H zs := fun H1 a Q q =>
  h H1 a _ fun vs H2 s2 hvs => hr vs H2 (a.trans s2) hvs Q fun p ws H3 hp s3 h1 h2 => q p ws H3 (s2.free hp) (s2.trans s3) h1 h2
theorem ev_lenS {l : Tx} (ha : Ev K ta σ H (.str l)) (hz : l.length ≤ 100000) : Ev K (tCB (fun xs H Q => ∃ z, xs = [.str z] ∧ z.length ≤ sizeLine ∧ Q (.int z.length) H) (tCons ta tNil)) σ H (.int (l.length : Int)) :=
  ev_cb (ea_cons ha ea_nil) fun vs H1 _ ⟨v, r, h1, h2, h3⟩ Q q => ⟨S l, by rw [h1, show v = .str (S l) from h2, show r = [] from h3], by rw [S_len]; exact small hz, q _ _ (Same.refl _) (by rw [S_len]; rfl)⟩
theorem ev_lenL {ds : List D} (ha : Ev K ta σ H (.lst ds)) : Ev K (tCB (fun xs H Q => ∃ p ys, xs = [.ref p] ∧ (SqL K H p ys ∨ SqT K H p ys) ∧ Q (.int ys.length) H) (tCons ta tNil)) σ H (.int (ds.length : Int)) :=
  ev_cb (ea_cons ha ea_nil) fun vs H1 _ ⟨v, r, h1, ⟨a, ws, e1, e2, e3⟩, h3⟩ Q q => ⟨a, ws, by rw [h1, e1, show r = [] from h3], .inl (SqL.of e2), q _ _ (Same.refl _) (by rw [e3.len]; rfl)⟩
theorem ev_lenT {ds : List D} (ha : Ev K ta σ H (.tup ds)) : Ev K (tCB (fun xs H Q => ∃ p ys, xs = [.ref p] ∧ (SqL K H p ys ∨ SqT K H p ys) ∧ Q (.int ys.length) H) (tCons ta tNil)) σ H (.int (ds.length : Int)) :=
  ev_cb (ea_cons ha ea_nil) fun vs H1 _ ⟨v, r, h1, ⟨a, ws, e1, e2, e3⟩, h3⟩ Q q => ⟨a, ws, by rw [h1, e1, show r = [] from h3], .inr (SqT.of e2), q _ _ (Same.refl _) (by rw [e3.len]; rfl)⟩
theorem ev_lenR {ns : List Int} (ha : Ev K ta σ H (.scr ns)) : Ev K (tCB (fun xs H Q => ∃ p ys, xs = [.ref p] ∧ (SqL K H p ys ∨ SqT K H p ys) ∧ Q (.int ys.length) H) (tCons ta tNil)) σ H (.int (ns.length : Int)) :=
  ev_cb (ea_cons ha ea_nil) fun vs H1 _ ⟨v, r, h1, ⟨a, e1, e2⟩, h3⟩ Q q => ⟨a, _, by rw [h1, e1, show r = [] from h3], .inl e2.sql, q _ _ (Same.refl _) (by rw [List.length_map]; rfl)⟩
theorem ev_tuple {ds : List D} (ha : Ev K ta σ H (.lst ds)) : Ev K (tCB (fun xs H Q => ∃ p ys, xs = [.ref p] ∧ ((SqL K H p ys ∧ ∀ l, H l = none → Q (.ref l) (upd H l (.tup ys))) ∨ (SqT K H p ys ∧ Q (.ref p) H))) (tCons ta tNil)) σ H (.tup ds) :=
  ev_cb (ea_cons ha ea_nil) fun vs H1 _ ⟨v, r, h1, ⟨a, ws, e1, e2, e3⟩, h3⟩ Q q => ⟨a, ws, by rw [h1, e1, show r = [] from h3], .inl ⟨SqL.of e2, fun l hl => q _ _ (Same.new hl) ⟨l, ws, rfl, upd_same, Dts.mono (Same.new hl) ds e3⟩⟩⟩
theorem en_cat {ds es : List D} (ha : Ev K ta σ H (.lst ds)) (hb : Ev K tb σ H (.lst es)) (hz : ds.length + es.length ≤ 100000) : EvN K (tOp rCat ta tb) σ H (ds ++ es) := fun H1 a Q q =>
  ha H1 a _ fun v H2 s2 ⟨b, vs, e1, e2, e3⟩ => hb H2 (a.trans s2) _ fun w H3 s3 ⟨c, ws, f1, f2, f3⟩ =>
    ⟨b, c, vs, ws, e1, f1, s3 _ _ e2, f2, by rw [e3.len, f3.len]; exact small hz, fun p hp => q p _ _ ((s2.trans s3).free hp) ((s2.trans s3).trans (Same.new hp)) upd_same
      (Dts.app (Dts.mono (s3.trans (Same.new hp)) _ e3) (Dts.mono (Same.new hp) _ f3))⟩

/-! ### isinstance -/
def D.ty : D → Option String
  | .non => some "NoneType"
  | .bl _ => some "bool"
  | .int _ => some "int"
  | .str _ => some "str"
  | .tup _ => some "tuple"
  | .lst _ => some "list"
  | _ => none
theorem Dt.tyx {d : D} {v : V} {n : String} (h : Dt K H d v) (e : d.ty = some n) : TyX K H v (.type n) := by
  cases d with
  | non => rw [show v = V.non from h, ← Option.some.inj e]; exact .base .non
  | bl b => rw [show v = V.bl b from h, ← Option.some.inj e]; exact .base (.bl _)
  | int b => rw [show v = V.int b from h, ← Option.some.inj e]; exact .base (.int _)
  | str b => rw [show v = V.str (S b) from h, ← Option.some.inj e]; exact .base (.str _)
  | tup ds => obtain ⟨a, vs, h1, h2, _⟩ := h; rw [h1, ← Option.some.inj e]; exact .base (.tup h2)
  | lst ds => obtain ⟨a, vs, h1, h2, _⟩ := h; rw [h1, ← Option.some.inj e]; exact .base (.lst h2)
  | raw w => exact absurd e (by intro q; cases q)
  | scr ns => exact absurd e (by intro q; cases q)
theorem ev_isi {m n : String} {b : Bool} (ha : Ev K ta σ H d) (h : d.ty = some n) (hb : kitB n m = some b) : Ev K (tCB (rIsi K) (tCons ta (tCons (tC (.ty m)) tNil))) σ H (.bl b) :=
  ev_cb (ea_cons ha (ea_cons ev_c ea_nil)) fun vs H1 _ ⟨v, r, h1, hv, w, r2, h3, hw, h5⟩ Q q =>
    ⟨v, .ty m, .type n, .type m, b, by rw [h1, h3, show w = .ty m from hw, show r2 = [] from h5], .ty m, hv.tyx h, kit_ty hb, q _ _ (Same.refl _) rfl⟩

/-! the answers of isinstance -/
theorem kit_NoneType_str : kitB "NoneType" "str" = some false := by decide +kernel
theorem kit_NoneType_int : kitB "NoneType" "int" = some false := by decide +kernel
theorem kit_NoneType_bool : kitB "NoneType" "bool" = some false := by decide +kernel
theorem kit_NoneType_tuple : kitB "NoneType" "tuple" = some false := by decide +kernel
theorem kit_NoneType_list : kitB "NoneType" "list" = some false := by decide +kernel
theorem kit_bool_str : kitB "bool" "str" = some false := by decide +kernel
theorem kit_bool_int : kitB "bool" "int" = some true := by decide +kernel
theorem kit_bool_bool : kitB "bool" "bool" = some true := by decide +kernel
theorem kit_bool_tuple : kitB "bool" "tuple" = some false := by decide +kernel
theorem kit_bool_list : kitB "bool" "list" = some false := by decide +kernel
theorem kit_int_str : kitB "int" "str" = some false := by decide +kernel
theorem kit_int_int : kitB "int" "int" = some true := by decide +kernel
theorem kit_int_bool : kitB "int" "bool" = some false := by decide +kernel
theorem kit_int_tuple : kitB "int" "tuple" = some false := by decide +kernel
theorem kit_int_list : kitB "int" "list" = some false := by decide +kernel
theorem kit_str_str : kitB "str" "str" = some true := by decide +kernel
theorem kit_str_int : kitB "str" "int" = some false := by decide +kernel
theorem kit_str_bool : kitB "str" "bool" = some false := by decide +kernel
theorem kit_str_tuple : kitB "str" "tuple" = some false := by decide +kernel
theorem kit_str_list : kitB "str" "list" = some false := by decide +kernel
theorem kit_tuple_str : kitB "tuple" "str" = some false := by decide +kernel
theorem kit_tuple_int : kitB "tuple" "int" = some false := by decide +kernel
theorem kit_tuple_bool : kitB "tuple" "bool" = some false := by decide +kernel
theorem kit_tuple_tuple : kitB "tuple" "tuple" = some true := by decide +kernel
theorem kit_tuple_list : kitB "tuple" "list" = some false := by decide +kernel
theorem kit_list_str : kitB "list" "str" = some false := by decide +kernel
theorem kit_list_int : kitB "list" "int" = some false := by decide +kernel
theorem kit_list_bool : kitB "list" "bool" = some false := by decide +kernel
theorem kit_list_tuple : kitB "list" "tuple" = some false := by decide +kernel
theorem kit_list_list : kitB "list" "list" = some true := by decide +kernel

/-! ### tests -/
theorem et_test {b : Bool} (h : Ev K te σ H (.bl b)) : EvT K (tTest te) σ H b := fun H1 a _ q => h H1 a _ fun v H2 s hv => ⟨b, hv, q H2 s⟩
theorem et_B {b : Bool} (h : Ev K te σ H (.bl b)) : EvT K (tB te) σ H b := fun H1 a _ q => h H1 a _ fun v H2 s hv => ⟨b, hv, q H2 s⟩
theorem et_and {a b : Bool} (h1 : EvT K t σ H a) (h2 : a = true → EvT K u σ H b) : EvT K (tAnd t u) σ H (a && b) := fun H1 e Q q => h1 H1 e _ fun H2 e2 => by
  cases a with
  | true => show u σ H2 Q; exact h2 rfl H2 (e.trans e2) Q fun H3 e3 => q H3 (e2.trans e3)
  | false => show Q false H2; exact q H2 e2
theorem et_or {a b : Bool} (h1 : EvT K t σ H a) (h2 : a = false → EvT K u σ H b) : EvT K (tOr t u) σ H (a || b) := fun H1 e Q q => h1 H1 e _ fun H2 e2 => by
  cases a with
  | true => show Q true H2; exact q H2 e2
  | false => show u σ H2 Q; exact h2 rfl H2 (e.trans e2) Q fun H3 e3 => q H3 (e2.trans e3)
theorem et_not {a : Bool} (h1 : EvT K t σ H a) : EvT K (tNot t) σ H (!a) := fun H1 e _ q => h1 H1 e _ fun H2 e2 => q H2 e2
theorem et_orT (h1 : EvT K t σ H true) : EvT K (tOr t u) σ H true := fun H1 e Q q => h1 H1 e _ fun H2 e2 => by
  show Q true H2; exact q H2 e2
theorem et_orF {b : Bool} (h1 : EvT K t σ H false) (h2 : EvT K u σ H b) : EvT K (tOr t u) σ H b := fun H1 e Q q => h1 H1 e _ fun H2 e2 => by
  show u σ H2 Q; exact h2 H2 (e.trans e2) Q fun H3 e3 => q H3 (e2.trans e3)
theorem et_andT {b : Bool} (h1 : EvT K t σ H true) (h2 : EvT K u σ H b) : EvT K (tAnd t u) σ H b := fun H1 e Q q => h1 H1 e _ fun H2 e2 => by
  show u σ H2 Q; exact h2 H2 (e.trans e2) Q fun H3 e3 => q H3 (e2.trans e3)
theorem et_andF (h1 : EvT K t σ H false) : EvT K (tAnd t u) σ H false := fun H1 e Q q => h1 H1 e _ fun H2 e2 => by
  show Q false H2; exact q H2 e2
theorem ev_andT (h1 : Ev K ta σ H (.bl true)) (h2 : Ev K tb σ H d) : Ev K (tAndV ta tb) σ H d := fun H1 e Q q => h1 H1 e _ fun v H2 e2 hv => ⟨true, hv, by
  show tb σ H2 Q; exact h2 H2 (e.trans e2) Q fun w H3 e3 hw => q w H3 (e2.trans e3) hw⟩
theorem ev_andF (h1 : Ev K ta σ H (.bl false)) : Ev K (tAndV ta tb) σ H (.bl false) := fun H1 e Q q => h1 H1 e _ fun v H2 e2 hv => ⟨false, hv, by
  show Q (.bl false) H2; exact q _ H2 e2 rfl⟩
theorem ev_orT (h1 : Ev K ta σ H (.bl true)) : Ev K (tOrV ta tb) σ H (.bl true) := fun H1 e Q q => h1 H1 e _ fun v H2 e2 hv => ⟨true, hv, by
  show Q (.bl true) H2; exact q _ H2 e2 rfl⟩
theorem ev_orF (h1 : Ev K ta σ H (.bl false)) (h2 : Ev K tb σ H d) : Ev K (tOrV ta tb) σ H d := fun H1 e Q q => h1 H1 e _ fun v H2 e2 hv => ⟨false, hv, by
  show tb σ H2 Q; exact h2 H2 (e.trans e2) Q fun w H3 e3 hw => q w H3 (e2.trans e3) hw⟩
theorem ev_andV {a b : Bool} (h1 : Ev K ta σ H (.bl a)) (h2 : a = true → Ev K tb σ H (.bl b)) : Ev K (tAndV ta tb) σ H (.bl (a && b)) := by
  cases a with
  | true => exact ev_andT h1 (h2 rfl)
  | false => exact ev_andF h1
theorem ev_orV {a b : Bool} (h1 : Ev K ta σ H (.bl a)) (h2 : a = false → Ev K tb σ H (.bl b)) : Ev K (tOrV ta tb) σ H (.bl (a || b)) := by
  cases a with
  | false => exact ev_orF h1 (h2 rfl)
  | true => exact ev_orT h1
theorem ev_notV {a : Bool} (h1 : Ev K ta σ H (.bl a)) : Ev K (tNotV ta) σ H (.bl (!a)) := fun H1 e _ q => h1 H1 e _ fun v H2 e2 hv => ⟨a, hv, q _ H2 e2 rfl⟩

/-! ### defs -/
/-- a def that answers data and leaves what was tracked -/
def Fn (K : PySem.W.Frag) (R : List D → D → Prop) : Sp := fun vs H Q _ => ∃ ds d, Dts K H ds vs ∧ R ds d ∧ ∀ v H', Same H H' → Dt K H' d v → Q v H'
/-- .. a new list -/
def FnN (K : PySem.W.Frag) (R : List D → List D → Prop) : Sp := fun vs H Q _ => ∃ ds es, Dts K H ds vs ∧ R ds es ∧ ∀ p ws H', H p = none → Same H H' → H' p = some (.lst ws) → Dts K H' es ws → Q (.ref p) H'
theorem ev_call {R : List D → D → Prop} {t : TA} {ds : List D} {E : XK} (h : EvA K t σ H ds) (hR : R ds d) : Ev K (tCall (Fn K R) [] E t) σ H d := fun H1 a Q q =>
  h H1 a _ fun vs H2 s2 hvs => ⟨ds, d, by rw [List.append_nil]; exact hvs, hR, fun v H3 s3 hv => q v H3 (s2.trans s3) hv⟩
theorem en_call {R : List D → List D → Prop} {t : TA} {ds es : List D} {E : XK} (h : EvA K t σ H ds) (hR : R ds es) : EvN K (tCall (FnN K R) [] E t) σ H es := fun H1 a Q q =>
  h H1 a _ fun vs H2 s2 hvs => ⟨ds, es, by rw [List.append_nil]; exact hvs, hR, fun p ws H3 hp s3 h1 h2 => q p ws H3 (s2.free hp) (s2.trans s3) h1 h2⟩
theorem ev_callN {R : List D → List D → Prop} {t : TA} {ds es : List D} {E : XK} (h : EvA K t σ H ds) (hR : R ds es) : Ev K (tCall (FnN K R) [] E t) σ H (.lst es) := (en_call h hR).ev

/-! ### statements -/
variable {ds : List (Option D)} {E : Ends} {tu tw : TS}
theorem s_asg {i : Nat} (s : Sl K H ds σ) (h : Ev K te σ H d) (k : ∀ σ' H', Same H H' → Sl K H' (ds.set i (some d)) σ' → E.nx σ' H') : tAsg te (gName i) E σ H :=
  h H (Same.refl H) _ fun v H1 e hv => k _ H1 e ((s.mono e).set i hv)
theorem q_asg {i : Nat} (s : Sl K H ds σ) (h : Ev K te σ H d) (k : ∀ σ' H', Same H H' → Sl K H' (ds.set i (some d)) σ' → tu E σ' H') : tSeq (tAsg te (gName i)) tu E σ H := s_asg (E := { E with nx := tu E }) s h k
/-- a text, an int is given a name -/
theorem q_asgW {i : Nat} {w : Tx} (s : Sl K H ds σ) (h : Ev K te σ H (.str w)) (k : ∀ w' σ' H', w' = w → Same H H' → Sl K H' (ds.set i (some (.str w'))) σ' → tu E σ' H') : tSeq (tAsg te (gName i)) tu E σ H := q_asg s h fun σ' H' e s' => k w σ' H' rfl e s'
theorem q_asgI {i : Nat} {w : Int} (s : Sl K H ds σ) (h : Ev K te σ H (.int w)) (k : ∀ w' σ' H', w' = w → Same H H' → Sl K H' (ds.set i (some (.int w'))) σ' → tu E σ' H') : tSeq (tAsg te (gName i)) tu E σ H := q_asg s h fun σ' H' e s' => k w σ' H' rfl e s'
/-- a new local list, at its address -/
theorem s_asgN {i : Nat} {es : List D} (s : Sl K H ds σ) (h : EvN K te σ H es) (k : ∀ p vs σ' H', H p = none → Same H H' → H' p = some (.lst vs) → Dts K H' es vs → Sl K H' (ds.set i (some (.raw (.ref p)))) σ' → E.nx σ' H') : tAsg te (gName i) E σ H :=
  h H (Same.refl H) _ fun p vs H1 hp e h1 h2 => k p vs _ H1 hp e h1 h2 ((s.mono e).set i rfl)
theorem q_asgN {i : Nat} {es : List D} (s : Sl K H ds σ) (h : EvN K te σ H es) (k : ∀ p vs σ' H', H p = none → Same H H' → H' p = some (.lst vs) → Dts K H' es vs → Sl K H' (ds.set i (some (.raw (.ref p)))) σ' → tu E σ' H') : tSeq (tAsg te (gName i)) tu E σ H := s_asgN (E := { E with nx := tu E }) s h k
theorem s_ret (h : Ev K te σ H d) (k : ∀ v H', Same H H' → Dt K H' d v → E.rt v H') : tRet te E σ H := h H (Same.refl H) _ k
theorem s_retN {es : List D} (h : EvN K te σ H es) (k : ∀ p vs H', H p = none → Same H H' → H' p = some (.lst vs) → Dts K H' es vs → E.rt (.ref p) H') : tRet te E σ H := h H (Same.refl H) _ k
theorem s_if {b : Bool} (h : EvT K t σ H b) (h1 : b = true → ∀ H', Same H H' → tu E σ H') (h2 : b = false → ∀ H', Same H H' → tw E σ H') : tIfS t tu tw E σ H := h H (Same.refl H) _ fun H1 e => by
  cases b with
  | true => show tu E σ H1; exact h1 rfl H1 e
  | false => show tw E σ H1; exact h2 rfl H1 e
theorem q_if {b : Bool} {tv : TS} (h : EvT K t σ H b) (h1 : b = true → ∀ H', Same H H' → tu { E with nx := tv E } σ H') (h2 : b = false → ∀ H', Same H H' → tw { E with nx := tv E } σ H') : tSeq (tIfS t tu tw) tv E σ H := s_if (E := { E with nx := tv E }) h h1 h2
theorem s_ifT (h : EvT K t σ H true) (h1 : ∀ H', Same H H' → tu E σ H') : tIfS t tu tw E σ H := s_if h (fun _ => h1) (fun q => by cases q)
theorem s_ifF (h : EvT K t σ H false) (h1 : ∀ H', Same H H' → tw E σ H') : tIfS t tu tw E σ H := s_if h (fun q => by cases q) (fun _ => h1)
theorem q_ifT {tv : TS} (h : EvT K t σ H true) (h1 : ∀ H', Same H H' → tu { E with nx := tv E } σ H') : tSeq (tIfS t tu tw) tv E σ H := s_ifT (E := { E with nx := tv E }) h h1
theorem q_ifF {tv : TS} (h : EvT K t σ H false) (h1 : ∀ H', Same H H' → tw { E with nx := tv E } σ H') : tSeq (tIfS t tu tw) tv E σ H := s_ifF (E := { E with nx := tv E }) h h1
/-- an if without else whose test is false: straight on -/
theorem q_ifF0 {tv : TS} (h : EvT K t σ H false) (h1 : ∀ H', Same H H' → tv E σ H') : tSeq (tIfS t tu tNext) tv E σ H := q_ifF h h1
theorem q_if0 {b : Bool} {tv : TS} (h : EvT K t σ H b) (h1 : b = true → ∀ H', Same H H' → tu { E with nx := tv E } σ H') (h2 : b = false → ∀ H', Same H H' → tv E σ H') : tSeq (tIfS t tu tNext) tv E σ H := q_if h h1 h2
/-- an if behind which the ways meet: P, what holds of the slots -/
theorem q_ifJ {b : Bool} {tv : TS} (P : List (Option D) → Prop) (h : EvT K t σ H b)
    (h1 : b = true → ∀ H' (N : St → Hp → Prop), Same H H' → (∀ ds2 σ2 H2, P ds2 → Same H' H2 → Sl K H2 ds2 σ2 → N σ2 H2) → tu { E with nx := N } σ H')
    (h2 : b = false → ∀ H' (N : St → Hp → Prop), Same H H' → (∀ ds2 σ2 H2, P ds2 → Same H' H2 → Sl K H2 ds2 σ2 → N σ2 H2) → tw { E with nx := N } σ H')
    (k : ∀ ds2 σ2 H2, P ds2 → Same H H2 → Sl K H2 ds2 σ2 → tv E σ2 H2) : tSeq (tIfS t tu tw) tv E σ H :=
  q_if h (fun c H' e => h1 c H' (tv E) e fun ds2 σ2 H2 p e2 s2 => k ds2 σ2 H2 p (e.trans e2) s2) (fun c H' e => h2 c H' (tv E) e fun ds2 σ2 H2 p e2 s2 => k ds2 σ2 H2 p (e.trans e2) s2)
/-- .. without else -/
theorem q_ifJ0 {b : Bool} {tv : TS} (P : List (Option D) → Prop) {d0 : List (Option D)} (s0 : Sl K H d0 σ) (h : EvT K t σ H b)
    (h1 : b = true → ∀ H' (N : St → Hp → Prop), Same H H' → (∀ ds2 σ2 H2, P ds2 → Same H' H2 → Sl K H2 ds2 σ2 → N σ2 H2) → tu { E with nx := N } σ H')
    (h2 : b = false → P d0) (k : ∀ ds2 σ2 H2, P ds2 → Same H H2 → Sl K H2 ds2 σ2 → tv E σ2 H2) : tSeq (tIfS t tu tNext) tv E σ H :=
  q_ifJ P h h1 (fun c H' N e n => n d0 σ H' (h2 c) (Same.refl _) (s0.mono e)) k
theorem s_drop (h : Ev K te σ H d) (k : ∀ H', Same H H' → E.nx σ H') : tDrop te E σ H := h H (Same.refl H) _ fun _ H1 e _ => k H1 e
theorem s_seq {tv : TS} (h : tu { E with nx := tv E } σ H) : tSeq tu tv E σ H := h

/-- the list at l is another one behind, all else stands -/
structure Chg (l : Addr) (H H' : Hp) : Prop where
  ex : ∃ H2 xs o, Same H H2 ∧ H l = some (.lst xs) ∧ H' = upd H2 l o
theorem Chg.same0 {l : Addr} {H0 : Hp} (c : Chg l H H') (h0 : H0 l = none) (s : Same H0 H) : Same H0 H' := by
  obtain ⟨H2, xs, o, s2, _, rfl⟩ := c.ex
  exact Same.mut (s.trans s2) h0
theorem Chg.dt {l : Addr} {v : V} (c : Chg l H H') (i : d.imm = true) (h : Dt K H d v) : Dt K H' d v := by
  obtain ⟨H2, xs, o, s2, e, rfl⟩ := c.ex
  exact Dt.put (s2 _ _ e) d i (Dt.mono s2 d h)
theorem Chg.sl {l : Addr} (c : Chg l H H') (i : ∀ d, some d ∈ ds → d.imm = true) (h : Sl K H ds σ) : Sl K H' ds σ := by
  obtain ⟨H2, xs, o, s2, e, rfl⟩ := c.ex
  exact Sl.put (s2 _ _ e) i (h.mono s2)
theorem Chg.keep {l b : Addr} {o : HO} (c : Chg l H H') (n : b ≠ l) (h : H b = some o) : H' b = some o := by
  obtain ⟨H2, xs, u, s2, e, rfl⟩ := c.ex
  rw [upd_ne n]; exact s2 _ _ h
/-- xs.append(e), xs a local list at l -/
theorem s_app {l : Addr} {vs : List V} {es : List D} (hl : H l = some (.lst vs)) (hd : Dts K H es vs) (hi : D.imms es = true) (ha : Ev K ta σ H (.raw (.ref l))) (h : Ev K te σ H d) (hdi : d.imm = true) (hz : es.length < 100000)
    (k : ∀ ws H', Chg l H H' → H' l = some (.lst ws) → Dts K H' (es ++ [d]) ws → E.nx σ H') : tDrop (tBM K "list" rAppend ta (tCons te tNil)) E σ H :=
  ha H (Same.refl H) _ fun x H1 e1 hx => by
    rw [show x = .ref l from hx]
    refine ⟨Or.inl ⟨rfl, vs, SqL.of (e1 _ _ hl)⟩, h H1 e1 _ fun v H2 e2 hv => ⟨l, vs, v, rfl, rfl, e2 _ _ (e1 _ _ hl), smallLt (by rw [hd.len]; exact hz), ?_⟩⟩
    have e12 := e1.trans e2
    exact k _ _ ⟨H2, vs, _, e12, hl, rfl⟩ upd_same (Dts.put (e12 _ _ hl) _ (D.imms_app hi (D.imms_of (by intro d' hd'; rw [List.mem_singleton.mp hd']; exact hdi))) (Dts.snoc (Dts.mono e12 _ hd) hv))
end
end Rt
namespace Rt
open PySem L2

/-- all but l stands -/
def Sm (l : Addr) (H H' : Hp) : Prop := ∀ b o, b ≠ l → H b = some o → H' b = some o
theorem Sm.refl (l : Addr) (H : Hp) : Sm l H H := fun _ _ _ h => h
theorem Same.sm {H H' : Hp} (l : Addr) (s : Same H H') : Sm l H H' := fun b o _ h => s b o h
theorem Sm.trans {l : Addr} {H H1 H2 : Hp} (a : Sm l H H1) (b : Sm l H1 H2) : Sm l H H2 := fun c o n h => b c o n (a c o n h)
theorem Chg.sm {l : Addr} {H H' : Hp} (c : Chg l H H') : Sm l H H' := fun b o n h => c.keep n h
theorem Sm.same0 {l : Addr} {H0 H H' : Hp} (c : Sm l H H') (h0 : H0 l = none) (s : Same H0 H) : Same H0 H' := fun b o h => c b o (ne_of_none h h0) (s b o h)

section
variable {K : PySem.W.Frag} {σ : St} {H H' : Hp} {ta tb te tl : TE} {t u : TT} {d e : D} {ds : List (Option D)} {E : Ends} {tu tw : TS}

/-! ### for, nothing of the heap changes -/
/-- a turn: from the heap H (turn i) to the next one -/
def Turn (K : PySem.W.Frag) (P : Nat → List (Option D) → Prop) (tu : TS) (E : Ends) (j : Nat) (H : Hp) (i : Nat) (d : D) : Prop :=
  ∀ ds σ' H' (N : St → Hp → Prop), P i ds → Same H H' → Sl K H' (ds.set j (some d)) σ' → (∀ ds2 σ2 H2, P (i + 1) ds2 → Same H' H2 → Sl K H2 ds2 σ2 → N σ2 H2) → tu { E with nx := N, ct := N, bk := E.nx } σ' H'
theorem map_at {α : Type} {l : List α} {enc : α → D} {i : Nat} {d : D} (h : (l.map enc)[i]? = some d) : ∃ a, l[i]? = some a ∧ d = enc a := by
  rw [List.getElem?_map] at h
  cases e : l[i]? with
  | none => rw [e] at h; cases h
  | some a => rw [e] at h; exact ⟨a, rfl, (Option.some.inj h).symm⟩
theorem s_forT {α : Type} {l : List α} {enc : α → D} {j : Nat} (h : Ev K tl σ H (.tup (l.map enc))) (P : Nat → List (Option D) → Prop) {d0 : List (Option D)} (s0 : Sl K H d0 σ) (p0 : P 0 d0)
    (step : ∀ i a, l[i]? = some a → Turn K P tu E j H i (enc a)) (done : ∀ ds σ' H', P l.length ds → Same H H' → Sl K H' ds σ' → E.nx σ' H') : tFor (iTup K tl) (gName j) tu E σ H :=
  h H (Same.refl H) _ fun v H1 s1 ⟨a, vs, e1, e2, e3⟩ => ⟨a, e1, ⟨vs, SqT.of e2⟩, for_tup (xs := vs) (fun i σ H' => ∃ ds, P i ds ∧ Same H1 H' ∧ Sl K H' ds σ) ⟨d0, p0, Same.refl _, s0.mono s1⟩
    (fun i σ' H' _ ⟨ds, p, s, sl⟩ => SqT.of (s _ _ e2))
    (fun i x σ' H' hx ⟨ds, p, s, sl⟩ => by
      obtain ⟨d, hd, hv⟩ := (Dts.mono s _ e3).getv hx
      obtain ⟨a', ha', rfl⟩ := map_at hd
      exact step i a' ha' ds _ H' _ p (s1.trans s) (sl.set j hv) fun ds2 σ2 H2 p2 s2 sl2 => ⟨ds2, p2, s.trans s2, sl2⟩)
    (fun σ' H' ⟨ds, p, s, sl⟩ => by rw [e3.len, List.length_map] at p; exact done ds σ' H' p (s1.trans s) sl)⟩
theorem s_forL {α : Type} {l : List α} {enc : α → D} {j : Nat} (h : Ev K tl σ H (.lst (l.map enc))) (P : Nat → List (Option D) → Prop) {d0 : List (Option D)} (s0 : Sl K H d0 σ) (p0 : P 0 d0)
    (step : ∀ i a, l[i]? = some a → Turn K P tu E j H i (enc a)) (done : ∀ ds σ' H', P l.length ds → Same H H' → Sl K H' ds σ' → E.nx σ' H') : tFor (iList K tl) (gName j) tu E σ H :=
  h H (Same.refl H) _ fun v H1 s1 ⟨a, vs, e1, e2, e3⟩ => ⟨a, e1, ⟨vs, SqL.of e2⟩, for_list (xs := vs) (fun i σ H' => ∃ ds, P i ds ∧ Same H1 H' ∧ Sl K H' ds σ) ⟨d0, p0, Same.refl _, s0.mono s1⟩
    (fun i σ' H' _ ⟨ds, p, s, sl⟩ => SqL.of (s _ _ e2))
    (fun i x σ' H' hx ⟨ds, p, s, sl⟩ => by
      obtain ⟨d, hd, hv⟩ := (Dts.mono s _ e3).getv hx
      obtain ⟨a', ha', rfl⟩ := map_at hd
      exact step i a' ha' ds _ H' _ p (s1.trans s) (sl.set j hv) fun ds2 σ2 H2 p2 s2 sl2 => ⟨ds2, p2, s.trans s2, sl2⟩)
    (fun σ' H' ⟨ds, p, s, sl⟩ => by rw [e3.len, List.length_map] at p; exact done ds σ' H' p (s1.trans s) sl)⟩
theorem s_forR {j : Nat} {ta : TA} {n : Int} (m : Nat) (h : EvA K ta σ H [.int n]) (hm : m = n.toNat) (hn : n ≤ 100000 ∧ -100000 ≤ n) (P : Nat → List (Option D) → Prop) {d0 : List (Option D)} (s0 : Sl K H d0 σ) (p0 : P 0 d0)
    (step : ∀ i : Nat, i < m → Turn K P tu E j H i (.int (i : Int))) (done : ∀ ds σ' H', P m ds → Same H H' → Sl K H' ds σ' → E.nx σ' H') : tFor (iRng1 ta) (gName j) tu E σ H :=
  h H (Same.refl H) _ fun vs H1 s1 ⟨v, r, e1, e2, e3⟩ => ⟨n, by rw [e1, show v = .int n from e2, show r = [] from e3], by omega, by omega, for_range (lo := 0) (n := n.toNat) (fun i σ H' => ∃ ds, P i ds ∧ Same H1 H' ∧ Sl K H' ds σ) ⟨d0, p0, Same.refl _, s0.mono s1⟩
    (fun i σ' H' hi ⟨ds, p, s, sl⟩ => by
      have e0 : (0 : Int) + (i : Int) = (i : Int) := Int.zero_add _
      rw [e0]
      exact step i (by omega) ds _ H' _ p (s1.trans s) (sl.set (d := .int (i : Int)) j rfl) fun ds2 σ2 H2 p2 s2 sl2 => ⟨ds2, p2, s.trans s2, sl2⟩)
    (fun σ' H' ⟨ds, p, s, sl⟩ => by rw [← hm] at p; exact done ds σ' H' p (s1.trans s) sl)⟩
theorem s_forR2 {j : Nat} {ta : TA} {lo n : Int} (m : Nat) (h : EvA K ta σ H [.int lo, .int n]) (hm : m = (n - lo).toNat) (hn : n ≤ 100000 ∧ -100000 ≤ n ∧ lo ≤ 100000 ∧ -100000 ≤ lo) (P : Nat → List (Option D) → Prop) {d0 : List (Option D)} (s0 : Sl K H d0 σ) (p0 : P 0 d0)
    (step : ∀ i : Nat, i < m → Turn K P tu E j H i (.int (lo + (i : Int)))) (done : ∀ ds σ' H', P m ds → Same H H' → Sl K H' ds σ' → E.nx σ' H') : tFor (iRng2 ta) (gName j) tu E σ H :=
  h H (Same.refl H) _ fun vs H1 s1 ⟨v, r, e1, e2, w, r2, f1, f2, f3⟩ => ⟨lo, n, by rw [e1, show v = .int lo from e2, f1, show w = .int n from f2, show r2 = [] from f3], ⟨by omega, by omega, by omega, by omega⟩, for_range (lo := lo) (n := (n - lo).toNat) (fun i σ H' => ∃ ds, P i ds ∧ Same H1 H' ∧ Sl K H' ds σ) ⟨d0, p0, Same.refl _, s0.mono s1⟩
    (fun i σ' H' hi ⟨ds, p, s, sl⟩ => step i (by omega) ds _ H' _ p (s1.trans s) (sl.set (d := .int (lo + (i : Int))) j rfl) fun ds2 σ2 H2 p2 s2 sl2 => ⟨ds2, p2, s.trans s2, sl2⟩)
    (fun σ' H' ⟨ds, p, s, sl⟩ => by rw [← hm] at p; exact done ds σ' H' p (s1.trans s) sl)⟩
theorem s_while (W : Nat → List (Option D) → Prop) {d0 : List (Option D)} (m0 : Nat) (s0 : Sl K H d0 σ) (w0 : W m0 d0)
    (step : ∀ m ds σ' H', W m ds → Same H H' → Sl K H' ds σ' → ∃ b, EvT K t σ' H' b ∧ (b = true → ∀ H1 (N : St → Hp → Prop), Same H' H1 → (∀ m2 ds2 σ2 H2, m2 < m → W m2 ds2 → Same H1 H2 → Sl K H2 ds2 σ2 → N σ2 H2) → tu { E with nx := N, ct := N, bk := E.nx } σ' H1) ∧ (b = false → ∀ H1, Same H' H1 → E.nx σ' H1)) : tWhile t tu E σ H :=
  ⟨fun m σ' H' => ∃ ds, W m ds ∧ Same H H' ∧ Sl K H' ds σ', ⟨m0, d0, w0, Same.refl _, s0⟩, fun m σ' H' ⟨ds, w, s, sl⟩ => by
    obtain ⟨b, hb, h1, h2⟩ := step m ds σ' H' w s sl
    refine hb H' (Same.refl H') _ fun H1 e => ?_
    cases b with
    | true => exact ⟨fun σ2 H2 => ∃ m', m' < m ∧ ∃ ds, W m' ds ∧ Same H H2 ∧ Sl K H2 ds σ2, fun σ2 H2 ⟨m', l, z⟩ => ⟨m', l, z⟩, h1 rfl H1 _ e fun m2 ds2 σ2 H2 l w2 s2 sl2 => ⟨m2, l, ds2, w2, (s.trans e).trans s2, sl2⟩⟩
    | false => exact h2 rfl H1 e⟩
theorem q_forT {tv : TS} {α : Type} {l : List α} {enc : α → D} {j : Nat} (h : Ev K tl σ H (.tup (l.map enc))) (P : Nat → List (Option D) → Prop) {d0 : List (Option D)} (s0 : Sl K H d0 σ) (p0 : P 0 d0)
    (step : ∀ i a, l[i]? = some a → Turn K P tu { E with nx := tv E } j H i (enc a)) (done : ∀ ds σ' H', P l.length ds → Same H H' → Sl K H' ds σ' → tv E σ' H') : tSeq (tFor (iTup K tl) (gName j) tu) tv E σ H := s_forT (E := { E with nx := tv E }) h P s0 p0 step done
theorem q_forL {tv : TS} {α : Type} {l : List α} {enc : α → D} {j : Nat} (h : Ev K tl σ H (.lst (l.map enc))) (P : Nat → List (Option D) → Prop) {d0 : List (Option D)} (s0 : Sl K H d0 σ) (p0 : P 0 d0)
    (step : ∀ i a, l[i]? = some a → Turn K P tu { E with nx := tv E } j H i (enc a)) (done : ∀ ds σ' H', P l.length ds → Same H H' → Sl K H' ds σ' → tv E σ' H') : tSeq (tFor (iList K tl) (gName j) tu) tv E σ H := s_forL (E := { E with nx := tv E }) h P s0 p0 step done
theorem q_forR {tv : TS} {j : Nat} {ta : TA} {n : Int} (m : Nat) (h : EvA K ta σ H [.int n]) (hm : m = n.toNat) (hn : n ≤ 100000 ∧ -100000 ≤ n) (P : Nat → List (Option D) → Prop) {d0 : List (Option D)} (s0 : Sl K H d0 σ) (p0 : P 0 d0)
    (step : ∀ i : Nat, i < m → Turn K P tu { E with nx := tv E } j H i (.int (i : Int))) (done : ∀ ds σ' H', P m ds → Same H H' → Sl K H' ds σ' → tv E σ' H') : tSeq (tFor (iRng1 ta) (gName j) tu) tv E σ H := s_forR (E := { E with nx := tv E }) m h hm hn P s0 p0 step done
theorem q_while {tv : TS} (W : Nat → List (Option D) → Prop) {d0 : List (Option D)} (m0 : Nat) (s0 : Sl K H d0 σ) (w0 : W m0 d0)
    (step : ∀ m ds σ' H', W m ds → Same H H' → Sl K H' ds σ' → ∃ b, EvT K t σ' H' b ∧ (b = true → ∀ H1 (N : St → Hp → Prop), Same H' H1 → (∀ m2 ds2 σ2 H2, m2 < m → W m2 ds2 → Same H1 H2 → Sl K H2 ds2 σ2 → N σ2 H2) → tu { E with nx := N, ct := N, bk := tv E } σ' H1) ∧ (b = false → ∀ H1, Same H' H1 → tv E σ' H1)) : tSeq (tWhile t tu) tv E σ H := s_while (E := { E with nx := tv E }) W m0 s0 w0 step

/-! ### for, a local list at l is changed; P: the turn, the slots, the list's items -/
def TurnB (K : PySem.W.Frag) (l : Addr) (P : Nat → List (Option D) → List D → Prop) (tu : TS) (E : Ends) (j : Nat) (H : Hp) (i : Nat) (d : D) : Prop :=
  ∀ ds es vs σ' H' (N : St → Hp → Prop), P i ds es → Sm l H H' → Sl K H' (ds.set j (some d)) σ' → H' l = some (.lst vs) → Dts K H' es vs →
    (∀ ds2 es2 vs2 σ2 H2, P (i + 1) ds2 es2 → Sm l H' H2 → Sl K H2 ds2 σ2 → H2 l = some (.lst vs2) → Dts K H2 es2 vs2 → N σ2 H2) → tu { E with nx := N, ct := N, bk := E.nx } σ' H'
theorem s_forTB {l : Addr} {α : Type} {xs : List α} {enc : α → D} {j : Nat} (h : Ev K tl σ H (.tup (xs.map enc))) (P : Nat → List (Option D) → List D → Prop) {d0 : List (Option D)} {e0 : List D} {v0 : List V} (s0 : Sl K H d0 σ) (p0 : P 0 d0 e0) (hl : H l = some (.lst v0)) (hd0 : Dts K H e0 v0)
    (step : ∀ i a, xs[i]? = some a → TurnB K l P tu E j H i (enc a)) (done : ∀ ds es vs σ' H', P xs.length ds es → Sm l H H' → Sl K H' ds σ' → H' l = some (.lst vs) → Dts K H' es vs → E.nx σ' H')
    (tr : ∀ H' H2, Sm l H' H2 → (∃ ws, H' l = some (.lst ws)) → ∀ a, a ∈ xs → ∀ v, Dt K H' (enc a) v → Dt K H2 (enc a) v) : tFor (iTup K tl) (gName j) tu E σ H :=
  h H (Same.refl H) _ fun v H1 s1 ⟨a, vs, e1, e2, e3⟩ => by
    have nal : a ≠ l := ne_of e2 (s1 _ _ hl) (by intro q; cases q)
    refine ⟨a, e1, ⟨vs, SqT.of e2⟩, for_tup (xs := vs) (fun i σ H' => ∃ ds es ws, P i ds es ∧ Sm l H1 H' ∧ Sl K H' ds σ ∧ H' l = some (.lst ws) ∧ Dts K H' es ws) ⟨d0, e0, v0, p0, Sm.refl _ _, s0.mono s1, s1 _ _ hl, Dts.mono s1 _ hd0⟩
      (fun i σ' H' _ ⟨ds, es, ws, p, s, sl, hl', hd'⟩ => SqT.of (s _ _ nal e2))
      (fun i x σ' H' hx ⟨ds, es, ws, p, s, sl, hl', hd'⟩ => ?_)
      (fun σ' H' ⟨ds, es, ws, p, s, sl, hl', hd'⟩ => by rw [e3.len, List.length_map] at p; exact done ds es ws σ' H' p ((Same.sm l s1).trans s) sl hl' hd')⟩
    obtain ⟨d, hd, hv⟩ := e3.getv hx
    obtain ⟨a', ha', rfl⟩ := map_at hd
    exact step i a' ha' ds es ws _ H' _ p ((Same.sm l s1).trans s) (sl.set j (tr H1 H' s ⟨v0, s1 _ _ hl⟩ a' (List.mem_of_getElem? ha') x hv)) hl' hd' fun ds2 es2 ws2 σ2 H2 p2 s2 sl2 hl2 hd2 => ⟨ds2, es2, ws2, p2, s.trans s2, sl2, hl2, hd2⟩
theorem Fz.sm {a l : Addr} {xs ys : List V} (s : Sm l H H') (hl : H l = some (.lst ys)) (h : Fz K H a xs) : Fz K H' a xs := by
  rcases h with ⟨u, h⟩ | h
  · exact .inl ⟨u, s _ _ (ne_of h hl (by intro q; cases q)) h⟩
  · exact .inr h
mutual
theorem Dt.sm {l : Addr} {xs : List V} (s : Sm l H H') (hl : H l = some (.lst xs)) : ∀ (d : D) {v : V}, d.imm = true → Dt K H d v → Dt K H' d v
  | .non, _, _, h => h
  | .bl _, _, _, h => h
  | .int _, _, _, h => h
  | .str _, _, _, h => h
  | .raw _, _, _, h => h
  | .scr _, _, _, ⟨a, h1, h2⟩ => ⟨a, h1, Fz.sm s hl h2⟩
  | .tup ds, _, i, ⟨a, vs, h1, h2, h3⟩ => ⟨a, vs, h1, s _ _ (ne_of h2 hl (by intro q; cases q)) h2, Dts.sm s hl ds i h3⟩
  | .lst ds, _, i, _ => by cases i
theorem Dts.sm {l : Addr} {xs : List V} (s : Sm l H H') (hl : H l = some (.lst xs)) : ∀ (ds : List D) {vs : List V}, D.imms ds = true → Dts K H ds vs → Dts K H' ds vs
  | [], _, _, h => h
  | d :: ds, _, i, ⟨v, r, h1, h2, h3⟩ => by
    have i' : (d.imm && D.imms ds) = true := i
    rw [Bool.and_eq_true] at i'
    exact ⟨v, r, h1, Dt.sm s hl d i'.1 h2, Dts.sm s hl ds i'.2 h3⟩
end
theorem Sl.sm {l : Addr} {xs : List V} (s : Sm l H H') (hl : H l = some (.lst xs)) : ∀ {ds : List (Option D)} {σ : St}, (∀ d, some d ∈ ds → d.imm = true) → Sl K H ds σ → Sl K H' ds σ
  | [], _, _, h => h
  | none :: ds, _, i, ⟨x, r, h1, h2⟩ => ⟨x, r, h1, Sl.sm s hl (fun d hd => i d (List.mem_cons_of_mem _ hd)) h2⟩
  | some d :: ds, _, i, ⟨v, r, h1, h2, h3⟩ => ⟨v, r, h1, Dt.sm s hl d (i d List.mem_cons_self) h2, Sl.sm s hl (fun d hd => i d (List.mem_cons_of_mem _ hd)) h3⟩
/-- over a tuple of immutable data -/
theorem q_forTB {tv : TS} {l : Addr} {α : Type} {xs : List α} {enc : α → D} {j : Nat} (h : Ev K tl σ H (.tup (xs.map enc))) (hi : ∀ a ∈ xs, (enc a).imm = true) (P : Nat → List (Option D) → List D → Prop) {d0 : List (Option D)} {e0 : List D} {v0 : List V} (s0 : Sl K H d0 σ) (p0 : P 0 d0 e0) (hl : H l = some (.lst v0)) (hd0 : Dts K H e0 v0)
    (step : ∀ i a, xs[i]? = some a → TurnB K l P tu { E with nx := tv E } j H i (enc a)) (done : ∀ ds es vs σ' H', P xs.length ds es → Sm l H H' → Sl K H' ds σ' → H' l = some (.lst vs) → Dts K H' es vs → tv E σ' H') : tSeq (tFor (iTup K tl) (gName j) tu) tv E σ H :=
  s_forTB (E := { E with nx := tv E }) h P s0 p0 hl hd0 step done fun H' H2 s ⟨ws, hw⟩ a ha v hv => Dt.sm s hw _ (hi a ha) hv
/-- over a list (of immutable data) that does not stand at l -/
theorem s_forLB {l : Addr} {α : Type} {xs : List α} {enc : α → D} {j : Nat} (h : EvP tl σ H (fun v H1 => ∃ a vs, v = .ref a ∧ a ≠ l ∧ H1 a = some (.lst vs) ∧ Dts K H1 (xs.map enc) vs)) (hi : ∀ a ∈ xs, (enc a).imm = true) (P : Nat → List (Option D) → List D → Prop) {d0 : List (Option D)} {e0 : List D} {v0 : List V} (s0 : Sl K H d0 σ) (p0 : P 0 d0 e0) (hl : H l = some (.lst v0)) (hd0 : Dts K H e0 v0)
    (step : ∀ i a, xs[i]? = some a → TurnB K l P tu E j H i (enc a)) (done : ∀ ds es vs σ' H', P xs.length ds es → Sm l H H' → Sl K H' ds σ' → H' l = some (.lst vs) → Dts K H' es vs → E.nx σ' H') : tFor (iList K tl) (gName j) tu E σ H :=
  h H (Same.refl H) _ fun v H1 s1 ⟨a, vs, e1, nal, e2, e3⟩ => by
    refine ⟨a, e1, ⟨vs, SqL.of e2⟩, for_list (xs := vs) (fun i σ H' => ∃ ds es ws, P i ds es ∧ Sm l H1 H' ∧ Sl K H' ds σ ∧ H' l = some (.lst ws) ∧ Dts K H' es ws) ⟨d0, e0, v0, p0, Sm.refl _ _, s0.mono s1, s1 _ _ hl, Dts.mono s1 _ hd0⟩
      (fun i σ' H' _ ⟨ds, es, ws, p, s, sl, hl', hd'⟩ => SqL.of (s _ _ nal e2))
      (fun i x σ' H' hx ⟨ds, es, ws, p, s, sl, hl', hd'⟩ => ?_)
      (fun σ' H' ⟨ds, es, ws, p, s, sl, hl', hd'⟩ => by rw [e3.len, List.length_map] at p; exact done ds es ws σ' H' p ((Same.sm l s1).trans s) sl hl' hd')⟩
    obtain ⟨d, hd, hv⟩ := e3.getv hx
    obtain ⟨a', ha', rfl⟩ := map_at hd
    exact step i a' ha' ds es ws _ H' _ p ((Same.sm l s1).trans s) (sl.set j (Dt.sm s (s1 _ _ hl) _ (hi a' (List.mem_of_getElem? ha')) hv)) hl' hd' fun ds2 es2 ws2 σ2 H2 p2 s2 sl2 hl2 hd2 => ⟨ds2, es2, ws2, p2, s.trans s2, sl2, hl2, hd2⟩
theorem q_forLB {tv : TS} {l : Addr} {α : Type} {xs : List α} {enc : α → D} {j : Nat} (h : EvP tl σ H (fun v H1 => ∃ a vs, v = .ref a ∧ a ≠ l ∧ H1 a = some (.lst vs) ∧ Dts K H1 (xs.map enc) vs)) (hi : ∀ a ∈ xs, (enc a).imm = true) (P : Nat → List (Option D) → List D → Prop) {d0 : List (Option D)} {e0 : List D} {v0 : List V} (s0 : Sl K H d0 σ) (p0 : P 0 d0 e0) (hl : H l = some (.lst v0)) (hd0 : Dts K H e0 v0)
    (step : ∀ i a, xs[i]? = some a → TurnB K l P tu { E with nx := tv E } j H i (enc a)) (done : ∀ ds es vs σ' H', P xs.length ds es → Sm l H H' → Sl K H' ds σ' → H' l = some (.lst vs) → Dts K H' es vs → tv E σ' H') : tSeq (tFor (iList K tl) (gName j) tu) tv E σ H := s_forLB (E := { E with nx := tv E }) h hi P s0 p0 hl hd0 step done
/-- what a fresh list is good for -/
theorem EvN.apart {l : Addr} {xs : List D} {v0 : List V} (h : EvN K te σ H xs) (hl : H l = some (.lst v0)) : EvP te σ H (fun v H1 => ∃ a vs, v = .ref a ∧ a ≠ l ∧ H1 a = some (.lst vs) ∧ Dts K H1 xs vs) := fun H1 s1 Q q =>
  h H1 s1 Q fun p vs H2 hp s2 h1 h2 => q (.ref p) H2 s2 ⟨p, vs, rfl, fun z => (by rw [z, s1 _ _ hl] at hp; cases hp), h1, h2⟩
/-- a list that stood ahead of l -/
theorem ev_apart {l : Addr} {xs : List D} {H0 : Hp} {i : Nat} (s0 : Sl K H0 ds σ) (hi : ds[i]? = some (some (.lst xs))) (h0 : H0 l = none) (s : Same H0 H) : EvP (tVar i) σ H (fun v H1 => ∃ a vs, v = .ref a ∧ a ≠ l ∧ H1 a = some (.lst vs) ∧ Dts K H1 xs vs) := fun H1 s1 Q q => by
  obtain ⟨v, h1, a, vs, h2, h3, h4⟩ := s0.get hi
  exact ⟨v, h1, q v H1 (Same.refl _) ⟨a, vs, h2, ne_of_none h3 h0, (s.trans s1) _ _ h3, Dts.mono (s.trans s1) _ h4⟩⟩

/-! ### comprehensions -/
theorem wipe1 {σ : St} {j : Nat} (x : V) : L2.wipe ((L2.wipe σ [j]).set j (some x)) [j] = L2.wipe σ [j] := by
  show (((σ.set j none).set j (some x)).set j none) = σ.set j none
  rw [List.set_set, List.set_set]
def Cw (K : PySem.W.Frag) (H : Hp) (l : Addr) (zs : List D) (H' : Hp) : Prop := H l = none ∧ Same H H' ∧ ∃ acc, H' l = some (.lst acc) ∧ Dts K H' zs acc
theorem cw_turn {l : Addr} {zs : List D} {b : Bool} {z : D} {σ2 : St} {Px : Hp → Prop} (w : Cw K H l zs H') (hz : zs.length < 100000) (ht : EvT K t σ2 H' b) (he : b = true → Ev K te σ2 H' z ∧ z.imm = true) (hi : D.imms zs = true)
    (next : ∀ H2, Cw K H l (if b then zs ++ [z] else zs) H2 → Px H2) :
    t σ2 H' fun b H3 => if b = true then te σ2 H3 fun y H4 => ∃ acc, H4 l = some (.lst acc) ∧ acc.length < sizeLine ∧ Px (upd H4 l (.lst (acc ++ [y]))) else Px H3 := by
  obtain ⟨h0, s, acc, h1, h2⟩ := w
  refine ht H' (Same.refl _) _ fun H3 s3 => ?_
  cases b with
  | true =>
    show te σ2 H3 fun y H4 => ∃ acc, H4 l = some (.lst acc) ∧ acc.length < sizeLine ∧ Px (upd H4 l (.lst (acc ++ [y])))
    obtain ⟨hz1, hz2⟩ := he rfl
    refine hz1 H3 s3 _ fun y H4 s4 hy => ⟨acc, s4 _ _ (s3 _ _ h1), smallLt (by rw [h2.len]; exact hz), next _ ⟨h0, Same.mut ((s.trans s3).trans s4) h0, _, upd_same, ?_⟩⟩
    have e4 := s4 _ _ (s3 _ _ h1)
    exact Dts.put e4 _ (D.imms_app hi (D.imms_of (by intro d' hd'; rw [List.mem_singleton.mp hd']; exact hz2))) (Dts.snoc (Dts.mono (s3.trans s4) _ h2) hy)
  | false => exact next _ ⟨h0, s.trans s3, acc, s3 _ _ h1, Dts.mono s3 _ h2⟩
theorem filt_snoc {α β : Type} {f : α → Bool} {g : α → β} {es : List α} {i : Nat} {d : α} (h : es[i]? = some d) : ((es.take (i + 1)).filter f).map g = if f d then ((es.take i).filter f).map g ++ [g d] else ((es.take i).filter f).map g := by
  have e : es.take (i + 1) = es.take i ++ [d] := by rw [List.take_add_one, h]; rfl
  rw [e, List.filter_append, List.map_append]
  cases hf : f d with
  | true => simp [hf]
  | false => simp [hf]
theorem lenf {α β : Type} {f : α → Bool} {g : α → β} {es : List α} {i n : Nat} (h : es.length ≤ n) : (((es.take i).filter f).map g).length ≤ n := by
  have h1 := List.length_filter_le f (es.take i)
  have h2 := List.length_take_le i es
  rw [List.length_map, List.length_take] at *
  omega
theorem en_lcL {tt : TT} {α : Type} {es : List α} {enc : α → D} {j : Nat} (f : α → Bool) (g : α → D) (h : Ev K tl σ H (.lst (es.map enc))) (s0 : Sl K H ds σ) (hz : es.length < 100000)
    (ht : ∀ d ∈ es, ∀ σ' H', Same H H' → Sl K H' (ds.set j (some (enc d))) σ' → EvT K tt σ' H' (f d)) (he : ∀ d ∈ es, f d = true → ∀ σ' H', Same H H' → Sl K H' (ds.set j (some (enc d))) σ' → Ev K te σ' H' (g d))
    (hi : ∀ d ∈ es, f d = true → (g d).imm = true) : EvN K (tLc (iList K tl) (gName j) tt te [j]) σ H ((es.filter f).map g) := fun H1 a Q q =>
  h H1 a _ fun v H2 s2 ⟨b, vs, e1, e2, e3⟩ => ⟨b, e1, ⟨vs, SqL.of e2⟩, fun l hl =>
    lc_list (xs := vs) (fun i H' => Cw K H2 l (((es.take i).filter f).map g) H') ⟨hl, Same.new hl, [], upd_same, by rw [List.take_zero]; rfl⟩ (fun i H' _ w => SqL.of (w.2.1 _ _ e2))
      (fun i x H' hx w => by
        obtain ⟨d0, hd0, hv⟩ := (Dts.mono w.2.1 _ e3).getv hx
        obtain ⟨d, hd, rfl⟩ := map_at hd0
        have md := List.mem_of_getElem? hd
        have sl : Sl K H' (ds.set j (some (enc d))) ((L2.wipe σ [j]).set j (some x)) := by
          have q1 := ((s0.mono ((a.trans s2).trans w.2.1)).wipe [j]).set j hv
          have q2 : (wipeD ds [j]).set j (some (enc d)) = ds.set j (some (enc d)) := by
            show ((ds.set j none).set j (some (enc d))) = _
            rw [List.set_set]
          rw [q2] at q1
          exact q1
        exact ⟨wipe1 x, cw_turn w (Nat.lt_of_le_of_lt (lenf (Nat.le_refl _)) hz) (ht d md _ H' ((a.trans s2).trans w.2.1) sl) (fun hb => ⟨he d md hb _ H' ((a.trans s2).trans w.2.1) sl, hi d md hb⟩)
          (D.imms_of fun z hz' => by
            obtain ⟨d', hd', rfl⟩ := List.mem_map.mp hz'
            have := List.mem_filter.mp hd'
            exact hi d' (List.mem_of_mem_take this.1) this.2) (fun H2 w2 => by rw [filt_snoc hd]; exact w2)⟩)
      (fun H' w => by
        obtain ⟨h0, s, acc, h1, h2⟩ := w
        rw [e3.len, List.length_map, List.take_of_length_le (Nat.le_refl _)] at h2
        exact q l acc H' (s2.free h0) (s2.trans s) h1 h2)⟩
theorem en_lcT {tt : TT} {α : Type} {es : List α} {enc : α → D} {j : Nat} (f : α → Bool) (g : α → D) (h : Ev K tl σ H (.tup (es.map enc))) (s0 : Sl K H ds σ) (hz : es.length < 100000)
    (ht : ∀ d ∈ es, ∀ σ' H', Same H H' → Sl K H' (ds.set j (some (enc d))) σ' → EvT K tt σ' H' (f d)) (he : ∀ d ∈ es, f d = true → ∀ σ' H', Same H H' → Sl K H' (ds.set j (some (enc d))) σ' → Ev K te σ' H' (g d))
    (hi : ∀ d ∈ es, f d = true → (g d).imm = true) : EvN K (tLc (iTup K tl) (gName j) tt te [j]) σ H ((es.filter f).map g) := fun H1 a Q q =>
  h H1 a _ fun v H2 s2 ⟨b, vs, e1, e2, e3⟩ => ⟨b, e1, ⟨vs, SqT.of e2⟩, fun l hl =>
    lc_tup (xs := vs) (fun i H' => Cw K H2 l (((es.take i).filter f).map g) H') ⟨hl, Same.new hl, [], upd_same, by rw [List.take_zero]; rfl⟩ (fun i H' _ w => SqT.of (w.2.1 _ _ e2))
      (fun i x H' hx w => by
        obtain ⟨d0, hd0, hv⟩ := (Dts.mono w.2.1 _ e3).getv hx
        obtain ⟨d, hd, rfl⟩ := map_at hd0
        have md := List.mem_of_getElem? hd
        have sl : Sl K H' (ds.set j (some (enc d))) ((L2.wipe σ [j]).set j (some x)) := by
          have q1 := ((s0.mono ((a.trans s2).trans w.2.1)).wipe [j]).set j hv
          have q2 : (wipeD ds [j]).set j (some (enc d)) = ds.set j (some (enc d)) := by
            show ((ds.set j none).set j (some (enc d))) = _
            rw [List.set_set]
          rw [q2] at q1
          exact q1
        exact ⟨wipe1 x, cw_turn w (Nat.lt_of_le_of_lt (lenf (Nat.le_refl _)) hz) (ht d md _ H' ((a.trans s2).trans w.2.1) sl) (fun hb => ⟨he d md hb _ H' ((a.trans s2).trans w.2.1) sl, hi d md hb⟩)
          (D.imms_of fun z hz' => by
            obtain ⟨d', hd', rfl⟩ := List.mem_map.mp hz'
            have := List.mem_filter.mp hd'
            exact hi d' (List.mem_of_mem_take this.1) this.2) (fun H2 w2 => by rw [filt_snoc hd]; exact w2)⟩)
      (fun H' w => by
        obtain ⟨h0, s, acc, h1, h2⟩ := w
        rw [e3.len, List.length_map, List.take_of_length_le (Nat.le_refl _)] at h2
        exact q l acc H' (s2.free h0) (s2.trans s) h1 h2)⟩
theorem en_lcR {tt : TT} {ta : TA} {n : Int} {j : Nat} (m : Nat) (f : Nat → Bool) (g : Nat → D) (h : EvA K ta σ H [.int n]) (hm : m = n.toNat) (hn : n < 100000 ∧ -100000 ≤ n) (s0 : Sl K H ds σ)
    (ht : ∀ i : Nat, i < m → ∀ σ' H', Same H H' → Sl K H' (ds.set j (some (.int (i : Int)))) σ' → EvT K tt σ' H' (f i)) (he : ∀ i : Nat, i < m → f i = true → ∀ σ' H', Same H H' → Sl K H' (ds.set j (some (.int (i : Int)))) σ' → Ev K te σ' H' (g i))
    (hi : ∀ i : Nat, i < m → f i = true → (g i).imm = true) : EvN K (tLc (iRng1 ta) (gName j) tt te [j]) σ H (((List.range m).filter f).map g) := fun H1 a Q q =>
  h H1 a _ fun us H2 s2 ⟨v, r, e1, e2, e3⟩ => ⟨n, by rw [e1, show v = .int n from e2, show r = [] from e3], by omega, by omega, fun l hl =>
    lc_range (lo := 0) (n := n.toNat) (fun i H' => Cw K H2 l ((((List.range m).take i).filter f).map g) H') ⟨hl, Same.new hl, [], upd_same, by rw [List.take_zero]; rfl⟩
      (fun i H' hin w => by
        have e0 : (0 : Int) + (i : Int) = (i : Int) := Int.zero_add _
        rw [e0]
        have hd : (List.range m)[i]? = some i := by rw [List.getElem?_range (by omega)]
        have sl : Sl K H' (ds.set j (some (.int (i : Int)))) ((L2.wipe σ [j]).set j (some (.int (i : Int)))) := by
          have q1 := ((s0.mono ((a.trans s2).trans w.2.1)).wipe [j]).set j (d := .int (i : Int)) (v := .int (i : Int)) rfl
          have q2 : (wipeD ds [j]).set j (some (.int (i : Int))) = ds.set j (some (.int (i : Int))) := by
            show ((ds.set j none).set j (some (.int (i : Int)))) = _
            rw [List.set_set]
          rw [q2] at q1
          exact q1
        refine ⟨wipe1 _, cw_turn w (Nat.lt_of_le_of_lt (lenf (n := m) (by rw [List.length_range]; exact Nat.le_refl _)) (by omega)) (ht i (by omega) _ H' ((a.trans s2).trans w.2.1) sl) (fun hb => ⟨he i (by omega) hb _ H' ((a.trans s2).trans w.2.1) sl, hi i (by omega) hb⟩)
          (D.imms_of fun z hz' => ?_) (fun H2 w2 => by rw [filt_snoc hd]; exact w2)⟩
        obtain ⟨d', hd', rfl⟩ := List.mem_map.mp hz'
        have := List.mem_filter.mp hd'
        exact hi d' (List.mem_range.mp (List.mem_of_mem_take this.1)) this.2)
      (fun H' w => by
        obtain ⟨h0, s, acc, h1, h2⟩ := w
        rw [← hm, List.take_of_length_le (by rw [List.length_range]; exact Nat.le_refl _)] at h2
        exact q l acc H' (s2.free h0) (s2.trans s) h1 h2)⟩
theorem et_yes : EvT K tYes σ H true := fun H1 _ _ q => q H1 (Same.refl _)
end
end Rt
namespace Rt
open PySem PySem.Spec PyProof.Rows L2

/-- a def of the text that stands under its name -/
structure Dfn (K : PySem.W.Frag) (mg : Str → Option Value) (x : Str) (st : Stmt) (ps : List Str) : Prop where
  ex : ∃ f fd, L2.Fun K x x st f fd ∧ mg x = some (.ref f) ∧ Binds K fd ps []
/-- a def that may be called by its name -/
structure Cal (P : Program) (w : World) (K : PySem.W.Frag) (mg : Str → Option Value) (base : Heap) (CX : CXT) (k : Nat) (x : Str) (sp : Sp) : Prop where
  ex : ∃ f fd ps, FnOk P w K mg base CX k f fd ps sp ∧ mg x = some (.ref f) ∧ PySem.W.keepIn K (.ref f) = true ∧ Binds K fd ps []
theorem fn_by {N P : List Str} {sc : Scope} (h : C8.scC N P sc = true) : FnScope N P sc := C8.fnScope_by h
section
variable {P : Program} {w : World} {K : PySem.W.Frag} {mg : Str → Option Value} {base : Heap}
theorem Cal.mono {CX : CXT} {j k : Nat} {x : Str} {sp : Sp} (c : Cal P w K mg base CX j x sp) (h : j ≤ k) : Cal P w K mg base CX k x sp := by
  obtain ⟨f, fd, ps, F, a, b, d⟩ := c.ex
  exact ⟨f, fd, ps, F.mono h, a, b, d⟩
theorem Cal.imp {CX : CXT} {k : Nat} {x : Str} {sp sp' : Sp} (c : Cal P w K mg base CX k x sp) (h : ∀ vs H Q E, sp' vs H Q E → sp vs H Q E) : Cal P w K mg base CX k x sp' := by
  obtain ⟨f, fd, ps, F, a, b, d⟩ := c.ex
  exact ⟨f, fd, ps, F.imp h, a, b, d⟩
/-- nothing is promised -/
theorem cal_none {x : Str} {st : Stmt} {ps : List Str} {CX : CXT} {k : Nat} {sp : Sp} (F : Dfn K mg x st ps) (no : ∀ vs H Q E, ¬ sp vs H Q E) : Cal P w K mg base CX k x sp := by
  obtain ⟨f, fd, F, m, b⟩ := F.ex
  exact ⟨f, fd, ps, ⟨fun vs H Q E h => absurd h (no vs H Q E), fun A outer s H args us vs Q E _ _ _ _ h => absurd h (no vs H Q E)⟩, m, F.kp, b⟩
/-- a def by its body: data in, data out -/
theorem ok_fn {x : Str} {st : Stmt} {N ps : List Str} {k : Nat} {R : List D → D → Prop} {f : Addr} {fd : FuncData} (F : L2.Fun K x x st f fd) (S : FnScope N ps (defScope st)) (len : ∀ ds d, R ds d → ds.length = ps.length)
    (hbody : ∀ (cdv : Value) (A : Around) (outer : List Env) (s : Shared) (f : Addr) (H : Hp) (vs : List V) (ds : List D) (d : D), Room k (A.deeper (envOfC x (defScope st) s.heap.objs.size f cdv)) → R ds d →
      Sl K H (ds.map some ++ List.replicate (N.length - ds.length) none) (start N vs) →
      ∃ t, PSs (cxOf CX0 P w K mg base N x (defScope st) f cdv A outer s H E0).nox (defBody st) t ∧ ∀ (nx : L2.St → Hp → Prop) (Q : VK), (∀ σ' H', Same H H' → Dt K H' d .non → nx σ' H') → (∀ v H', Same H H' → Dt K H' d v → Q v H') → t { nx := nx, rt := Q } (start N vs) H) : FnOk P w K mg base CX0 (k + 1) f fd ps (Fn K R) := by
  refine F.ok S (fun vs H Q E h => ?_) (fun cdv A outer s H vs Q E hr h => ?_)
  · obtain ⟨ds, d, h1, h2, _⟩ := h
    rw [h1.len]; exact len _ _ h2
  · obtain ⟨ds, d, h1, h2, k⟩ := h
    obtain ⟨t, ht, hq⟩ := hbody cdv A outer s f H vs ds d hr h2 (Sl.start h1)
    refine ⟨t, ?_, hq _ _ (fun σ' H' s1 h => k _ H' s1 h) k⟩
    exact ht
theorem cal_fn {x : Str} {st : Stmt} {N ps : List Str} {k : Nat} {R : List D → D → Prop} (F : Dfn K mg x st ps) (S : FnScope N ps (defScope st)) (len : ∀ ds d, R ds d → ds.length = ps.length)
    (hbody : ∀ (cdv : Value) (A : Around) (outer : List Env) (s : Shared) (f : Addr) (H : Hp) (vs : List V) (ds : List D) (d : D), Room k (A.deeper (envOfC x (defScope st) s.heap.objs.size f cdv)) → R ds d →
      Sl K H (ds.map some ++ List.replicate (N.length - ds.length) none) (start N vs) →
      ∃ t, PSs (cxOf CX0 P w K mg base N x (defScope st) f cdv A outer s H E0).nox (defBody st) t ∧ ∀ (nx : L2.St → Hp → Prop) (Q : VK), (∀ σ' H', Same H H' → Dt K H' d .non → nx σ' H') → (∀ v H', Same H H' → Dt K H' d v → Q v H') → t { nx := nx, rt := Q } (start N vs) H) : Cal P w K mg base CX0 (k + 1) x (Fn K R) := by
  obtain ⟨f, fd, F, m, b⟩ := F.ex
  exact ⟨f, fd, ps, ok_fn F S len hbody, m, F.kp, b⟩
theorem cal_fnN {x : Str} {st : Stmt} {N ps : List Str} {k : Nat} {R : List D → List D → Prop} (F : Dfn K mg x st ps) (S : FnScope N ps (defScope st)) (len : ∀ ds d, R ds d → ds.length = ps.length)
    (hbody : ∀ (cdv : Value) (A : Around) (outer : List Env) (s : Shared) (f : Addr) (H : Hp) (vs : List V) (ds : List D) (es : List D), Room k (A.deeper (envOfC x (defScope st) s.heap.objs.size f cdv)) → R ds es →
      Sl K H (ds.map some ++ List.replicate (N.length - ds.length) none) (start N vs) →
      ∃ t, PSs (cxOf CX0 P w K mg base N x (defScope st) f cdv A outer s H E0).nox (defBody st) t ∧ ∀ (nx : L2.St → Hp → Prop) (Q : VK), (∀ p ws H', H p = none → Same H H' → H' p = some (.lst ws) → Dts K H' es ws → Q (.ref p) H') → t { nx := nx, rt := Q } (start N vs) H) : Cal P w K mg base CX0 (k + 1) x (FnN K R) := by
  obtain ⟨f, fd, F, m, b⟩ := F.ex
  refine ⟨f, fd, ps, F.ok S (fun vs H Q E h => ?_) (fun cdv A outer s H vs Q E hr h => ?_), m, F.kp, b⟩
  · obtain ⟨ds, d, h1, h2, _⟩ := h
    rw [h1.len]; exact len _ _ h2
  · obtain ⟨ds, d, h1, h2, k⟩ := h
    obtain ⟨t, ht, hq⟩ := hbody cdv A outer s f H vs ds d hr h2 (Sl.start h1)
    exact ⟨t, ht, hq _ _ k⟩
end
section
variable {X : Cx} {k j : Nat} {x : Str} {sp : Sp} {p pos : Pos} {e : Expr} {es : List Expr} {t : TA} {E : XK}
theorem pe_c (c : Cal X.prog X.w X.K X.mg X.base CX0 k x sp) (hr : Room j X.A) (hk : k ≤ j) (hg : Gl X x) (ha : PA X (e :: es) t)
    (hdb : (x == ("__debug__" : Str)) = false := by decide) (he : starEach (e :: es) X.env = (false, eval e X.env) :: starEach es X.env := by rfl) (hpl : (backTo pos (starEach es X.env)).any (·.1) = false := by rfl) :
    PE X (.Call (.Name x p) (e :: es) [] pos) (tCall sp [] E0 t) := by
  obtain ⟨f, fd, ps, F, hm, kp, b⟩ := c.ex
  exact pe_call F (hr.mono hk) hg hm kp b .nil pass0 ha hdb he hpl
/-- .. that may raise: E is wished of what it raises -/
theorem pe_cX (c : Cal X.prog X.w X.K X.mg X.base (L2.CX X.prog X.w) k x sp) (hr : Room j X.A) (hk : k ≤ j) (hg : Gl X x) (hx : Passes (L2.CX X.prog X.w) X E) (ha : PA X (e :: es) t)
    (hdb : (x == ("__debug__" : Str)) = false := by decide) (he : starEach (e :: es) X.env = (false, eval e X.env) :: starEach es X.env := by rfl) (hpl : (backTo pos (starEach es X.env)).any (·.1) = false := by rfl) :
    PE X (.Call (.Name x p) (e :: es) [] pos) (tCall sp [] E t) := by
  obtain ⟨f, fd, ps, F, hm, kp, b⟩ := c.ex
  exact pe_call F (hr.mono hk) hg hm kp b .nil hx ha hdb he hpl
end
end Rt
/-! ### sorted of rows: pairs of a text and an int, any number of them -/
namespace Rt
open PySem PyProof.Rows L2 SrtO
/-- by the text, then by the int -/
def ltR (p q : Str × Int) : Bool := if p.1 = q.1 then decide (p.2 < q.2) else decide (p.1.cps.toList < q.1.cps.toList)
theorem str_tot (a b : Str) : a.cps.toList < b.cps.toList ∨ a = b ∨ b.cps.toList < a.cps.toList := by
  have h : ∀ (x y : List Nat), x < y ∨ x = y ∨ y < x := by
    intro x
    induction x with
    | nil =>
      intro y
      cases y with
      | nil => exact .inr (.inl rfl)
      | cons b s => exact .inl (List.nil_lt_cons _ _)
    | cons a r ih =>
      intro y
      cases y with
      | nil => exact .inr (.inr (List.nil_lt_cons _ _))
      | cons b s =>
        rcases Nat.lt_trichotomy a b with h | h | h
        · exact .inl (List.cons_lt_cons_iff.mpr (.inl h))
        · subst h
          rcases ih s with q | q | q
          · exact .inl (List.cons_lt_cons_iff.mpr (.inr ⟨rfl, q⟩))
          · exact .inr (.inl (by rw [q]))
          · exact .inr (.inr (List.cons_lt_cons_iff.mpr (.inr ⟨rfl, q⟩)))
        · exact .inr (.inr (List.cons_lt_cons_iff.mpr (.inl h)))
  rcases h a.cps.toList b.cps.toList with q | q | q
  · exact .inl q
  · refine .inr (.inl ?_)
    cases a; cases b
    exact congrArg PySem.Str.mk (Array.toList_inj.mp q)
  · exact .inr (.inr q)
theorem ltR_iff {p q : Str × Int} : ltR p q = true ↔ p.1.cps.toList < q.1.cps.toList ∨ (p.1 = q.1 ∧ p.2 < q.2) := by
  unfold ltR
  by_cases e : p.1 = q.1
  · rw [if_pos e, decide_eq_true_eq]
    constructor
    · intro h; exact .inr ⟨e, h⟩
    · rintro (h | h)
      · rw [e] at h; exact absurd h (List.lt_irrefl _)
      · exact h.2
  · rw [if_neg e, decide_eq_true_eq]
    constructor
    · intro h; exact .inl h
    · rintro (h | h)
      · exact h
      · exact absurd h.1 e
theorem ltR_no {p q : Str × Int} : ltR p q = false ↔ ¬ (p.1.cps.toList < q.1.cps.toList ∨ (p.1 = q.1 ∧ p.2 < q.2)) := by
  rw [← ltR_iff]
  cases ltR p q <;> simp
theorem swo_ltR {α : Type} (k : α → Str × Int) : Swo fun v u => ltR (k v) (k u) := by
  refine ⟨fun x y h => ?_, fun x y z h1 h2 => ?_⟩
  · have a := ltR_iff.mp h
    refine ltR_no.mpr ?_
    rintro (b | b)
    · rcases a with a | a
      · exact List.lt_irrefl _ (List.lt_trans a b)
      · rw [a.1] at b; exact List.lt_irrefl _ b
    · rcases a with a | a
      · rw [b.1] at a; exact List.lt_irrefl _ a
      · have := a.2; have := b.2; omega
  · have a := ltR_no.mp h1
    have b := ltR_no.mp h2
    refine ltR_no.mpr ?_
    rintro (c | c)
    · rcases str_tot (k y).1 (k z).1 with q | q | q
      · rcases str_tot (k x).1 (k y).1 with r | r | r
        · exact List.lt_irrefl _ (List.lt_trans c (List.lt_trans r q))
        · rw [r] at c; exact List.lt_irrefl _ (List.lt_trans c q)
        · exact a (.inl r)
      · rw [← q] at c; exact a (.inl c)
      · exact b (.inl q)
    · rcases str_tot (k y).1 (k z).1 with q | q | q
      · rw [c.1] at q; exact a (.inl q)
      · have e : (k y).1 = (k x).1 := by rw [q, c.1]
        by_cases z1 : (k y).2 < (k x).2
        · exact a (.inr ⟨e, z1⟩)
        · by_cases z2 : (k z).2 < (k y).2
          · exact b (.inr ⟨q.symm, z2⟩)
          · have := c.2; omega
      · exact b (.inl q)
def IsRow (h : Heap) (v : Value) (x : Str) (y : Int) : Prop := ∃ a o t u n, v = .ref a ∧ h.get? a = some o ∧ o.cls = .type "tuple" ∧ o.data = .seq #[.str x t, .int y u] n
theorem IsRow.keeps {h h' : Heap} {v : Value} {x : Str} {y : Int} (p : IsRow h v x y) (k : ∀ b o, h.get? b = some o → o.cls = .type "tuple" → h'.get? b = some o) : IsRow h' v x y := by
  obtain ⟨a, o, t, u, n, e, ho, hc, hd⟩ := p
  exact ⟨a, o, t, u, n, e, k _ _ ho hc, hc, hd⟩
section
variable {prog : Program} {w : World} {A : Around} {E : Value → Shared → Prop} {s : Shared}
theorem row_cmp {vs : List Value} {k : Value → Str × Int} (hp : ∀ v ∈ vs, IsRow s.heap v (k v).1 (k v).2) : Cmp prog w A s (tuples' true) (fun p => p.1 ∈ vs) (lt2 fun v u => ltR (k v) (k u)) := by
  intro p q hm hm'
  have h1 := hp _ hm
  have h2 := hp _ hm'
  show wpAny (model prog w) A (keyLt' (tuples' true) p.1 q.1) (fun r s' => s' = s ∧ r = ltR (k p.1) (k q.1)) (fun _ _ => False) s
  unfold ltR
  generalize (k p.1).1 = x at h1 ⊢
  generalize (k p.1).2 = y at h1 ⊢
  generalize (k q.1).1 = x' at h2 ⊢
  generalize (k q.1).2 = y' at h2 ⊢
  obtain ⟨a, o, t, u, n, e, ho, hc, hd⟩ := h1
  obtain ⟨a', o', t', u', n', e', ho', hc', hd'⟩ := h2
  rw [e, e']
  refine PySem.W.kat_lt ho hd ho' hd' ?_
  show PySem.W.KatLex prog w A true (decide (2 < 2)) _ [(.str x t, .str x' t'), (.int y u, .int y' u')] 0 s
  refine PySem.W.kat_cons (SeqAt.EqAt.str_str x t x' t' prog w _ _ ?_)
  refine PySem.W.kat_go (fun e1 => ?_) (fun e1 => ?_)
  · have ex : x = x' := by simpa using e1
    refine PySem.W.kat_yes (PySem.W.kat_cons (SeqAt.EqAt.int_int y u y' u' prog w _ _ ?_))
    refine PySem.W.kat_go (fun e2 => ?_) (fun e2 => ?_)
    · have ey : y = y' := by simpa using e2
      have e3 : (if x = x' then decide (y < y') else decide (x.cps.toList < x'.cps.toList)) = false := by
        rw [if_pos ex, ey]
        exact decide_eq_false (Int.lt_irrefl _)
      exact PySem.W.kat_yes (PySem.W.kat_nil ⟨rfl, e3.symm⟩)
    · have e3 : (if x = x' then decide (y < y') else decide (x.cps.toList < x'.cps.toList)) = decide (y < y') := if_pos ex
      refine PySem.W.kat_no (PySem.W.kat_one _ _ (PyProof.Rows.lt_int ?_))
      exact (show s = s ∧ decide (y < y') = (if x = x' then decide (y < y') else decide (x.cps.toList < x'.cps.toList)) from ⟨rfl, e3.symm⟩)
  · have ex : ¬ x = x' := by simpa using e1
    have e3 : (if x = x' then decide (y < y') else decide (x.cps.toList < x'.cps.toList)) = decide (x.cps.toList < x'.cps.toList) := if_neg ex
    exact PySem.W.kat_no (oneLt_str ⟨rfl, e3.symm⟩)
theorem row_firsts {h : Heap} : ∀ {vs : List Value}, (∀ v ∈ vs, ∃ x y, IsRow h v x y) → ∃ fs : List Value, PySem.W.KatTups h vs fs ∧ fs.length = vs.length ∧ ∀ f ∈ fs, ∃ x t, f = Value.str x t
  | [], _ => ⟨[], PySem.W.KatTups.nil, rfl, fun _ hm => by simp at hm⟩
  | v :: vs, hp => by
    obtain ⟨fs, h1, h2, h3⟩ := row_firsts (vs := vs) fun v' hm => hp v' (List.mem_cons_of_mem _ hm)
    obtain ⟨x, y, a, o, t, u, n, e, ho, hc, hd⟩ := hp v (List.mem_cons_self ..)
    subst e
    refine ⟨.str x t :: fs, PySem.W.KatTups.cons ho hc hd rfl h1, by rw [List.length_cons, List.length_cons, h2], fun f hm => ?_⟩
    rcases List.mem_cons.mp hm with rfl | hm
    · exact ⟨x, t, rfl⟩
    · exact h3 f hm
theorem rows_sortable {a : Addr} {vs : List Value} {k : Value → Str × Int} (h0 : 0 < vs.length) (hp : ∀ v ∈ vs, IsRow s.heap v (k v).1 (k v).2) (ha : ∀ o, s.heap.get? a = some o → o.cls ≠ .type "tuple") : SortableO prog w A s a vs fun v u => ltR (k v) (k u) := by
  intro h' keep
  have hp' : ∀ v ∈ vs, IsRow h' v (k v).1 (k v).2 := fun v hm => (hp v hm).keeps fun b o e c => keep b o (fun z => by subst z; exact ha o e c) e
  obtain ⟨fs, h1, h2, h3⟩ := row_firsts fun v hm => ⟨_, _, hp' v hm⟩
  refine ⟨tuples' true, fun Q E hq => ?_, row_cmp hp'⟩
  refine PySem.W.kat_kind (T := .type "str") h1 (by omega) (fun f hm => ?_) (by rfl) ?_
  · obtain ⟨x, t, rfl⟩ := h3 f hm
    exact PySem.W.Looks.now
  · have e : (Value.type "str" != Value.type "tuple") = true := by first | decide +kernel | rfl | decide
    rw [e]
    exact hq
theorem sorted_rows {l : Addr} {vs : List Value} {k : Value → Str × Int} {Q : Value → Shared → Prop} (hl : s.heap.IsList l vs.toArray) (hz : vs.length ≤ sizeLine) (hp : ∀ v ∈ vs, IsRow s.heap v (k v).1 (k v).2)
    (h : ∀ (h' : Heap) (d : Addr) (out : List Value), Srtd (fun v u => ltR (k v) (k u)) out → Stb (fun v u => ltR (k v) (k u)) out vs → (∀ b o, s.heap.get? b = some o → h'.get? b = some o) → s.heap.objs.size ≤ d → (∃ n, h'.get? d = some (seqObj "list" out.toArray n)) → Q (.ref d) { s with heap := h' }) :
    wpAny (model prog w) A (call (.builtin "sorted") [.ref l]) Q E s := by
  refine sorted_ord (swo_ltR k) hl hz (fun h2 h₁ a ha kk => ?_) fun out hs hb => ?_
  · refine rows_sortable (s := { s with heap := h₁ }) (by omega) (fun v hm => (hp v hm).keeps fun b o e _ => (kk b o e).2) fun o e => ?_
    have e' : some o = some (seqObj "list" vs.toArray 0) := e.symm.trans ha
    cases e'
    intro c
    exact absurd (Value.type.inj c) (by decide)
  · exact h _ _ out hs hb (fun b o e => sortedAll_old e) (Nat.le_succ _) (sortedAll_at s.heap vs out.toArray)
end
abbrev ltV (k : V → Str × Int) (x y : V) : Bool := ltR (k x) (k y)
def rSortedRows (K : PySem.W.Frag) : List V → Hp → VK → Prop := fun vs H Q => ∃ (a : Addr) (xs : List V) (k : V → Str × Int), vs = [V.ref a] ∧ SqL K H a xs ∧ (∀ x ∈ xs, ∃ t, x = V.ref t ∧ H t = some (.tup [.str (k x).1, .int (k x).2])) ∧
  ∀ ys p, Srtd (ltV k) ys → Stb (ltV k) ys xs → H p = none → Q (.ref p) (upd H p (.lst ys))
theorem cr_sortedRows {X : Cx} : CallR X (.builtin "sorted") (rSortedRows X.K) := by
  intro pins s σ H vs us Q I r h
  obtain ⟨a, xs, k, rfl, hs, hx, q⟩ := h
  obtain ⟨its, rv, hl, hz⟩ := I.list hs
  obtain ⟨u, rfl, ru⟩ := vals1 r
  obtain rfl : u = Value.ref a := ru
  obtain ⟨e1, e2⟩ := refs_back rv fun x m => by
    obtain ⟨t, e, _⟩ := hx x m
    exact ⟨t, e⟩
  refine sorted_rows (k := fun u => k (backV u)) hl.isList (by rw [← rv.length]; exact hz) (fun v hv => ?_) fun h' d out h1 h2 kp hd hn => ?_
  · obtain ⟨t, rfl⟩ := e2 v hv
    have hm : V.ref t ∈ xs := by rw [e1]; exact List.mem_map.mpr ⟨_, hv, rfl⟩
    obtain ⟨t', e, ht⟩ := hx _ hm
    cases e
    obtain ⟨_, its2, r2, o, ho, hc, n, hd⟩ := I.hok _ _ ht
    obtain ⟨u1, u2, rfl, ri, rj⟩ := vals2 r2
    obtain ⟨t1, rfl⟩ := ri
    obtain ⟨t2, rfl⟩ := rj
    exact ⟨t, o, t1, t2, n, rfl, ho, hc, hd⟩
  · have h3 : ∀ u ∈ out, ∃ a, u = Value.ref a := fun u hu => e2 u (h2.perm.mem_iff.mp hu)
    obtain ⟨n, hn⟩ := hn
    have hb : Stb (ltV k) (out.map backV) xs := by
      rw [e1]
      exact SrtO.Stb.map (swo_ltR k) backV h2
    refine ⟨.ref d, upd H d (.lst (out.map backV)), I.laid (t' := s.toks) kp hd ⟨?_, out, n, vals_back h3, hn⟩, rfl, q _ d (SrtO.srtd_map h1) hb (I.hok.fresh hd)⟩
    rw [hb.len]
    exact hz

/-! ### over data -/
def rowD (p : Tx × Int) : D := .tup [.str p.1, .int p.2]
theorem rowD_imm (p : Tx × Int) : (rowD p).imm = true := rfl
def rowK (H : Hp) : V → Str × Int
  | .ref t => match H t with
    | some (.tup [.str x, .int n]) => (x, n)
    | _ => (⟨#[]⟩, 0)
  | _ => (⟨#[]⟩, 0)
section
variable {K : PySem.W.Frag} {σ : L2.St} {H : Hp} {ta : TE}
theorem rowD_at {p : Tx × Int} {v : V} (h : Dt K H (rowD p) v) : ∃ t, v = .ref t ∧ H t = some (.tup [.str (S p.1), .int p.2]) := by
  obtain ⟨a, vs, rfl, h1, v1, r1, rfl, rfl, v2, r2, rfl, rfl, rfl⟩ := h
  exact ⟨a, rfl, h1⟩
theorem rowD_of {p : Tx × Int} {t : Addr} (h : H t = some (.tup [.str (S p.1), .int p.2])) : Dt K H (rowD p) (.ref t) := ⟨t, _, rfl, h, _, _, rfl, rfl, _, _, rfl, rfl, rfl⟩
theorem rowK_at {p : Tx × Int} {v : V} (h : Dt K H (rowD p) v) : rowK H v = (S p.1, p.2) := by
  obtain ⟨t, rfl, h1⟩ := rowD_at h
  simp only [rowK, h1]
theorem rows_of : ∀ {rows : List (Tx × Int)} {vs : List V}, Dts K H (rows.map rowD) vs → vs.map (rowK H) = rows.map (fun p : Tx × Int => (S p.1, p.2)) ∧ ∀ x ∈ vs, ∃ (t : Addr) (p : Tx × Int), x = V.ref t ∧ H t = some (.tup [.str (S p.1), .int p.2]) ∧ p ∈ rows
  | [], vs, h => by rw [show vs = [] from h]; exact ⟨rfl, fun x hx => (by cases hx)⟩
  | p :: rows, vs, h => by
    obtain ⟨v, r, rfl, h2, h3⟩ := h
    obtain ⟨q1, q2⟩ := rows_of h3
    refine ⟨by rw [List.map_cons, List.map_cons, q1, rowK_at h2], fun x hx => ?_⟩
    rcases List.mem_cons.mp hx with e | hx
    · obtain ⟨t, e2, h4⟩ := rowD_at h2
      exact ⟨t, p, by rw [e, e2], h4, List.mem_cons_self⟩
    · obtain ⟨t, p', a, b, c⟩ := q2 x hx
      exact ⟨t, p', a, b, List.mem_cons_of_mem _ c⟩
theorem rows_back : ∀ {rows : List (Tx × Int)} {vs : List V}, vs.map (rowK H) = rows.map (fun p : Tx × Int => (S p.1, p.2)) → (∀ x ∈ vs, ∃ (t : Addr) (p : Tx × Int), x = V.ref t ∧ H t = some (.tup [.str (S p.1), .int p.2])) → Dts K H (rows.map rowD) vs
  | [], [], _, _ => rfl
  | [], v :: vs, h, _ => by cases h
  | p :: rows, [], h, _ => by cases h
  | p :: rows, v :: vs, h, hx => by
    rw [List.map_cons, List.map_cons] at h
    injection h with h1 h2
    refine ⟨v, vs, rfl, ?_, rows_back h2 fun x m => hx x (List.mem_cons_of_mem _ m)⟩
    obtain ⟨t, q, rfl, h4⟩ := hx v List.mem_cons_self
    have e : rowK H (.ref t) = (S q.1, q.2) := by simp only [rowK, h4]
    rw [e] at h1
    injection h1 with e1 e2
    rw [S_inj e1, e2] at h4
    exact rowD_of h4
/-- sorted of rows of unlike names: the one order -/
theorem en_sortedRows {rows out : List (Tx × Int)} (ha : Ev K ta σ H (.lst (rows.map rowD))) (hp : out.Perm rows) (hs : out.Pairwise fun p q => p.1 < q.1) : EvN K (tCB (rSortedRows K) (tCons ta tNil)) σ H (out.map rowD) :=
  en_cb (ea_cons ha ea_nil) fun vs H1 _ ⟨v, r, h1, ⟨a, ws, e1, e2, e3⟩, h3⟩ Q q => by
    obtain ⟨k1, k2⟩ := rows_of e3
    refine ⟨a, ws, rowK H1, by rw [h1, e1, show r = [] from h3], SqL.of e2, fun x hx => ?_, fun ys p hs2 hb hpn => ?_⟩
    · obtain ⟨t, p, rfl, h4, _⟩ := k2 x hx
      refine ⟨t, rfl, ?_⟩
      have e : rowK H1 (.ref t) = (S p.1, p.2) := by simp only [rowK, h4]
      rw [e]; exact h4
    · have ymem : ∀ x ∈ ys, ∃ (t : Addr) (p : Tx × Int), x = V.ref t ∧ H1 t = some (.tup [.str (S p.1), .int p.2]) := fun x hx => by
        obtain ⟨t, p, a1, a2, _⟩ := k2 x (hb.perm.mem_iff.mp hx)
        exact ⟨t, p, a1, a2⟩
      have hperm : (ys.map (rowK H1)).Perm (out.map (fun p : Tx × Int => (S p.1, p.2))) := by
        refine (hb.perm.map (rowK H1)).trans ?_
        rw [k1]
        exact (hp.symm.map _)
      have srt2 : (out.map (fun p : Tx × Int => (S p.1, p.2))).Pairwise (fun x y => ltR y x = false) := by
        refine List.pairwise_map.mpr (hs.imp fun {p q} h => ltR_no.mpr ?_)
        rintro (c | c)
        · have c' : q.1 < p.1 := by
            have := c
            simp only [S_cps] at this
            exact this
          exact List.lt_irrefl _ (List.lt_trans h c')
        · have e : q.1 = p.1 := S_inj c.1
          rw [e] at h; exact List.lt_irrefl _ h
      have srt1 : (ys.map (rowK H1)).Pairwise (fun x y => ltR y x = false) := List.pairwise_map.mpr hs2
      have eq : ys.map (rowK H1) = out.map (fun p : Tx × Int => (S p.1, p.2)) := by
        refine hperm.eq_of_pairwise (le := fun x y => ltR y x = false) (fun x y _ _ h1 h2 => ?_) srt1 srt2
        have n1 := ltR_no.mp h1
        have n2 := ltR_no.mp h2
        rcases str_tot x.1 y.1 with z | z | z
        · exact absurd (.inl z) n2
        · have : x.2 = y.2 := by
            rcases Int.lt_trichotomy x.2 y.2 with u | u | u
            · exact absurd (.inr ⟨z, u⟩) n2
            · exact u
            · exact absurd (.inr ⟨z.symm, u⟩) n1
          exact Prod.ext z this
        · exact absurd (.inl z) n1
      exact q p ys _ hpn (Same.new hpn) upd_same (Dts.mono (Same.new hpn) _ (rows_back eq ymem))
end
end Rt
/-! ### == and in over data; more of loops -/
namespace Rt
open PySem L2
mutual
def D.py : D → PyData
  | .non => .none
  | .bl b => .bool b
  | .int i => .int i
  | .str l => .str (S l)
  | .tup ds => .tuple (D.pys ds)
  | .lst ds => .list (D.pys ds)
  | .raw _ => .none
  | .scr _ => .none
def D.pys : List D → List PyData
  | [] => []
  | d :: ds => D.py d :: D.pys ds
end
def cpsOk (l : Tx) : Prop := ∀ c ∈ l, c < 0x110000
/-- data that == can look at, of depth n at most -/
def D.gd : Nat → D → Prop
  | _, .non => True
  | _, .bl _ => True
  | _, .int _ => True
  | _, .str l => cpsOk l
  | n + 1, .tup ds => ∀ d ∈ ds, D.gd n d
  | n + 1, .lst ds => ∀ d ∈ ds, D.gd n d
  | _, _ => False
theorem D.pys_map : ∀ ds : List D, D.pys ds = ds.map D.py
  | [] => rfl
  | d :: ds => by rw [D.pys, D.pys_map ds]; rfl
theorem canAll {ds : List PyData} (h : ∀ d ∈ ds, d.canLay0 = true) : PyData.canLayAll0 ds = true := by
  induction ds with
  | nil => rfl
  | cons d ds ih =>
    rw [PyData.canLayAll0, h d List.mem_cons_self, ih fun d m => h d (List.mem_cons_of_mem _ m)]; rfl
theorem depAll {ds : List PyData} {n : Nat} (h : ∀ d ∈ ds, d.depth ≤ n) : PyData.depthAll ds ≤ n := by
  induction ds with
  | nil => exact Nat.zero_le _
  | cons d ds ih =>
    rw [PyData.depthAll]
    exact Nat.max_le.mpr ⟨h d List.mem_cons_self, ih fun d m => h d (List.mem_cons_of_mem _ m)⟩
theorem gd_lay : ∀ (n : Nat) (d : D), d.gd n → d.py.canLay0 = true ∧ d.py.depth ≤ n
  | _, .non, _ => ⟨rfl, Nat.zero_le _⟩
  | _, .bl _, _ => ⟨rfl, Nat.zero_le _⟩
  | _, .int _, _ => ⟨rfl, Nat.zero_le _⟩
  | 0, .str l, h => ⟨by
    show PyData.strOk (S l) = true
    unfold PyData.strOk S
    simp only [List.all_toArray, List.all_eq_true, decide_eq_true_eq]
    exact h, Nat.zero_le _⟩
  | n + 1, .str l, h => ⟨by
    show PyData.strOk (S l) = true
    unfold PyData.strOk S
    simp only [List.all_toArray, List.all_eq_true, decide_eq_true_eq]
    exact h, Nat.zero_le _⟩
  | n + 1, .tup ds, h => by
    have h' : ∀ d ∈ ds, D.gd n d := h
    constructor
    · show PyData.canLayAll0 (D.pys ds) = true
      rw [D.pys_map]
      refine canAll fun d m => ?_
      obtain ⟨e, he, rfl⟩ := List.mem_map.mp m
      exact (gd_lay n e (h' e he)).1
    · show PyData.depthAll (D.pys ds) + 1 ≤ n + 1
      rw [D.pys_map]
      refine Nat.succ_le_succ (depAll fun d m => ?_)
      obtain ⟨e, he, rfl⟩ := List.mem_map.mp m
      exact (gd_lay n e (h' e he)).2
  | n + 1, .lst ds, h => by
    have h' : ∀ d ∈ ds, D.gd n d := h
    constructor
    · show PyData.canLayAll0 (D.pys ds) = true
      rw [D.pys_map]
      refine canAll fun d m => ?_
      obtain ⟨e, he, rfl⟩ := List.mem_map.mp m
      exact (gd_lay n e (h' e he)).1
    · show PyData.depthAll (D.pys ds) + 1 ≤ n + 1
      rw [D.pys_map]
      refine Nat.succ_le_succ (depAll fun d m => ?_)
      obtain ⟨e, he, rfl⟩ := List.mem_map.mp m
      exact (gd_lay n e (h' e he)).2
  | 0, .tup _, h => h.elim
  | 0, .lst _, h => h.elim
  | 0, .raw _, h => h.elim
  | _ + 1, .raw _, h => h.elim
  | 0, .scr _, h => h.elim
  | _ + 1, .scr _, h => h.elim
theorem gd_shaped {n : Nat} {d : D} (h : d.gd n) (hn : n ≤ 64) : SeqAt.shaped d.py = true := by
  obtain ⟨h1, h2⟩ := gd_lay n d h
  unfold SeqAt.shaped
  rw [h1, decide_eq_true (by omega)]; rfl
section
variable {K : PySem.W.Frag} {σ : St} {H H' : Hp} {ta tb te tl : TE} {t u : TT} {d e : D} {ds : List (Option D)} {E : Ends} {tu tw : TS}
theorem gd_dps {n : Nat} (ih : ∀ (d : D) (v : V), d.gd n → Dt K H d v → Dp K H v d.py) : ∀ (ds : List D) (vs : List V), (∀ d ∈ ds, d.gd n) → Dts K H ds vs → DpAll K H vs (D.pys ds)
  | [], vs, _, h => by rw [show vs = [] from h]; exact .nil
  | d :: ds, vs, g, ⟨v, r, h1, h2, h3⟩ => by
    rw [h1]
    exact .cons (ih d v (g d List.mem_cons_self) h2) (gd_dps ih ds r (fun d m => g d (List.mem_cons_of_mem _ m)) h3)
theorem gd_dp : ∀ (n : Nat) (d : D) (v : V), d.gd n → Dt K H d v → Dp K H v d.py
  | _, .non, v, _, h => by rw [show v = .non from h]; exact .non
  | _, .bl _, v, _, h => by rw [show v = .bl _ from h]; exact .bl _
  | _, .int _, v, _, h => by rw [show v = .int _ from h]; exact .int _
  | 0, .str _, v, _, h => by rw [show v = .str _ from h]; exact .str _
  | _ + 1, .str _, v, _, h => by rw [show v = .str _ from h]; exact .str _
  | n + 1, .tup ds, v, g, ⟨a, vs, h1, h2, h3⟩ => by
    rw [h1]; exact .tup (SqT.of h2) (gd_dps (gd_dp n) ds vs g h3)
  | n + 1, .lst ds, v, g, ⟨a, vs, h1, h2, h3⟩ => by
    rw [h1]; exact .lst (SqL.of h2) (gd_dps (gd_dp n) ds vs g h3)
  | 0, .tup _, _, h, _ => h.elim
  | 0, .lst _, _, h, _ => h.elim
  | 0, .raw _, _, h, _ => h.elim
  | _ + 1, .raw _, _, h, _ => h.elim
  | 0, .scr _, _, h, _ => h.elim
  | _ + 1, .scr _, _, h, _ => h.elim
theorem ev_eqD {n m : Nat} {b : Bool} (ha : Ev K ta σ H d) (hb : Ev K tb σ H e) (g1 : d.gd n) (g2 : e.gd m) (h1 : n ≤ 64) (h2 : m ≤ 64) (hq : PyData.eqv d.py e.py = b) : Ev K (tOp (rEqD K) ta tb) σ H (.bl b) :=
  ev_op ha hb fun v w H1 _ hv hw Q q => ⟨_, _, gd_dp n d v g1 hv, gd_dp m e w g2 hw, gd_shaped g1 h1, gd_shaped g2 h2, q _ _ (Same.refl _) (by rw [hq]; rfl)⟩
theorem ev_neD {n m : Nat} {b : Bool} (ha : Ev K ta σ H d) (hb : Ev K tb σ H e) (g1 : d.gd n) (g2 : e.gd m) (h1 : n ≤ 64) (h2 : m ≤ 64) (hq : PyData.eqv d.py e.py = b) : Ev K (tOp (rNeD K) ta tb) σ H (.bl (!b)) :=
  ev_op ha hb fun v w H1 _ hv hw Q q => ⟨_, _, gd_dp n d v g1 hv, gd_dp m e w g2 hw, gd_shaped g1 h1, gd_shaped g2 h2, q _ _ (Same.refl _) (by rw [hq]; rfl)⟩
theorem eqv_nil (ds : List D) : PyData.eqv (D.lst ds).py (D.lst []).py = ds.isEmpty := by
  cases ds with
  | nil => simp [D.py, D.pys, PyData.eqv, PyData.eqvAll]
  | cons d r => simp [D.py, D.pys, PyData.eqv, PyData.eqvAll]
/-- == [] -/
theorem ev_eqNil {n : Nat} {xs : List D} (ha : Ev K ta σ H (.lst xs)) (g : (D.lst xs).gd n) (h1 : n ≤ 64) : Ev K (tOp (rEqD K) ta (tLst tNil)) σ H (.bl xs.isEmpty) :=
  ev_eqD (n := n) (m := 1) ha (ev_lst ea_nil (by decide)) g (fun d m => by cases m) h1 (by decide) (eqv_nil xs)
theorem ev_neNil {n : Nat} {xs : List D} (ha : Ev K ta σ H (.lst xs)) (g : (D.lst xs).gd n) (h1 : n ≤ 64) : Ev K (tOp (rNeD K) ta (tLst tNil)) σ H (.bl (!xs.isEmpty)) :=
  ev_neD (n := n) (m := 1) ha (ev_lst ea_nil (by decide)) g (fun d m => by cases m) h1 (by decide) (eqv_nil xs)
theorem ev_eqRefl {n : Nat} (ha : Ev K ta σ H d) (hb : Ev K tb σ H d) (g : d.gd n) (h1 : n ≤ 64) : Ev K (tOp (rEqD K) ta tb) σ H (.bl true) :=
  ev_eqD ha hb g g h1 h1 (SeqAt.eqv_refl _ (gd_lay n d g).1)
/-! ### signs, min, int() -/
theorem ev_neg {i : Int} (ha : Ev K ta σ H (.int i)) : Ev K (tUn (rU fun i => .int (-i)) ta) σ H (.int (-i)) := fun H1 a Q q =>
  ha H1 a _ fun v H2 s hv => ⟨i, hv, q _ _ s rfl⟩
theorem ev_min2 {i j : Int} (ha : Ev K ta σ H (.int i)) (hb : Ev K tb σ H (.int j)) : Ev K (tCB (fun xs H Q => ∃ i j, xs = [.int i, .int j] ∧ Q (.int (if j < i then j else i)) H) (tCons ta (tCons tb tNil))) σ H (.int (if j < i then j else i)) :=
  ev_cb (ea_cons ha (ea_cons hb ea_nil)) fun vs H1 _ ⟨v, r, h1, hv, w, r2, h3, hw, h5⟩ Q q => ⟨i, j, by rw [h1, h3, show v = .int i from hv, show w = .int j from hw, show r2 = [] from h5], q _ _ (Same.refl _) rfl⟩
theorem ev_int1 {b : Bool} (ha : Ev K ta σ H (.bl b)) : Ev K (tCB (fun xs H Q => (∃ i, xs = [.int i] ∧ Q (.int i) H) ∨ ∃ k, xs = [.bl k] ∧ Q (.int (if k then 1 else 0)) H) (tCons ta tNil)) σ H (.int (if b then 1 else 0)) :=
  ev_cb (ea_cons ha ea_nil) fun vs H1 _ ⟨v, r, h1, hv, h3⟩ Q q => .inr ⟨b, by rw [h1, show v = .bl b from hv, show r = [] from h3], q _ _ (Same.refl _) rfl⟩
theorem ev_ixQT {xs : List D} {i : Int} (ha : Ev K ta σ H (.tup xs)) (hb : Ev K tb σ H (.int i)) (h : atI xs i = some d) : Ev K (tOp (rIx K) ta tb) σ H d :=
  ev_op ha hb fun v w H1 _ ⟨a, vs, h1, h2, h3⟩ hw Q q => by
    obtain ⟨x, h4, h5⟩ := atI_dts h3 h
    exact .inr (.inl ⟨a, vs, i, x, h1, hw, SqT.of h2, h4, q _ _ (Same.refl _) h5⟩)
theorem ev_ixQL {xs : List D} {i : Int} (ha : Ev K ta σ H (.lst xs)) (hb : Ev K tb σ H (.int i)) (h : atI xs i = some d) : Ev K (tOp (rIx K) ta tb) σ H d :=
  ev_op ha hb fun v w H1 _ ⟨a, vs, h1, h2, h3⟩ hw Q q => by
    obtain ⟨x, h4, h5⟩ := atI_dts h3 h
    exact .inl ⟨a, vs, i, x, h1, hw, SqL.of h2, h4, q _ _ (Same.refl _) h5⟩
/-- a list among the slots, by its address -/
theorem Sl.raw {i : Nat} {xs : List D} (s : Sl K H ds σ) (hi : ds[i]? = some (some (.lst xs))) : ∃ a vs, H a = some (.lst vs) ∧ Dts K H xs vs ∧ Sl K H (ds.set i (some (.raw (.ref a)))) σ := by
  obtain ⟨v, h1, a, vs, rfl, h2, h3⟩ := s.get hi
  have q := s.set i (d := .raw (.ref a)) (v := .ref a) rfl
  obtain ⟨hl, he⟩ := List.getElem?_eq_some_iff.mp h1
  rw [← he, List.set_getElem_self] at q
  exact ⟨a, vs, h2, h3, q⟩
/-! ### while, a local list grows -/
theorem q_whileB {tv : TS} {l : Addr} (W : Nat → List (Option D) → List D → Prop) {d0 : List (Option D)} {e0 : List D} {v0 : List V} (m0 : Nat) (s0 : Sl K H d0 σ) (w0 : W m0 d0 e0) (hl : H l = some (.lst v0)) (hd0 : Dts K H e0 v0)
    (step : ∀ m ds es vs σ' H', W m ds es → Sm l H H' → Sl K H' ds σ' → H' l = some (.lst vs) → Dts K H' es vs → ∃ b, EvT K t σ' H' b ∧
      (b = true → ∀ H1 (N : St → Hp → Prop), Same H' H1 → (∀ m2 ds2 es2 vs2 σ2 H2, m2 < m → W m2 ds2 es2 → Sm l H1 H2 → Sl K H2 ds2 σ2 → H2 l = some (.lst vs2) → Dts K H2 es2 vs2 → N σ2 H2) → tu { E with nx := N, ct := N, bk := tv E } σ' H1) ∧ (b = false → ∀ H1, Same H' H1 → tv E σ' H1)) : tSeq (tWhile t tu) tv E σ H :=
  ⟨fun m σ' H' => ∃ ds es vs, W m ds es ∧ Sm l H H' ∧ Sl K H' ds σ' ∧ H' l = some (.lst vs) ∧ Dts K H' es vs, ⟨m0, d0, e0, v0, w0, Sm.refl _ _, s0, hl, hd0⟩, fun m σ' H' ⟨ds, es, vs, w, s, sl, h1, h2⟩ => by
    obtain ⟨b, hb, k1, k2⟩ := step m ds es vs σ' H' w s sl h1 h2
    refine hb H' (Same.refl H') _ fun H1 e => ?_
    cases b with
    | true => exact ⟨fun σ2 H2 => ∃ m', m' < m ∧ ∃ ds es vs, W m' ds es ∧ Sm l H H2 ∧ Sl K H2 ds σ2 ∧ H2 l = some (.lst vs) ∧ Dts K H2 es vs, fun σ2 H2 ⟨m', l, z⟩ => ⟨m', l, z⟩, k1 rfl H1 _ e fun m2 ds2 es2 vs2 σ2 H2 l2 w2 s2 sl2 q1 q2 => ⟨m2, l2, ds2, es2, vs2, w2, (s.trans (Same.sm _ e)).trans s2, sl2, q1, q2⟩⟩
    | false => exact k2 rfl H1 e⟩
end
end Rt
/-! ### defs that raise, and except -/
namespace Rt
open PySem PySem.Spec PyProof.Rows L2
/-- data, or an error of the class at c -/
inductive Res where
  | ok (d : D)
  | ex (c : Addr)
def Res.Q (K : PySem.W.Frag) (H : Hp) (Q : VK) (E : XK) : Res → Prop
  | .ok d => ∀ v H', Same H H' → Dt K H' d v → Q v H'
  | .ex c => ∀ H', Same H H' → E (.ref c) none H'
def FnX (K : PySem.W.Frag) (R : List D → Res → Prop) : Sp := fun vs H Q E => ∃ ds r, Dts K H ds vs ∧ R ds r ∧ r.Q K H Q E
section
variable {P : Program} {w : World} {K : PySem.W.Frag} {mg : Str → Option Value} {base : Heap}
theorem cal_fnX {x : Str} {st : Stmt} {N ps : List Str} {k : Nat} {R : List D → Res → Prop} (F : Dfn K mg x st ps) (S : FnScope N ps (defScope st)) (len : ∀ ds r, R ds r → ds.length = ps.length)
    (hbody : ∀ (cdv : Value) (A : Around) (outer : List Env) (s : Shared) (f : Addr) (H : Hp) (vs : List V) (ds : List D) (r : Res) (E : XK), Room k (A.deeper (envOfC x (defScope st) s.heap.objs.size f cdv)) → R ds r →
      Sl K H (ds.map some ++ List.replicate (N.length - ds.length) none) (start N vs) →
      ∃ t, PSs (cxOf (L2.CX P w) P w K mg base N x (defScope st) f cdv A outer s H E) (defBody st) t ∧ ∀ (nx : L2.St → Hp → Prop) (Q : VK), r.Q K H Q E → (∀ d, r = .ok d → ∀ σ' H', Same H H' → Dt K H' d .non → nx σ' H') → t { nx := nx, rt := Q } (start N vs) H) : Cal P w K mg base (L2.CX P w) (k + 1) x (FnX K R) := by
  obtain ⟨f, fd, F, m, b⟩ := F.ex
  refine ⟨f, fd, ps, F.okX S (fun vs H Q E h => ?_) (fun cdv A outer s H vs Q E hr h => ?_), m, F.kp, b⟩
  · obtain ⟨ds, r, h1, h2, _⟩ := h
    rw [h1.len]; exact len _ _ h2
  · obtain ⟨ds, r, h1, h2, k⟩ := h
    obtain ⟨t, ht, hq⟩ := hbody cdv A outer s f H vs ds r E hr h2 (Sl.start h1)
    refine ⟨t, ht, hq _ _ k fun d e σ' H' s1 h => ?_⟩
    subst e
    exact k _ H' s1 h
end
section
variable {K : PySem.W.Frag} {σ : L2.St} {H : Hp} {ta tb te : TE} {d : D}
theorem ev_callX {R : List D → Res → Prop} {t : TA} {ds : List D} {E : XK} (h : EvA K t σ H ds) (hR : R ds (.ok d)) : Ev K (tCall (FnX K R) [] E t) σ H d := fun H1 a Q q =>
  h H1 a _ fun vs H2 s2 hvs => ⟨ds, .ok d, by rw [List.append_nil]; exact hvs, hR, fun v H3 s3 hv => q v H3 (s2.trans s3) hv⟩
theorem ev_callS {R : List D → Res → Prop} {t : TA} {ds : List D} {E : L2.St → XK} (h : EvA K t σ H ds) (hR : R ds (.ok d)) : Ev K (tCallS (FnX K R) E t) σ H d := fun H1 a Q q =>
  h H1 a _ fun vs H2 s2 hvs => ⟨ds, .ok d, hvs, hR, fun v H3 s3 hv => q v H3 (s2.trans s3) hv⟩
/-- it raises -/
def EvR (te : TE) (σ : L2.St) (H : Hp) : Prop := ∀ H1, Same H H1 → ∀ Q : VK, te σ H1 Q
def EvAR (ta : TA) (σ : L2.St) (H : Hp) : Prop := ∀ H1, Same H H1 → ∀ Q : List V → Hp → Prop, ta σ H1 Q
theorem er_call {R : List D → Res → Prop} {t : TA} {ds : List D} {E : XK} {c : Addr} (h : EvA K t σ H ds) (hR : R ds (.ex c)) (hE : ∀ H', Same H H' → E (.ref c) none H') : EvR (tCall (FnX K R) [] E t) σ H := fun H1 a Q =>
  h H1 a _ fun vs H2 s2 hvs => ⟨ds, .ex c, by rw [List.append_nil]; exact hvs, hR, fun H3 s3 => hE H3 ((a.trans s2).trans s3)⟩
theorem er_callS {R : List D → Res → Prop} {t : TA} {ds : List D} {E : L2.St → XK} {c : Addr} (h : EvA K t σ H ds) (hR : R ds (.ex c)) (hE : ∀ H', Same H H' → E σ (.ref c) none H') : EvR (tCallS (FnX K R) E t) σ H := fun H1 a Q =>
  h H1 a _ fun vs H2 s2 hvs => ⟨ds, .ex c, hvs, hR, fun H3 s3 => hE H3 ((a.trans s2).trans s3)⟩
theorem ear_head {tr : TA} (h : EvR ta σ H) : EvAR (tCons ta tr) σ H := fun H1 a Q => h H1 a _
theorem ear_tail {tr : TA} (h : Ev K ta σ H d) (hr : EvAR tr σ H) : EvAR (tCons ta tr) σ H := fun H1 a Q => h H1 a _ fun v H2 s2 hv => hr H2 (a.trans s2) _
theorem er_tup {t : TA} (h : EvAR t σ H) : EvR (tTup t) σ H := fun H1 a Q => h H1 a _
theorem er_callA {sp : Sp} {vs : List V} {E : XK} {t : TA} (h : EvAR t σ H) : EvR (tCall sp vs E t) σ H := fun H1 a Q => h H1 a _
theorem er_callSA {sp : Sp} {E : L2.St → XK} {t : TA} (h : EvAR t σ H) : EvR (tCallS sp E t) σ H := fun H1 a Q => h H1 a _
variable {E : Ends} {tu : TS}
theorem s_retR (h : EvR te σ H) : tRet te E σ H := h H (Same.refl H) _
theorem s_dropR (h : EvR te σ H) : tDrop te E σ H := h H (Same.refl H) _
theorem s_asgR {i : Nat} (h : EvR te σ H) : tAsg te (gName i) E σ H := h H (Same.refl H) _
theorem q_asgR {i : Nat} (h : EvR te σ H) : tSeq (tAsg te (gName i)) tu E σ H := h H (Same.refl H) _
/-- isinstance of the error that is caught -/
theorem ev_isE {C a : Addr} {cv : Value} {c : V} {b : Bool} (ha : Ev K ta σ H (.raw (.ref a))) (hc : ∀ u, RelV c u → u = cv) (hk : PySem.W.kitOne K (.ref C) cv = some b) : Ev K (tCB (rIsE K C a) (tCons ta (tCons (tC c) tNil))) σ H (.bl b) :=
  ev_cb (ea_cons ha (ea_cons ev_c ea_nil)) fun vs H1 _ ⟨v, r, h1, hv, x, r2, h3, hw, h5⟩ Q q => ⟨c, cv, b, by rw [h1, h3, show v = .ref a from hv, show x = c from hw, show r2 = [] from h5], hc, hk, q _ _ (Same.refl _) rfl⟩
theorem rel_ref {C : Addr} : ∀ u, RelV (.ref C) u → u = .ref C := fun u r => by cases r; rfl
theorem rel_ty {n : String} : ∀ u, RelV (.ty n) u → u = .type n := fun u r => by cases r; rfl
end
/-- what a raising def's own wish takes -/
theorem passX {P : Program} {w : World} {K : PySem.W.Frag} {mg : Str → Option Value} {base : Heap} {N : List Str} {x : Str} {sc : Scope} {f : Addr} {cd : Value} {A : Around} {outer : List Env} {s : Shared} {H : Hp} {E : XK} :
    Passes (L2.CX P w) (cxOf (L2.CX P w) P w K mg base N x sc f cd A outer s H E) E := passes_call (takes_of rfl rfl rfl rfl) (fun _ _ _ _ h => h)
/-- a call that raises nothing, though its def may -/
theorem pass0X {X : Cx} : Passes (L2.CX X.prog X.w) X (fun _ _ _ => False) := passes_call takes0 (fun _ _ _ _ h => h)
section
variable {X : Cx} {k j : Nat} {x : Str} {sp : Sp} {p pos : Pos} {e : Expr} {es : List Expr} {t : TA} {E : L2.St → XK}
/-- a call in a try -/
theorem pe_cS (c : Cal X.prog X.w X.K X.mg X.base (L2.CX X.prog X.w) k x sp) (hr : Room j X.A) (hk : k ≤ j) (hg : Gl X x) (hx : ∀ σ, PassesAt (L2.CX X.prog X.w) X σ (E σ)) (ha : PA X (e :: es) t)
    (hdb : (x == ("__debug__" : Str)) = false := by decide) (he : starEach (e :: es) X.env = (false, eval e X.env) :: starEach es X.env := by rfl) (hpl : (backTo pos (starEach es X.env)).any (·.1) = false := by rfl) :
    PE X (.Call (.Name x p) (e :: es) [] pos) (tCallS sp E t) := by
  obtain ⟨f, fd, ps, F, hm, kp, b⟩ := c.ex
  exact pe_callS F (hr.mono hk) hg hm kp b hx ha hdb he hpl
theorem call_isEw {a D : Addr} {oe : Obj} {cls : Value} {d : Option Addr} {pn : List (Addr × Obj)} (C : ExcC X.K D) (h1 : cls = .ref D) (h2 : d = none) (hz : Zc cls d oe) (hf : ∃ vs, oe.data = .fields vs) : CallR (X.suite a ((a, oe) :: pn)) (.builtin "isinstance") (rIsE X.K D a) := by
  subst h1 h2
  exact call_isE C hz hf
end
/-- a suite that is read where a thing holds -/
theorem pss_when {X : Cx} {st : List Stmt} {p : Prop} {t : TS} (h : p → PSs X st t) : PSs X st (fun D σ H => p ∧ t D σ H) := ⟨fun pins s σ H D I ⟨hp, hq⟩ => (h hp).run pins s σ H D I hq⟩
/-- what a class of errors says: C, below the class T of all refusals -/
structure Xc (K : PySem.W.Frag) (mg : Str → Option Value) (x : Str) (C T : Addr) : Prop where
  g : mg x = some (.ref C)
  ex : PySem.W.excIn K C [.type "ValueError", .type "Exception", .type "BaseException", .type "object"] "ValueError.__new__" = true
  kp : PySem.W.keepIn K (.ref C) = true
  sub : PySem.W.subIn K (.ref C) (.type "BaseException") = some true
  ty : PySem.W.typeIn K (.ref C) = some (.type "type")
  self : PySem.W.subIn K (.ref C) (.ref C) = some true
  exc : ExcC K C
  kT : PySem.W.kitOne K (.ref C) (.ref T) = some true
  kV : PySem.W.kitOne K (.ref C) (.type "ValueError") = some true
theorem kit_sub {K : PySem.W.Frag} {t : Value} {T : Addr} (h1 : PySem.W.hasDictIn K T = true) (h2 : PySem.W.typeIn K (.ref T) = some (.type "type")) (h3 : PySem.W.subIn K t (.ref T) = some true) : PySem.W.kitOne K t (.ref T) = some true := by
  obtain ⟨cd, hc, _⟩ := PySem.W.any_some h1
  have e : ((PySem.W.clsIn K T).isSome && PySem.W.typeIn K (.ref T) == some (.type "type")) = true := by rw [hc, h2] <;> rfl
  unfold PySem.W.kitOne
  split
  · rfl
  · exact (if_pos e).trans h3
theorem kit_subV {K : PySem.W.Frag} {C : Addr} (h3 : PySem.W.subIn K (.ref C) (.type "ValueError") = some true) : PySem.W.kitOne K (.ref C) (.type "ValueError") = some true := by
  unfold PySem.W.kitOne
  split
  · rfl
  · have e : PySem.W.kitMeta "ValueError" = true := by decide +kernel
    show (if PySem.W.kitMeta "ValueError" = true then PySem.W.subIn K (.ref C) (.type "ValueError") else none) = some true
    rw [if_pos e]; exact h3
theorem Xc.exm {K : PySem.W.Frag} {mg : Str → Option Value} {x : Str} {C T : Addr} (h : Xc K mg x C T) : PySem.W.exmOne K (.ref C) (.ref C) = some true := PySem.W.exm_ref h.sub h.exc.hd h.ty h.self
end Rt
/-! ### several except clauses, each with a name -/
namespace Rt
open PySem PySem.Spec PyProof.Rows L2
/-- what the named clauses wish, one behind the other -/
def wMany2 (K : PySem.W.Frag) (Wout : WX) (D : Ends) : List (Nat × Value × (Addr → Value → Option Addr → TS)) → WX
  | [] => Wout
  | (i, c, ts) :: r => fun cls d σ H => ∃ b, PySem.W.exmOne K cls c = some b ∧
      (b = true → ∀ a, H a = none → ts a cls d { nx := fun σ' H' => D.nx (σ'.set i none) H', rt := D.rt, bk := fun σ' H' => D.bk (σ'.set i none) H', ct := fun σ' H' => D.ct (σ'.set i none) H' } (σ.set i (some (.ref a))) H) ∧ (b = false → wMany2 K Wout D r cls d σ H)
inductive HdA (X : Cx) : List ExceptHandler → List (Nat × Value × (Addr → Value → Option Addr → TS)) → Prop
  | nil : HdA X [] []
  | cons {x n : Str} {i : Nat} {c : Value} {ts : Addr → Value → Option Addr → TS} {b0 : Stmt} {su : List Stmt} {np p2 : Pos} {hd : List ExceptHandler} {l : List (Nat × Value × (Addr → Value → Option Addr → TS))}
      (hi : X.N[i]? = some n) (hl : X.env.kindOf n = some .local) (nm : Names X x c)
      (rd : ∀ (a : Addr) (oe : Obj) (cls : Value) (d : Option Addr) (pn : List (Addr × Obj)), Zc cls d oe → (∃ vs, oe.data = .fields vs) → PSs (X.suite a ((a, oe) :: pn)) (b0 :: su) (ts a cls d)) (r : HdA X hd l) :
      HdA X (.ExceptHandler (some (.Name x np)) (some n) (b0 :: su) p2 :: hd) ((i, c, ts) :: l)
section
variable {X : Cx} {body : List Stmt} {h0 : ExceptHandler} {hd : List ExceptHandler} {l : List (Nat × Value × (Addr → Value → Option Addr → TS))} {pos : Pos} {tb : WX → TS} {Wout : WX}
theorem ps_try_manyA (hs : X.stack = X.env :: X.outer) (hf : X.env.frame = some X.env.locals) (nd : X.N.Nodup) (tk : Takes X Wout)
    (hb : ∀ (W : WX) (pn : List (Addr × Obj)) (xe : Value → Shared → Prop), Takes (X.tr pn xe) W → PassesOwn (model X.prog X.w) X.A X.env xe → PSs (X.tr pn xe) body (tb W)) (hh : HdA X (h0 :: hd) l) :
    PS X (.Try body (h0 :: hd) [] [] pos) (fun D σ H => tb (wMany2 X.K Wout D l) D σ H) := ⟨fun ps s0 σ H D I0 h => by
  have ok := I0.ok
  have fr0 : X.A.frames = some (X.env :: X.outer) := ok.frames.trans (congrArg some hs)
  refine wpAny_Try_except (wpAny_mono ((hb (wMany2 X.K Wout D l) (X.pn ++ ps) (fun e t1 => wpAny (model X.prog X.w) X.A (noteFrame e X.env) (fun _ t2 => wpAny (model X.prog X.w) X.A (setFlight e none) (fun _ t3 => wpAny (model X.prog X.w) X.A (handleBy e X.env (h0 :: hd)) (SP X ps D) X.xe t3) X.xe t2) X.xe t1)
    (fun u t xx => ?_) PassesOwn.looking).run [] s0 σ H D (I0.toTry _) h) (fun f t1 hsp => ?_) fun _ _ z => z)
  · obtain ⟨a, B, sI, ps', σ1, H1, cls, d, rfl, Jt, nb, up, sky, na, os, ag, w⟩ := xx
    have J := Jt.ofTry ok
    rw [show X.stack = X.env :: X.outer from hs] at sky
    show wpAny (model X.prog X.w) X.A (noteFrame (.ref a) X.env) _ X.xe t
    refine Sky.land Zc.steady fr0 hf sky fun g3 fl3 u3 => ?_
    have J3 := J.landed (s' := { t with heap := g3 }) nb fl3.1 (up.trans u3) os ag
    obtain ⟨oe, vs, he, hz, hdt⟩ := fl3.there
    have nfr : a ∉ frs (X.env :: X.outer) := fun hm => by
      obtain ⟨_, o', e', hnf⟩ := fl3.2.2.1.mem hm
      rw [he] at e'; cases e'; exact hnf _ hdt
    have nL : a ≠ X.env.locals := fun z => nfr (List.mem_filterMap.mpr ⟨X.env, List.mem_cons_self, hf.trans (congrArg some z.symm)⟩)
    have nF : a ∉ X.fs := fun hm => by
      obtain ⟨e, k1, k2⟩ := List.mem_filterMap.mp hm
      exact nfr (List.mem_filterMap.mpr ⟨e, List.mem_cons_of_mem _ k1, k2⟩)
    have S3 := J3.suite he hdt na nL nF
    have step : ∀ {hs2 : List ExceptHandler} {l2 : List (Nat × Value × (Addr → Value → Option Addr → TS))}, HdA X hs2 l2 → wMany2 X.K Wout D l2 cls d σ1 H1 →
        wpAny (model X.prog X.w) X.A (handleBy (.ref a) X.env hs2) (SP X ps D) X.xe { t with heap := g3 } := fun {hs2 l2} hk => by
      induction hk with
      | nil =>
        intro w2
        obtain ⟨_, _, _, oe', vs', T, _, _, he', _, hd', h1', _⟩ := id fl3
        refine wpAny_handleBy_nil ?_
        unfold PySem.passOn
        refine wpAny_bind (wpAny_field he' hd' h1' ?_)
        rw [if_neg (show ¬ ((Value.ref T == Value.none) = true) by simp)]
        have out : wpAny (model X.prog X.w) X.A (setFlight (.ref a) X.env.frame) (fun _ t4 => wpAny (model X.prog X.w) X.A (throw (.ref a) : Sem Flow) (SP X ps D) X.xe t4) X.xe { t with heap := g3 } := by
          rw [hf]
          exact HandSPX.setFlight_upZ fl3 fun g4 q4 u4 => wpAny_throw (tk _ _ ⟨a, B, sI, ps, σ1, H1, cls, d, rfl, J, nb, (up.trans u3).trans u4, .inr (.inr (hs ▸ q4)), na, os, ag, w2⟩)
        first | exact wpAny_bind (wpAny_pure (wpAny_bind out)) | exact wpAny_bind out
      | @cons x n i c ts b0 su np p2 hd2 l3 hi hl nm rd r ih =>
        rintro ⟨b, hb1, yes, no⟩
        have lt : PySem.W.Looks (model X.prog X.w) g3 (typeOf (.ref a)) cls := fun _ _ _ _ k q => wpAny_typeOf_ref (k _ _ he) (hz.1.symm ▸ q)
        have lm := PySem.W.exm_one (M := model X.prog X.w) J3.kIn lt hb1
        have ask : ∀ {Q E : Value → Shared → Prop}, Q c { t with heap := g3 } → wpAny (model X.prog X.w) (X.A.mark (some (.ref a))) (eval (.Name x np) X.env) Q E { t with heap := g3 } := fun {Q E} q => by
          obtain ⟨k1, k2, k3 | ⟨k3, k4, k5⟩⟩ := nm
          · exact ld_glob (X := X.suite a ((a, oe) :: (X.pn ++ ps))) S3 k1 k3 q k2
          · exact ld_blt (X := X.suite a ((a, oe) :: (X.pn ++ ps))) S3 k1 k3 k4 q k5 k2
        refine wpAny_handleBy_cons (codeAny_handlers_test (ask (lm.here ?_))) (fun q => nomatch q)
        cases b with
        | false => exact ih (no rfl)
        | true =>
          refine codeAny_handlers_suite_as (HandSPX.lands_againZ fl3 fun g4 fl4 u4 => ?_)
          have J4 := J.landed (s' := { t with heap := g4 }) nb fl4.1 ((up.trans u3).trans u4) os ag
          obtain ⟨oe4, vs4, he4, hz4, hd4⟩ := fl4.there
          have S4 := J4.suite he4 hd4 na nL nF
          refine store_ok (X := X.suite a ((a, oe4) :: (X.pn ++ ps))) (v := .ref a) S4 nd hi (.inl hl) rfl (fun t5 S5 => wpAny_mono ((rd a oe4 cls d (X.pn ++ ps) hz4 ⟨_, hd4⟩).run [] t5 _ H1 _ S5 (yes rfl a na)) (fun f t6 hsp => ?_) fun _ _ z => z.elim) (.inr hl)
          have off : ∀ {σ6 : L2.St} {H6 : Hp} {Q : Shared → Prop}, Inv (X.suite a ((a, oe4) :: (X.pn ++ ps))) [] σ6 H6 t6 → (∀ t7, Inv X ps (σ6.set i none) H6 t7 → Q t7) →
              wpAny (model X.prog X.w) X.A (do bindName X.env n .none; unbindBehindTheSuite X.env n p2) (fun _ t7 => Q t7) X.xe t6 := fun {σ6 H6 Q} S6 hq => gone_ok (S6.unsuite ok) nd hi hl hq
          cases f with
          | next => obtain ⟨_, _, S6, q6⟩ := hsp; exact off S6 fun _ J7 => ⟨_, _, J7, q6⟩
          | brk => obtain ⟨_, _, S6, q6⟩ := hsp; exact off S6 fun _ J7 => ⟨_, _, J7, q6⟩
          | cont => obtain ⟨_, _, S6, q6⟩ := hsp; exact off S6 fun _ J7 => ⟨_, _, J7, q6⟩
          | ret u => obtain ⟨_, _, _, S6, r6, q6⟩ := hsp; exact off S6 fun _ J7 => ⟨_, _, _, J7, r6, q6⟩
    exact step hh w
  · cases f with
    | next => obtain ⟨_, _, Jn, q⟩ := hsp; exact wpAny_execs_nil ⟨_, _, Jn.ofTry ok, q⟩
    | brk => obtain ⟨_, _, Jn, q⟩ := hsp; exact ⟨_, _, Jn.ofTry ok, q⟩
    | cont => obtain ⟨_, _, Jn, q⟩ := hsp; exact ⟨_, _, Jn.ofTry ok, q⟩
    | ret u => obtain ⟨_, _, _, Jn, r, q⟩ := hsp; exact ⟨_, _, _, Jn.ofTry ok, r, q⟩⟩
end
end Rt
namespace Rt
open PySem PySem.Spec PyProof.Rows L2
def top (i : Nat) : Stmt := PySem.Challenge.pw_radixtrail_k12_whole_deeds.main.body.getD i (.Pass ⟨0, 0, 0, 0⟩)
abbrev s_is_sign : Stmt := top 11
abbrev N_is_sign : List Str := ["sign", "code"]
theorem sc_is_sign : FnScope ["sign", "code"] ["sign"] (defScope s_is_sign) := fn_by (by decide +kernel)
abbrev s_is_name : Stmt := top 12
abbrev N_is_name : List Str := ["thing", "sign"]
theorem sc_is_name : FnScope ["thing", "sign"] ["thing"] (defScope s_is_name) := fn_by (by decide +kernel)
abbrev s_common : Stmt := top 13
abbrev N_common : List Str := ["one", "other", "at"]
theorem sc_common : FnScope ["one", "other", "at"] ["one", "other"] (defScope s_common) := fn_by (by decide +kernel)
abbrev s_rest : Stmt := top 14
abbrev N_rest : List Str := ["name", "beginning"]
theorem sc_rest : FnScope ["name", "beginning"] ["name", "beginning"] (defScope s_rest) := fn_by (by decide +kernel)
abbrev s_branch_of : Stmt := top 16
abbrev N_branch_of : List Str := ["branches", "sign", "branch"]
theorem sc_branch_of : FnScope ["branches", "sign", "branch"] ["branches", "sign"] (defScope s_branch_of) := fn_by (by decide +kernel)
abbrev s_with_branch : Stmt := top 17
abbrev N_with_branch : List Str := ["branches", "sign", "tree", "made", "branch"]
theorem sc_with_branch : FnScope ["branches", "sign", "tree", "made", "branch"] ["branches", "sign", "tree"] (defScope s_with_branch) := fn_by (by decide +kernel)
abbrev s_knot_of : Stmt := top 18
abbrev N_knot_of : List Str := ["shared", "branches", "sign", "only"]
theorem sc_knot_of : FnScope ["shared", "branches", "sign", "only"] ["shared", "branches"] (defScope s_knot_of) := fn_by (by decide +kernel)
abbrev s_behind : Stmt := top 19
abbrev N_behind : List Str := ["tree", "size"]
theorem sc_behind : FnScope ["tree", "size"] ["tree", "size"] (defScope s_behind) := fn_by (by decide +kernel)
abbrev s_found : Stmt := top 20
abbrev N_found : List Str := ["tree", "name", "left"]
theorem sc_found : FnScope ["tree", "name", "left"] ["tree", "name"] (defScope s_found) := fn_by (by decide +kernel)
abbrev s_put : Stmt := top 21
abbrev N_put : List Str := ["tree", "name", "number", "shared", "size", "one", "other", "sign", "grown"]
theorem sc_put : FnScope ["tree", "name", "number", "shared", "size", "one", "other", "sign", "grown"] ["tree", "name", "number"] (defScope s_put) := fn_by (by decide +kernel)
abbrev s_thinned : Stmt := top 22
abbrev N_thinned : List Str := ["tree", "name", "size", "sign", "left"]
theorem sc_thinned : FnScope ["tree", "name", "size", "sign", "left"] ["tree", "name"] (defScope s_thinned) := fn_by (by decide +kernel)
abbrev s_without : Stmt := top 23
abbrev N_without : List Str := ["tree", "name"]
theorem sc_without : FnScope ["tree", "name"] ["tree", "name"] (defScope s_without) := fn_by (by decide +kernel)
abbrev s_ahead : Stmt := top 24
abbrev N_ahead : List Str := ["tree", "beginning"]
theorem sc_ahead : FnScope ["tree", "beginning"] ["tree", "beginning"] (defScope s_ahead) := fn_by (by decide +kernel)
abbrev s_names : Stmt := top 25
abbrev N_names : List Str := ["tree", "told", "branch", "pair"]
theorem sc_names : FnScope ["tree", "told", "branch", "pair"] ["tree"] (defScope s_names) := fn_by (by decide +kernel)
abbrev s_cut : Stmt := top 27
abbrev N_cut : List Str := ["tree", "beginning", "size", "sign", "pair"]
theorem sc_cut : FnScope ["tree", "beginning", "size", "sign", "pair"] ["tree", "beginning"] (defScope s_cut) := fn_by (by decide +kernel)
abbrev s_branches_behind : Stmt := top 28
abbrev N_branches_behind : List Str := ["tree", "size"]
theorem sc_branches_behind : FnScope ["tree", "size"] ["tree", "size"] (defScope s_branches_behind) := fn_by (by decide +kernel)
abbrev s_joined : Stmt := top 29
abbrev N_joined : List Str := ["one", "other", "shared", "made", "branch", "held"]
theorem sc_joined : FnScope ["one", "other", "shared", "made", "branch", "held"] ["one", "other"] (defScope s_joined) := fn_by (by decide +kernel)
abbrev s_moved : Stmt := top 30
abbrev N_moved : List Str := ["tree", "beginning", "other", "pair"]
theorem sc_moved : FnScope ["tree", "beginning", "other", "pair"] ["tree", "beginning", "other"] (defScope s_moved) := fn_by (by decide +kernel)
abbrev s_copied : Stmt := top 31
abbrev N_copied : List Str := ["tree", "beginning", "other", "pair"]
theorem sc_copied : FnScope ["tree", "beginning", "other", "pair"] ["tree", "beginning", "other"] (defScope s_copied) := fn_by (by decide +kernel)
abbrev s_under : Stmt := top 33
abbrev N_under : List Str := ["tree", "beginning", "pair"]
theorem sc_under : FnScope ["tree", "beginning", "pair"] ["tree", "beginning"] (defScope s_under) := fn_by (by decide +kernel)
abbrev s_many : Stmt := top 34
abbrev N_many : List Str := ["tree", "beginning"]
theorem sc_many : FnScope ["tree", "beginning"] ["tree", "beginning"] (defScope s_many) := fn_by (by decide +kernel)
abbrev s_need_name : Stmt := top 37
abbrev N_need_name : List Str := ["thing"]
theorem sc_need_name : FnScope ["thing"] ["thing"] (defScope s_need_name) := fn_by (by decide +kernel)
abbrev s_need_branch : Stmt := top 38
abbrev N_need_branch : List Str := ["tree", "beginning", "other", "branch", "pair"]
theorem sc_need_branch : FnScope ["tree", "beginning", "other", "branch", "pair"] ["tree", "beginning", "other"] (defScope s_need_branch) := fn_by (by decide +kernel)
abbrev s_Trail___init__ : Stmt := inClass (top 39) 0
abbrev N_Trail___init__ : List Str := ["self"]
theorem sc_Trail___init__ : FnScope ["self"] ["self"] (defScope s_Trail___init__) := fn_by (by decide +kernel)
abbrev s_Trail_do : Stmt := inClass (top 39) 1
abbrev N_Trail_do : List Str := ["self", "tree"]
theorem sc_Trail_do : FnScope ["self", "tree"] ["self", "tree"] (defScope s_Trail_do) := fn_by (by decide +kernel)
abbrev s_Trail_keep : Stmt := inClass (top 39) 2
abbrev N_Trail_keep : List Str := ["self", "name", "number", "had"]
theorem sc_Trail_keep : FnScope ["self", "name", "number", "had"] ["self", "name", "number"] (defScope s_Trail_keep) := fn_by (by decide +kernel)
abbrev s_Trail_drop : Stmt := inClass (top 39) 3
abbrev N_Trail_drop : List Str := ["self", "name", "had"]
theorem sc_Trail_drop : FnScope ["self", "name", "had"] ["self", "name"] (defScope s_Trail_drop) := fn_by (by decide +kernel)
abbrev s_Trail_prune : Stmt := inClass (top 39) 4
abbrev N_Trail_prune : List Str := ["self", "beginning", "pair"]
theorem sc_Trail_prune : FnScope ["self", "beginning", "pair"] ["self", "beginning"] (defScope s_Trail_prune) := fn_by (by decide +kernel)
abbrev s_Trail_move : Stmt := inClass (top 39) 5
abbrev N_Trail_move : List Str := ["self", "beginning", "other", "branch"]
theorem sc_Trail_move : FnScope ["self", "beginning", "other", "branch"] ["self", "beginning", "other"] (defScope s_Trail_move) := fn_by (by decide +kernel)
abbrev s_Trail_graft : Stmt := inClass (top 39) 6
abbrev N_Trail_graft : List Str := ["self", "beginning", "other", "branch", "grown", "count"]
theorem sc_Trail_graft : FnScope ["self", "beginning", "other", "branch", "grown", "count"] ["self", "beginning", "other"] (defScope s_Trail_graft) := fn_by (by decide +kernel)
abbrev s_Trail_back : Stmt := inClass (top 39) 7
abbrev N_Trail_back : List Str := ["self"]
theorem sc_Trail_back : FnScope ["self"] ["self"] (defScope s_Trail_back) := fn_by (by decide +kernel)
abbrev s_Trail_told : Stmt := inClass (top 39) 8
abbrev N_Trail_told : List Str := ["self", "beginning"]
theorem sc_Trail_told : FnScope ["self", "beginning"] ["self", "beginning"] (defScope s_Trail_told) := fn_by (by decide +kernel)
abbrev s_Trail_tree : Stmt := inClass (top 39) 9
abbrev N_Trail_tree : List Str := ["self"]
theorem sc_Trail_tree : FnScope ["self"] ["self"] (defScope s_Trail_tree) := fn_by (by decide +kernel)
abbrev s_Trail_size : Stmt := inClass (top 39) 10
abbrev N_Trail_size : List Str := ["self"]
theorem sc_Trail_size : FnScope ["self"] ["self"] (defScope s_Trail_size) := fn_by (by decide +kernel)
abbrev s__law_cell_at : Stmt := top 41
abbrev N__law_cell_at : List Str := ["_law_script", "_law_k"]
theorem sc__law_cell_at : FnScope ["_law_script", "_law_k"] ["_law_script", "_law_k"] (defScope s__law_cell_at) := fn_by (by decide +kernel)
abbrev s__law_whole : Stmt := top 42
abbrev N__law_whole : List Str := ["_law_told"]
theorem sc__law_whole : FnScope ["_law_told"] ["_law_told"] (defScope s__law_whole) := fn_by (by decide +kernel)
abbrev s__law_sign_by : Stmt := top 43
abbrev N__law_sign_by : List Str := ["_law_cell", "_law_some"]
theorem sc__law_sign_by : FnScope ["_law_cell", "_law_some"] ["_law_cell"] (defScope s__law_sign_by) := fn_by (by decide +kernel)
abbrev s__law_word_by : Stmt := top 44
abbrev N__law_word_by : List Str := ["_law_cell", "_law_size", "_law_made", "_law_number", "_law_k"]
theorem sc__law_word_by : FnScope ["_law_cell", "_law_size", "_law_made", "_law_number", "_law_k"] ["_law_cell", "_law_size"] (defScope s__law_word_by) := fn_by (by decide +kernel)
abbrev s__law_number_by : Stmt := top 45
abbrev N__law_number_by : List Str := ["_law_cell", "_law_size", "_law_number", "_law_mixed", "_law_k"]
theorem sc__law_number_by : FnScope ["_law_cell", "_law_size", "_law_number", "_law_mixed", "_law_k"] ["_law_cell"] (defScope s__law_number_by) := fn_by (by decide +kernel)
abbrev s__law_alike : Stmt := top 46
abbrev N__law_alike : List Str := ["_law_told", "_law_due_here", "_law_k"]
theorem sc__law_alike : FnScope ["_law_told", "_law_due_here", "_law_k"] ["_law_told", "_law_due_here"] (defScope s__law_alike) := fn_by (by decide +kernel)
abbrev s__law_text_by : Stmt := top 47
abbrev N__law_text_by : List Str := ["_law_cell", "_law_held", "_law_size", "_law_word", "_law_old"]
theorem sc__law_text_by : FnScope ["_law_cell", "_law_held", "_law_size", "_law_word", "_law_old"] ["_law_cell", "_law_held"] (defScope s__law_text_by) := fn_by (by decide +kernel)
abbrev s__law_other_by : Stmt := top 48
abbrev N__law_other_by : List Str := ["_law_cell", "_law_held"]
theorem sc__law_other_by : FnScope ["_law_cell", "_law_held"] ["_law_cell", "_law_held"] (defScope s__law_other_by) := fn_by (by decide +kernel)
abbrev s__law_word_of : Stmt := top 49
abbrev N__law_word_of : List Str := ["_law_e", "_law_words"]
theorem sc__law_word_of : FnScope ["_law_e", "_law_words"] ["_law_e"] (defScope s__law_word_of) := fn_by (by decide +kernel)
abbrev s__law_tried : Stmt := top 50
abbrev N__law_tried : List Str := ["_law_trail", "_law_way", "_law_one", "_law_other", "_law_number", "_law_e"]
theorem sc__law_tried : FnScope ["_law_trail", "_law_way", "_law_one", "_law_other", "_law_number", "_law_e"] ["_law_trail", "_law_way", "_law_one", "_law_other", "_law_number"] (defScope s__law_tried) := fn_by (by decide +kernel)
abbrev s__law_named : Stmt := top 51
abbrev N__law_named : List Str := ["_law_thing"]
theorem sc__law_named : FnScope ["_law_thing"] ["_law_thing"] (defScope s__law_named) := fn_by (by decide +kernel)
abbrev s__law_branch : Stmt := top 52
abbrev N__law_branch : List Str := ["_law_plain", "_law_one", "_law_other", "_law_stay", "_law_group", "_law_name", "_law_fresh", "_law_grown", "_law_k"]
theorem sc__law_branch : FnScope ["_law_plain", "_law_one", "_law_other", "_law_stay", "_law_group", "_law_name", "_law_fresh", "_law_grown", "_law_k"] ["_law_plain", "_law_one", "_law_other", "_law_stay"] (defScope s__law_branch) := fn_by (by decide +kernel)
abbrev s__law_due : Stmt := top 53
abbrev N__law_due : List Str := ["_law_plain", "_law_way", "_law_one", "_law_other", "_law_number", "_law_grown", "_law_name", "_law_had"]
theorem sc__law_due : FnScope ["_law_plain", "_law_way", "_law_one", "_law_other", "_law_number", "_law_grown", "_law_name", "_law_had"] ["_law_plain", "_law_way", "_law_one", "_law_other", "_law_number"] (defScope s__law_due) := fn_by (by decide +kernel)
abbrev s__law_begun : Stmt := top 54
abbrev N__law_begun : List Str := ["_law_trail", "_law_past", "_law_way", "_law_word", "_law_more", "_law_plain", "_law_texts", "_law_k", "_law_text", "_law_sign", "_law_name"]
theorem sc__law_begun : FnScope ["_law_trail", "_law_past", "_law_way", "_law_word", "_law_more", "_law_plain", "_law_texts", "_law_k", "_law_text", "_law_sign", "_law_name"] ["_law_trail", "_law_past", "_law_way", "_law_word", "_law_more"] (defScope s__law_begun) := fn_by (by decide +kernel)
abbrev s__law_first_deeds : Stmt := top 55
abbrev N__law_first_deeds : List Str := ["_law_begin", "_law_word", "_law_told"]
theorem sc__law_first_deeds : FnScope ["_law_begin", "_law_word", "_law_told"] ["_law_begin", "_law_word"] (defScope s__law_first_deeds) := fn_by (by decide +kernel)
abbrev s__law_tells : Stmt := top 56
abbrev N__law_tells : List Str := ["_law_trail", "_law_start", "_law_plain", "_law_kept", "_law_due_here", "_law_name", "_law_got", "_law_all_of", "_law_again"]
theorem sc__law_tells : FnScope ["_law_trail", "_law_start", "_law_plain", "_law_kept", "_law_due_here", "_law_name", "_law_got", "_law_all_of", "_law_again"] ["_law_trail", "_law_start", "_law_plain", "_law_kept"] (defScope s__law_tells) := fn_by (by decide +kernel)
abbrev s_law : Stmt := top 57
abbrev N_law : List Str := ["_law_script", "_law_trail", "_law_past", "_law_kept", "_law_begin", "_law_more", "_law_word", "_law_plain", "_law_first", "_law_size", "_law_at", "_law_cell", "_law_held", "_law_way", "_law_one", "_law_other", "_law_number", "_law_due_here", "_law_start", "_law_pair"]
theorem sc_law : FnScope ["_law_script", "_law_trail", "_law_past", "_law_kept", "_law_begin", "_law_more", "_law_word", "_law_plain", "_law_first", "_law_size", "_law_at", "_law_cell", "_law_held", "_law_way", "_law_one", "_law_other", "_law_number", "_law_due_here", "_law_start", "_law_pair"] ["_law_script"] (defScope s_law) := fn_by (by decide +kernel)
structure Bl (mg : Str → Option Value) : Prop where
  len_ : mg "len" = none
  range_ : mg "range" = none
  tuple_ : mg "tuple" = none
  sorted_ : mg "sorted" = none
  isinstance_ : mg "isinstance" = none
  str_ : mg "str" = none
  int_ : mg "int" = none
  bool_ : mg "bool" = none
  list_ : mg "list" = none
  min_ : mg "min" = none
  max_ : mg "max" = none
  set_ : mg "set" = none
  dict_ : mg "dict" = none
  ord_ : mg "ord" = none
  enumerate_ : mg "enumerate" = none
  ValueError_ : mg "ValueError" = none
end Rt
/-! ### small words for the proofs -/
local macro_rules | `(tactic| walk_at "side") => `(tactic| first | assumption | (exact rfl) | (exact Nat.le_of_ble_eq_true rfl) | trivial | omega | (simp only [List.length_append, List.length_cons, List.length_nil, List.length_take, List.length_drop, List.length_map]; omega) | (simp only [List.length_append, List.length_cons, List.length_nil, List.length_take, List.length_drop, List.length_map] at *; omega))
local macro_rules | `(tactic| walk_at "ev") => `(tactic| first
  | (with_reducible exact Rt.ev_int) | (with_reducible exact Rt.ev_str) | (with_reducible exact Rt.ev_non) | (with_reducible exact Rt.ev_bl) | (with_reducible exact Rt.ea_nil) | (with_reducible exact Rt.eo_none) | (with_reducible exact Rt.et_yes)
  | ((with_reducible apply Rt.ev_var); (next => assumption); (next => exact rfl))
  | assumption
  | ((with_reducible apply Rt.ev_add); (next => walk_at "ev"); (next => walk_at "ev"))
  | ((with_reducible apply Rt.ev_sub); (next => walk_at "ev"); (next => walk_at "ev"))
  | ((with_reducible apply Rt.ev_addS); (next => walk_at "ev"); (next => walk_at "ev"); (next => walk_at "side"))
  | ((with_reducible apply Rt.ev_mul); (next => walk_at "ev"); (next => walk_at "ev"); (next => walk_at "mul"))
  | ((with_reducible apply Rt.ev_fdiv); (next => walk_at "ev"); (next => walk_at "ev"); (next => exact ⟨by decide, by decide⟩))
  | ((with_reducible apply Rt.ev_mod); (next => walk_at "ev"); (next => walk_at "ev"); (next => walk_at "side"))
  | ((with_reducible apply Rt.ev_lt); (next => walk_at "ev"); (next => walk_at "ev"))
  | ((with_reducible apply Rt.ev_le); (next => walk_at "ev"); (next => walk_at "ev"))
  | ((with_reducible apply Rt.ev_gt); (next => walk_at "ev"); (next => walk_at "ev"))
  | ((with_reducible apply Rt.ev_ge); (next => walk_at "ev"); (next => walk_at "ev"))
  | ((with_reducible apply Rt.ev_ltS); (next => walk_at "ev"); (next => walk_at "ev"))
  | ((with_reducible apply Rt.ev_leS); (next => walk_at "ev"); (next => walk_at "ev"))
  | ((with_reducible apply Rt.ev_gtS); (next => walk_at "ev"); (next => walk_at "ev"))
  | ((with_reducible apply Rt.ev_geS); (next => walk_at "ev"); (next => walk_at "ev"))
  | ((with_reducible apply Rt.ev_isN); (next => walk_at "ev"))
  | ((with_reducible apply Rt.ev_notN); (next => walk_at "ev"))
  | ((with_reducible apply Rt.ev_eqS); (next => walk_at "ev"); (next => walk_at "ev"))
  | ((with_reducible apply Rt.ev_eqI); (next => walk_at "ev"); (next => walk_at "ev"))
  | ((with_reducible apply Rt.ev_neS); (next => walk_at "ev"); (next => walk_at "ev"))
  | ((with_reducible apply Rt.ev_neI); (next => walk_at "ev"); (next => walk_at "ev"))
  | ((with_reducible apply Rt.ev_eqB); (next => walk_at "ev"); (next => walk_at "ev"))
  | ((with_reducible apply Rt.ev_neB); (next => walk_at "ev"); (next => walk_at "ev"))
  | ((with_reducible apply Rt.ev_ixT); (next => walk_at "ev"); (next => walk_at "ev"); (next => walk_at "at"))
  | ((with_reducible apply Rt.ev_ixQT); (next => walk_at "ev"); (next => walk_at "ev"); (next => walk_at "at"))
  | ((with_reducible apply Rt.ev_ixQL); (next => walk_at "ev"); (next => walk_at "ev"); (next => walk_at "at"))
  | ((with_reducible apply Rt.ev_ixL); (next => walk_at "ev"); (next => walk_at "ev"); (next => walk_at "at"))
  | ((with_reducible apply Rt.ev_ixR); (next => walk_at "ev"); (next => walk_at "ev"); (next => walk_at "at"))
  | ((with_reducible apply Rt.ev_ixS); (next => walk_at "ev"); (next => walk_at "ev"); (next => walk_at "side"); (next => walk_at "at"))
  | ((with_reducible apply Rt.ev_slS); (next => walk_at "ev"); (next => walk_at "ev"); (next => walk_at "ev"); (next => walk_at "side"))
  | ((with_reducible apply Rt.ev_lenS); (next => walk_at "ev"); (next => walk_at "side"))
  | ((with_reducible apply Rt.ev_lenL); (next => walk_at "ev"))
  | ((with_reducible apply Rt.ev_lenT); (next => walk_at "ev"))
  | ((with_reducible apply Rt.ev_lenR); (next => walk_at "ev"))
  | ((with_reducible apply Rt.ev_isi); (next => walk_at "ev"); (next => exact rfl); (next => walk_at "kit"))
  | ((with_reducible apply Rt.ev_tuple); (next => walk_at "ev"))
  | ((with_reducible apply Rt.ev_tup); (next => walk_at "ev"); (next => walk_at "side"))
  | ((with_reducible apply Rt.ev_lst); (next => walk_at "ev"); (next => walk_at "side"))
  | ((with_reducible apply Rt.ev_call); (next => walk_at "ev"); (next => walk_at "call"))
  | ((with_reducible apply Rt.ev_callN); (next => walk_at "ev"); (next => walk_at "call"))
  | ((with_reducible apply Rt.et_test); (next => walk_at "ev"))
  | ((with_reducible apply Rt.et_B); (next => walk_at "ev"))
  | ((with_reducible apply Rt.et_not); (next => walk_at "ev"))
  | ((with_reducible apply Rt.ea_cons); (next => walk_at "ev"); (next => walk_at "ev"))
  | ((with_reducible apply Rt.eo_some); (next => walk_at "ev"))
  | ((with_reducible apply Rt.ev_notV); (next => walk_at "ev"))
  | ((with_reducible apply Rt.ev_neg); (next => walk_at "ev"))
  | ((with_reducible apply Rt.ev_min2); (next => walk_at "ev"); (next => walk_at "ev"))
  | ((with_reducible apply Rt.ev_int1); (next => walk_at "ev"))
  | ((with_reducible apply Rt.ev_own); (next => ((with_reducible apply Rt.ev_var); (next => assumption); (next => exact rfl))); (next => assumption); (next => assumption))
  | ((with_reducible apply Rt.EvN.ev); (next => walk_at "en"))
  | (with_reducible exact Rt.ev_c))
local macro_rules | `(tactic| walk_at "en") => `(tactic| first
  | ((with_reducible apply Rt.en_lst); (next => walk_at "ev"); (next => walk_at "side"))
  | ((with_reducible apply Rt.en_call); (next => walk_at "ev"); (next => walk_at "call"))
  | ((with_reducible apply Rt.en_cat); (next => walk_at "ev"); (next => walk_at "ev"); (next => walk_at "side"))
  | ((with_reducible apply Rt.en_slL); (next => walk_at "ev"); (next => walk_at "ev"); (next => walk_at "ev")))
local macro_rules | `(tactic| walk_at "at") => `(tactic| first | assumption | exact rfl)
local macro_rules | `(tactic| walk_at "mul") => `(tactic| first | assumption | exact .inr ⟨by decide, by decide⟩ | exact .inl ⟨by decide, by decide⟩)
local macro_rules | `(tactic| walk_at "deq") => `(tactic| first | (exact rfl) | assumption | (exact congrArg Rt.D.int (by omega)) | decide +kernel | (simp only [Rt.cutL_to1, Rt.cutL_from1, Rt.cutL_one, Rt.cutL_behind, Rt.cutL_to, Rt.cutL_from, Rt.cutL_nn, *]; done) | exact decide_eq_true (by assumption) | exact decide_eq_false (by assumption))
local macro_rules | `(tactic| walk_at "evq") => `(tactic| (refine Rt.Ev.to (by walk_at "ev") ?_; walk_at "deq"))
local macro_rules | `(tactic| walk_at "etq") => `(tactic| (refine Rt.EvT.to (by walk_at "ev") ?_; walk_at "deq"))
local macro_rules | `(tactic| walk_at "kit") => `(tactic| first | (with_reducible exact Rt.kit_NoneType_str) | (with_reducible exact Rt.kit_NoneType_int) | (with_reducible exact Rt.kit_NoneType_bool) | (with_reducible exact Rt.kit_NoneType_tuple) | (with_reducible exact Rt.kit_NoneType_list) | (with_reducible exact Rt.kit_bool_str) | (with_reducible exact Rt.kit_bool_int) | (with_reducible exact Rt.kit_bool_bool) | (with_reducible exact Rt.kit_bool_tuple) | (with_reducible exact Rt.kit_bool_list) | (with_reducible exact Rt.kit_int_str) | (with_reducible exact Rt.kit_int_int) | (with_reducible exact Rt.kit_int_bool) | (with_reducible exact Rt.kit_int_tuple) | (with_reducible exact Rt.kit_int_list) | (with_reducible exact Rt.kit_str_str) | (with_reducible exact Rt.kit_str_int) | (with_reducible exact Rt.kit_str_bool) | (with_reducible exact Rt.kit_str_tuple) | (with_reducible exact Rt.kit_str_list) | (with_reducible exact Rt.kit_tuple_str) | (with_reducible exact Rt.kit_tuple_int) | (with_reducible exact Rt.kit_tuple_bool) | (with_reducible exact Rt.kit_tuple_tuple) | (with_reducible exact Rt.kit_tuple_list) | (with_reducible exact Rt.kit_list_str) | (with_reducible exact Rt.kit_list_int) | (with_reducible exact Rt.kit_list_bool) | (with_reducible exact Rt.kit_list_tuple) | (with_reducible exact Rt.kit_list_list))
namespace Rt
open PySem L2
/-! ### the order of texts -/
theorem lt_irr (a : Tx) : ¬ a < a := List.lt_irrefl a
theorem lt_tr {a b c : Tx} (h : a < b) (h2 : b < c) : a < c := List.lt_trans h h2
theorem lt_ne {a b : Tx} (h : a < b) : a ≠ b := fun e => by rw [e] at h; exact lt_irr _ h
theorem lt_as {a b : Tx} (h : a < b) : ¬ b < a := fun h2 => lt_irr _ (lt_tr h h2)
theorem lt_tot : ∀ (a b : Tx), a < b ∨ a = b ∨ b < a
  | [], [] => .inr (.inl rfl)
  | [], _ :: _ => .inl (List.nil_lt_cons _ _)
  | _ :: _, [] => .inr (.inr (List.nil_lt_cons _ _))
  | x :: r, y :: s => by
    rcases Nat.lt_trichotomy x y with h | h | h
    · exact .inl (List.cons_lt_cons_iff.mpr (.inl h))
    · subst h
      rcases lt_tot r s with q | q | q
      · exact .inl (List.cons_lt_cons_iff.mpr (.inr ⟨rfl, q⟩))
      · exact .inr (.inl (by rw [q]))
      · exact .inr (.inr (List.cons_lt_cons_iff.mpr (.inr ⟨rfl, q⟩)))
    · exact .inr (.inr (List.cons_lt_cons_iff.mpr (.inl h)))
theorem lt_app : ∀ (s : Tx) {a b : Tx}, s ++ a < s ++ b ↔ a < b
  | [], a, b => Iff.rfl
  | x :: r, a, b => by
    rw [List.cons_append, List.cons_append, List.cons_lt_cons_iff]
    constructor
    · rintro (h | ⟨_, h⟩)
      · exact absurd h (Nat.lt_irrefl _)
      · exact (lt_app r).mp h
    · intro h; exact .inr ⟨rfl, (lt_app r).mpr h⟩
/-- two that differ in their first sign -/
theorem lt_head {c c' m m' : Tx} (hc : c.length ≤ 1) (hc' : c'.length ≤ 1) (h : c < c') (hm : c = [] → m = []) : c ++ m < c' ++ m' := by
  match c, c', hc, hc', h with
  | [], [], _, _, h => exact absurd h (lt_irr _)
  | [], y :: s, _, _, h => rw [hm rfl]; exact List.nil_lt_cons _ _
  | x :: r, [], _, _, h => exact absurd h (List.not_lt_nil _)
  | [x], [y], _, _, h =>
    rcases List.cons_lt_cons_iff.mp h with h | ⟨_, h⟩
    · exact List.cons_lt_cons_iff.mpr (.inl h)
    · exact absurd h (lt_irr _)
/-- rows: names with numbers -/
abbrev Rows := List (Tx × Int)
def Srt (l : Rows) : Prop := l.Pairwise fun p q => p.1 < q.1
theorem srt_ext : ∀ {l m : Rows}, Srt l → Srt m → (∀ p, p ∈ l ↔ p ∈ m) → l = m
  | [], [], _, _, _ => rfl
  | [], q :: m, _, _, h => absurd ((h q).mpr List.mem_cons_self) (by simp)
  | p :: l, [], _, _, h => absurd ((h p).mp List.mem_cons_self) (by simp)
  | p :: l, q :: m, h1, h2, h => by
    obtain ⟨a1, b1⟩ := List.pairwise_cons.mp h1
    obtain ⟨a2, b2⟩ := List.pairwise_cons.mp h2
    have e : p = q := by
      rcases List.mem_cons.mp ((h p).mp List.mem_cons_self) with e | hp
      · exact e
      rcases List.mem_cons.mp ((h q).mpr List.mem_cons_self) with e | hq
      · exact e.symm
      exact absurd (a1 q hq) (lt_as (a2 p hp))
    subst e
    rw [srt_ext b1 b2 fun r => ?_]
    constructor
    · intro hr
      rcases List.mem_cons.mp ((h r).mp (List.mem_cons_of_mem _ hr)) with e | q
      · rw [e] at hr; exact absurd (a1 _ hr) (lt_irr _)
      · exact q
    · intro hr
      rcases List.mem_cons.mp ((h r).mpr (List.mem_cons_of_mem _ hr)) with e | q
      · rw [e] at hr; exact absurd (a2 _ hr) (lt_irr _)
      · exact q
theorem srt_fun {l : Rows} (h : Srt l) {x : Tx} {n m : Int} (h1 : (x, n) ∈ l) (h2 : (x, m) ∈ l) : n = m := by
  induction l with
  | nil => cases h1
  | cons p l ih =>
    obtain ⟨a, b⟩ := List.pairwise_cons.mp h
    rcases List.mem_cons.mp h1 with e1 | q1
    · rcases List.mem_cons.mp h2 with e2 | q2
      · rw [← e2] at e1; injection e1
      · have := a _ q2; rw [← e1] at this; exact absurd this (lt_irr _)
    · rcases List.mem_cons.mp h2 with e2 | q2
      · have := a _ q1; rw [← e2] at this; exact absurd this (lt_irr _)
      · exact ih b q1 q2
theorem srt_filter {l : Rows} (h : Srt l) (f : Tx × Int → Bool) : Srt (l.filter f) := List.Pairwise.filter f h
end Rt

namespace Rt
open PySem L2
mutual
inductive T where
  | leaf (r : Tx) (n : Int)
  | fork (s : Tx) (b : B)
inductive B where
  | nil
  | cons (c : Tx) (t : T) (r : B)
end
abbrev OT := Option T
def B.list : B → List (Tx × T)
  | .nil => []
  | .cons c t r => (c, t) :: r.list
def B.of : List (Tx × T) → B
  | [] => .nil
  | p :: l => .cons p.1 p.2 (B.of l)
theorem B.list_of : ∀ l : List (Tx × T), (B.of l).list = l
  | [] => rfl
  | p :: l => by rw [B.of, B.list, B.list_of l]
theorem B.of_list : ∀ b : B, B.of b.list = b
  | .nil => rfl
  | .cons c t r => by rw [B.list, B.of, B.of_list r]
abbrev tLeaf : Tx := tx "leaf"
abbrev tFork : Tx := tx "fork"
theorem leaf_fork : ¬ tLeaf = tFork := by decide +kernel
theorem fork_leaf : ¬ tFork = tLeaf := by decide +kernel
mutual
def T.d : T → D
  | .leaf r n => .tup [.str tLeaf, .str r, .int n]
  | .fork s b => .tup [.str tFork, .str s, .tup b.d]
def B.d : B → List D
  | .nil => []
  | .cons c t r => .tup [.str c, t.d] :: r.d
end
def OT.d : OT → D
  | none => .non
  | some t => t.d
def brD (p : Tx × T) : D := .tup [.str p.1, p.2.d]
theorem B.d_list : ∀ b : B, b.d = b.list.map brD
  | .nil => rfl
  | .cons c t r => by rw [B.d, B.list, List.map_cons, B.d_list r]; rfl
mutual
theorem T.imm : ∀ t : T, t.d.imm = true
  | .leaf r n => rfl
  | .fork s b => by
    show (true && (true && (D.imms b.d && true))) = true
    rw [B.imm b]; rfl
theorem B.imm : ∀ b : B, D.imms b.d = true
  | .nil => rfl
  | .cons c t r => by
    show ((true && (t.d.imm && true)) && D.imms r.d) = true
    rw [T.imm t, B.imm r]; rfl
end
theorem OT.imm : ∀ t : OT, (OT.d t).imm = true
  | none => rfl
  | some t => T.imm t
theorem brD_imm (p : Tx × T) : (brD p).imm = true := by
  show (true && (p.2.d.imm && true)) = true
  rw [T.imm]; rfl
theorem T.not_non : ∀ t : T, t.d.isNon = false
  | .leaf _ _ => rfl
  | .fork _ _ => rfl
mutual
def T.depth : T → Nat
  | .leaf _ _ => 0
  | .fork _ b => b.depth + 1
def B.depth : B → Nat
  | .nil => 0
  | .cons _ t r => max t.depth r.depth
end
mutual
def T.find : T → Tx → Option Int
  | .leaf r n, x => if r = x then some n else none
  | .fork s b, x => if s <+: x then b.find ((x.drop s.length).take 1) ((x.drop s.length).drop 1) else none
def B.find : B → Tx → Tx → Option Int
  | .nil, _, _ => none
  | .cons c t r, y, m => if c = y then t.find m else r.find y m
end
def OT.find : OT → Tx → Option Int
  | none, _ => none
  | some t, x => t.find x
def B.look : B → Tx → OT
  | .nil, _ => none
  | .cons c t r, y => if c = y then some t else r.look y
theorem B.find_look : ∀ (b : B) (y m : Tx), b.find y m = OT.find (b.look y) m
  | .nil, _, _ => rfl
  | .cons c t r, y, m => by
    unfold B.find B.look
    by_cases h : c = y
    · rw [if_pos h, if_pos h]; rfl
    · rw [if_neg h, if_neg h]; exact B.find_look r y m
def B.signs (b : B) : List Tx := b.list.map (·.1)
mutual
def T.ok : T → Prop
  | .leaf _ _ => True
  | .fork _ b => 2 ≤ b.list.length ∧ b.ok
def B.ok : B → Prop
  | .nil => True
  | .cons c t r => c.length ≤ 1 ∧ t.ok ∧ (c = [] → ∃ n, t = .leaf [] n) ∧ (∀ y ∈ r.signs, c < y) ∧ r.ok
end
def OT.ok : OT → Prop
  | none => True
  | some t => t.ok
mutual
def T.names : T → Rows
  | .leaf r n => [(r, n)]
  | .fork s b => b.names s
def B.names (s : Tx) : B → Rows
  | .nil => []
  | .cons c t r => t.names.map (fun p => (s ++ c ++ p.1, p.2)) ++ r.names s
end
def OT.names : OT → Rows
  | none => []
  | some t => t.names
theorem B.look_mem : ∀ {b : B} {y : Tx} {t : T}, b.look y = some t → (y, t) ∈ b.list
  | .nil, _, _, h => by cases h
  | .cons c t r, y, u, h => by
    unfold B.look at h
    by_cases e : c = y
    · rw [if_pos e] at h; cases h; rw [e]; exact List.mem_cons_self
    · rw [if_neg e] at h; exact List.mem_cons_of_mem _ (B.look_mem h)
theorem B.look_none : ∀ {b : B} {y : Tx}, b.look y = none ↔ y ∉ b.signs
  | .nil, _ => ⟨fun _ h => (by cases h), fun _ => rfl⟩
  | .cons c t r, y => by
    unfold B.look
    by_cases e : c = y
    · rw [if_pos e]
      exact ⟨fun h => (by cases h), fun h => absurd (by rw [← e]; exact List.mem_cons_self) h⟩
    · rw [if_neg e, B.look_none]
      constructor
      · intro h q
        rcases List.mem_cons.mp q with q | q
        · exact e q.symm
        · exact h q
      · intro h q; exact h (List.mem_cons_of_mem _ q)
theorem B.ok_sub : ∀ {b : B} {y : Tx} {t : T}, b.ok → (y, t) ∈ b.list → y.length ≤ 1 ∧ t.ok ∧ (y = [] → ∃ n, t = .leaf [] n) ∧ b.look y = some t
  | .nil, _, _, _, h => by cases h
  | .cons c t r, y, u, ⟨h1, h2, h3, h4, h5⟩, h => by
    rcases List.mem_cons.mp h with e | h
    · cases e
      exact ⟨h1, h2, h3, by unfold B.look; rw [if_pos rfl]⟩
    · obtain ⟨q1, q2, q3, q4⟩ := B.ok_sub h5 h
      refine ⟨q1, q2, q3, ?_⟩
      have hne : c ≠ y := lt_ne (h4 y (List.mem_map.mpr ⟨(y, u), h, rfl⟩))
      unfold B.look
      rw [if_neg hne]; exact q4
/-! each tree keeps a name -/
mutual
theorem T.some_name : ∀ (t : T), t.ok → ∃ x n, t.find x = some n
  | .leaf r n, _ => ⟨r, n, by unfold T.find; rw [if_pos rfl]⟩
  | .fork s b, ⟨h1, h2⟩ => by
    cases b with
    | nil => exact absurd h1 (by decide)
    | cons c t r =>
      obtain ⟨l1, l2, l3, l4, l5⟩ := h2
      obtain ⟨x, n, hx⟩ := T.some_name t l2
      have e : ((s ++ (c ++ x)).drop s.length) = c ++ x := List.drop_left
      refine ⟨s ++ (c ++ x), n, ?_⟩
      unfold T.find
      rw [if_pos (List.prefix_append _ _), e]
      match c, l1, l3 with
      | [], _, l3 =>
        obtain ⟨n', rfl⟩ := l3 rfl
        unfold T.find at hx
        by_cases q : ([] : Tx) = x
        · rw [if_pos q] at hx; cases hx
          subst q
          simp [B.find, T.find]
        · rw [if_neg q] at hx; cases hx
      | [z], _, _ =>
        show B.find (.cons [z] t r) [z] x = some n
        unfold B.find; rw [if_pos rfl]; exact hx
end
theorem T.find_f (s : Tx) (b : B) (x : Tx) : (T.fork s b).find x = if s <+: x then b.find ((x.drop s.length).take 1) ((x.drop s.length).drop 1) else none := by
  rw [T.find]
theorem T.find_l (r : Tx) (n : Int) (x : Tx) : (T.leaf r n).find x = if r = x then some n else none := by
  rw [T.find]
/-- the name of a branch's name in the fork -/
theorem T.find_at {s c x : Tx} {b : B} {t : T} (hb : b.ok) (h : (c, t) ∈ b.list) (hx : c = [] → x = []) : (T.fork s b).find (s ++ (c ++ x)) = t.find x := by
  obtain ⟨l1, l2, l3, l4⟩ := B.ok_sub hb h
  rw [T.find_f, if_pos (List.prefix_append _ _), List.drop_left, B.find_look]
  have e : (c ++ x).take 1 = c ∧ (c ++ x).drop 1 = x := by
    match c, l1, hx with
    | [], _, hx => rw [hx rfl]; exact ⟨rfl, rfl⟩
    | [z], _, _ => exact ⟨rfl, rfl⟩
  rw [e.1, e.2, l4]; rfl
theorem leaf_nil {c x : Tx} {t : T} {n : Int} (h3 : c = [] → ∃ n, t = .leaf [] n) (hx : t.find x = some n) : c = [] → x = [] := fun e => by
  obtain ⟨m, rfl⟩ := h3 e
  unfold T.find at hx
  by_cases q : ([] : Tx) = x
  · exact q.symm
  · rw [if_neg q] at hx; cases hx
theorem T.find_fork {s x : Tx} {b : B} {n : Int} (h : (T.fork s b).find x = some n) : ∃ c t m, (c, t) ∈ b.list ∧ t.find m = some n ∧ x = s ++ (x.drop s.length) ∧ c = (x.drop s.length).take 1 ∧ m = (x.drop s.length).drop 1 := by
  unfold T.find at h
  by_cases hp : s <+: x
  · rw [if_pos hp, B.find_look] at h
    cases hl : b.look ((x.drop s.length).take 1) with
    | none => rw [hl] at h; cases h
    | some t =>
      rw [hl] at h
      refine ⟨_, t, _, B.look_mem hl, h, ?_, rfl, rfl⟩
      obtain ⟨r, rfl⟩ := hp
      rw [List.drop_left]
  · rw [if_neg hp] at h; cases h
theorem take_drop1 (l : Tx) : l.take 1 ++ l.drop 1 = l := List.take_append_drop 1 l
/-! one tree alone keeps these -/
theorem T.two_signs {s : Tx} {b : B} (h : (T.fork s b).ok) (y : Tx) (hy : ∀ x n, (T.fork s b).find x = some n → (x.drop s.length).take 1 = y) : False := by
  obtain ⟨h1, h2⟩ := h
  match b, h1, h2, hy with
  | .cons c t (.cons c' t' r), _, ⟨l1, l2, l3, l4, k1, k2, k3, k4, k5⟩, hy =>
    have hb : B.ok (.cons c t (.cons c' t' r)) := ⟨l1, l2, l3, l4, k1, k2, k3, k4, k5⟩
    obtain ⟨x, n, hx⟩ := T.some_name t l2
    obtain ⟨x', n', hx'⟩ := T.some_name t' k2
    have e1 := hy (s ++ (c ++ x)) n (by rw [T.find_at hb List.mem_cons_self (leaf_nil l3 hx)]; exact hx)
    have e2 := hy (s ++ (c' ++ x')) n' (by rw [T.find_at hb (List.mem_cons_of_mem _ List.mem_cons_self) (leaf_nil k3 hx')]; exact hx')
    rw [List.drop_left] at e1 e2
    have t1 : (c ++ x).take 1 = c := by
      match c, l1, leaf_nil l3 hx with
      | [], _, q => rw [q rfl]; rfl
      | [z], _, _ => rfl
    have t2 : (c' ++ x').take 1 = c' := by
      match c', k1, leaf_nil k3 hx' with
      | [], _, q => rw [q rfl]; rfl
      | [z], _, _ => rfl
    rw [t1] at e1; rw [t2] at e2
    exact lt_ne (l4 c' List.mem_cons_self) (e1.trans e2.symm)
  | .cons c t .nil, h1, _, _ => exact absurd h1 (by simp [B.list])
  | .nil, h1, _, _ => exact absurd h1 (by simp [B.list])
theorem fork_pre {s x : Tx} {b : B} {n : Int} (h : (T.fork s b).find x = some n) : s <+: x := by
  obtain ⟨_, _, _, _, _, e, _⟩ := T.find_fork h
  rw [e]; exact List.prefix_append _ _
theorem shared_le {s s' : Tx} {b b' : B} (h : (T.fork s b).ok) (h' : (T.fork s' b').ok) (e : ∀ x, (T.fork s b).find x = (T.fork s' b').find x) (hp : s <+: s') : s = s' := by
  obtain ⟨y, rfl⟩ := hp
  cases y with
  | nil => rw [List.append_nil]
  | cons z r =>
    exfalso
    refine T.two_signs h [z] fun x n hx => ?_
    have hx' : (T.fork (s ++ z :: r) b').find x = some n := by rw [← e]; exact hx
    obtain ⟨q, rfl⟩ := fork_pre hx'
    rw [List.append_assoc, List.drop_left]; rfl
theorem pre_comp : ∀ {a b x : Tx}, a <+: x → b <+: x → a <+: b ∨ b <+: a := fun h1 h2 => List.prefix_or_prefix_of_prefix h1 h2
mutual
theorem T.ext : ∀ (t u : T), t.ok → u.ok → (∀ x, t.find x = u.find x) → t = u
  | .leaf r n, .leaf r' n', _, _, e => by
    have h := e r
    unfold T.find at h
    rw [if_pos rfl] at h
    by_cases q : r' = r
    · rw [if_pos q] at h; injection h with h; rw [q, h]
    · rw [if_neg q] at h; cases h
  | .leaf r n, .fork s b, _, h', e => by
    exfalso
    refine T.two_signs h' ((r.drop s.length).take 1) fun x n hx => ?_
    have h := e x
    rw [hx] at h
    unfold T.find at h
    by_cases q : r = x
    · rw [q]
    · rw [if_neg q] at h; cases h
  | .fork s b, .leaf r n, h, _, e => by
    exfalso
    refine T.two_signs h ((r.drop s.length).take 1) fun x n hx => ?_
    have h2 := e x
    rw [hx] at h2
    by_cases q : r = x
    · rw [q]
    · have : (T.leaf r n).find x = none := by unfold T.find; rw [if_neg q]
      unfold T.find at h2; rw [if_neg q] at h2; cases h2
  | .fork s b, .fork s' b', h, h', e => by
    obtain ⟨x, n, hx⟩ := T.some_name _ h
    have hx' : (T.fork s' b').find x = some n := by rw [← e]; exact hx
    have es : s = s' := by
      rcases pre_comp (fork_pre hx) (fork_pre hx') with q | q
      · exact shared_le h h' e q
      · exact (shared_le h' h (fun x => (e x).symm) q).symm
    subst es
    have eb : ∀ y m, y.length ≤ 1 → (y = [] → m = []) → b.find y m = b'.find y m := fun y m hy hm => by
      have q := e (s ++ (y ++ m))
      unfold T.find at q
      rw [if_pos (List.prefix_append _ _), if_pos (List.prefix_append _ _), List.drop_left] at q
      have t : (y ++ m).take 1 = y ∧ (y ++ m).drop 1 = m := by
        match y, hy, hm with
        | [], _, hm => rw [hm rfl]; exact ⟨rfl, rfl⟩
        | [z], _, _ => exact ⟨rfl, rfl⟩
      rw [t.1, t.2] at q
      exact q
    rw [B.ext b b' h.2 h'.2 eb]
theorem B.ext : ∀ (b b' : B), b.ok → b'.ok → (∀ y m, y.length ≤ 1 → (y = [] → m = []) → b.find y m = b'.find y m) → b = b'
  | .nil, .nil, _, _, _ => rfl
  | .nil, .cons c t r, _, ⟨l1, l2, l3, l4, l5⟩, e => by
    obtain ⟨x, n, hx⟩ := T.some_name t l2
    have q := e c x l1 (leaf_nil l3 hx)
    unfold B.find at q
    rw [if_pos rfl, hx] at q; cases q
  | .cons c t r, .nil, ⟨l1, l2, l3, l4, l5⟩, _, e => by
    obtain ⟨x, n, hx⟩ := T.some_name t l2
    have q := e c x l1 (leaf_nil l3 hx)
    unfold B.find at q
    rw [if_pos rfl, hx] at q; cases q
  | .cons c t r, .cons c' t' r', ⟨l1, l2, l3, l4, l5⟩, ⟨k1, k2, k3, k4, k5⟩, e => by
    obtain ⟨x, n, hx⟩ := T.some_name t l2
    obtain ⟨x', n', hx'⟩ := T.some_name t' k2
    have q := e c x l1 (leaf_nil l3 hx)
    have q' := e c' x' k1 (leaf_nil k3 hx')
    have e1 : B.find (.cons c t r) c x = some n := by unfold B.find; rw [if_pos rfl]; exact hx
    have e2 : B.find (.cons c' t' r') c' x' = some n' := by unfold B.find; rw [if_pos rfl]; exact hx'
    rw [e1] at q; rw [e2] at q'
    have in1 : c ∈ (B.cons c' t' r').signs := by
      by_cases z : c ∈ (B.cons c' t' r').signs
      · exact z
      · have z2 := B.look_none.mpr z
        rw [B.find_look, z2] at q; cases q
    have in2 : c' ∈ (B.cons c t r).signs := by
      by_cases z : c' ∈ (B.cons c t r).signs
      · exact z
      · have z2 := B.look_none.mpr z
        rw [B.find_look, z2] at q'; cases q'
    have ec : c = c' := by
      rcases List.mem_cons.mp in1 with z | z
      · exact z
      rcases List.mem_cons.mp in2 with z2 | z2
      · exact z2.symm
      exact absurd (l4 c' z2) (lt_as (k4 c z))
    subst ec
    have et : t = t' := T.ext t t' l2 k2 fun m => by
      by_cases hc : c = []
      · obtain ⟨n1, rfl⟩ := l3 hc
        obtain ⟨n2, rfl⟩ := k3 hc
        have q3 := e c [] l1 (fun _ => rfl)
        unfold B.find at q3
        rw [if_pos rfl, if_pos rfl] at q3
        unfold T.find at q3 ⊢
        rw [if_pos rfl, if_pos rfl] at q3
        by_cases hm : ([] : Tx) = m
        · rw [if_pos hm, if_pos hm]; exact q3
        · rw [if_neg hm, if_neg hm]
      · have q3 := e c m l1 (fun z => absurd z hc)
        unfold B.find at q3
        rw [if_pos rfl, if_pos rfl] at q3
        exact q3
    subst et
    have er : r = r' := B.ext r r' l5 k5 fun y m hy hm => by
      by_cases hc : c = y
      · have n1 : y ∉ r.signs := fun z => lt_irr _ (by rw [← hc] at z; exact l4 c z)
        have n2 : y ∉ r'.signs := fun z => lt_irr _ (by rw [← hc] at z; exact k4 c z)
        rw [B.find_look, B.find_look, B.look_none.mpr n1, B.look_none.mpr n2]
      · have q3 := e y m hy hm
        unfold B.find at q3
        rw [if_neg hc, if_neg hc] at q3
        exact q3
    rw [er]
end
theorem OT.ext {a b : OT} (ha : OT.ok a) (hb : OT.ok b) (e : ∀ x, OT.find a x = OT.find b x) : a = b := by
  cases a with
  | none =>
    cases b with
    | none => rfl
    | some u =>
      obtain ⟨x, n, hx⟩ := T.some_name u hb
      have q := e x
      have hx' : OT.find (some u) x = some n := hx
      rw [hx'] at q; cases q
  | some t =>
    cases b with
    | none =>
      obtain ⟨x, n, hx⟩ := T.some_name t ha
      have q := e x
      have hx' : OT.find (some t) x = some n := hx
      rw [hx'] at q; cases q
    | some u => rw [T.ext t u ha hb e]
end Rt

namespace Rt
open PySem L2
theorem B.mem_names {s : Tx} : ∀ {b : B} {p : Tx × Int}, p ∈ b.names s ↔ ∃ c t m, (c, t) ∈ b.list ∧ (m, p.2) ∈ t.names ∧ p.1 = s ++ c ++ m
  | .nil, p => ⟨fun h => (by cases h), fun ⟨_, _, _, h, _⟩ => (by cases h)⟩
  | .cons c t r, p => by
    unfold B.names
    rw [List.mem_append, B.mem_names, List.mem_map]
    constructor
    · rintro (⟨q, hq, rfl⟩ | ⟨c', t', m, h1, h2, h3⟩)
      · exact ⟨c, t, q.1, List.mem_cons_self, hq, rfl⟩
      · exact ⟨c', t', m, List.mem_cons_of_mem _ h1, h2, h3⟩
    · rintro ⟨c', t', m, h1, h2, h3⟩
      rcases List.mem_cons.mp h1 with e | h1
      · cases e
        exact .inl ⟨(m, p.2), h2, by rw [← h3]⟩
      · exact .inr ⟨c', t', m, h1, h2, h3⟩
mutual
theorem T.mem_names : ∀ (t : T), t.ok → ∀ (x : Tx) (n : Int), (x, n) ∈ t.names ↔ t.find x = some n
  | .leaf r m, _, x, n => by
    rw [T.find_l]
    unfold T.names
    rw [List.mem_singleton]
    constructor
    · intro h; injection h with h1 h2; rw [if_pos h1.symm, h2]
    · intro h
      by_cases q : r = x
      · rw [if_pos q] at h; injection h with h; rw [q, h]
      · rw [if_neg q] at h; cases h
  | .fork s b, ⟨h1, h2⟩, x, n => by
    unfold T.names
    rw [B.mem_names]
    constructor
    · rintro ⟨c, t, m, q1, q2, q3⟩
      obtain ⟨l1, l2, l3, l4⟩ := B.ok_sub h2 q1
      have hm := (B.mem_sub b h2 c t q1 m n).mp q2
      have q3' : x = s ++ (c ++ m) := by rw [← List.append_assoc]; exact q3
      rw [q3', T.find_at h2 q1 (leaf_nil l3 hm)]
      exact hm
    · intro h
      obtain ⟨c, t, m, q1, q2, q3, q4, q5⟩ := T.find_fork h
      refine ⟨c, t, m, q1, (B.mem_sub b h2 c t q1 m n).mpr q2, ?_⟩
      show x = s ++ c ++ m
      rw [List.append_assoc, q4, q5, take_drop1]
      exact q3
theorem B.mem_sub : ∀ (b : B), b.ok → ∀ (c : Tx) (t : T), (c, t) ∈ b.list → ∀ (x : Tx) (n : Int), (x, n) ∈ t.names ↔ t.find x = some n
  | .nil, _, _, _, h, _, _ => by cases h
  | .cons c t r, ⟨l1, l2, l3, l4, l5⟩, y, u, h, x, n => by
    rcases List.mem_cons.mp h with e | h
    · cases e; exact T.mem_names t l2 x n
    · exact B.mem_sub r l5 y u h x n
end
theorem T.no_mem {t : T} (h : t.ok) {x : Tx} (q : t.find x = none) (n : Int) : (x, n) ∉ t.names := fun z => by
  rw [T.mem_names t h, q] at z; cases z
mutual
theorem T.srt : ∀ (t : T), t.ok → Srt t.names
  | .leaf r n, _ => List.pairwise_singleton _ _
  | .fork s b, h => B.srt s b h.2
theorem B.srt (s : Tx) : ∀ (b : B), b.ok → Srt (b.names s)
  | .nil, _ => List.Pairwise.nil
  | .cons c t r, ⟨l1, l2, l3, l4, l5⟩ => by
    unfold B.names
    refine List.pairwise_append.mpr ⟨?_, B.srt s r l5, ?_⟩
    · refine List.pairwise_map.mpr ((T.srt t l2).imp fun {p q} h => ?_)
      exact (lt_app _).mpr h
    · intro p hp q hq
      obtain ⟨p', hp', rfl⟩ := List.mem_map.mp hp
      obtain ⟨c', t', m', q1, q2, q3⟩ := B.mem_names.mp hq
      obtain ⟨k1, k2, k3, k4⟩ := B.ok_sub l5 q1
      rw [q3]
      show s ++ c ++ p'.1 < s ++ c' ++ m'
      rw [List.append_assoc, List.append_assoc]
      refine (lt_app s).mpr (lt_head l1 k1 (l4 c' (List.mem_map.mpr ⟨_, q1, rfl⟩)) ?_)
      exact leaf_nil l3 ((T.mem_names t l2 p'.1 p'.2).mp hp')
end
theorem OT.mem_names {t : OT} (h : OT.ok t) (x : Tx) (n : Int) : (x, n) ∈ OT.names t ↔ OT.find t x = some n := by
  cases t with
  | none => exact ⟨fun h => (by cases h), fun h => (by cases h)⟩
  | some t => exact T.mem_names t h x n
theorem OT.srt {t : OT} (h : OT.ok t) : Srt (OT.names t) := by
  cases t with
  | none => exact List.Pairwise.nil
  | some t => exact T.srt t h
/-- the tree of rows -/
def Rep (rows : Rows) (t : OT) : Prop := OT.ok t ∧ OT.names t = rows
theorem find_ext {a b : OT} (h : ∀ x n, OT.find a x = some n ↔ OT.find b x = some n) (x : Tx) : OT.find a x = OT.find b x := by
  cases e : OT.find a x with
  | none =>
    cases e2 : OT.find b x with
    | none => rfl
    | some n => rw [(h x n).mpr e2] at e; cases e
  | some n => rw [(h x n).mp e]
theorem Rep.uniq {rows : Rows} {a b : OT} (ha : Rep rows a) (hb : Rep rows b) : a = b :=
  OT.ext ha.1 hb.1 (find_ext fun x n => by rw [← OT.mem_names ha.1, ← OT.mem_names hb.1, ha.2, hb.2])
theorem Rep.of {rows : Rows} {t : OT} (h : OT.ok t) (hs : Srt rows) (hm : ∀ x n, OT.find t x = some n ↔ (x, n) ∈ rows) : Rep rows t :=
  ⟨h, srt_ext (OT.srt h) hs fun p => by rw [← hm p.1 p.2, ← OT.mem_names h]⟩
theorem Rep.find {rows : Rows} {t : OT} (h : Rep rows t) (x : Tx) (n : Int) : OT.find t x = some n ↔ (x, n) ∈ rows := by
  rw [← OT.mem_names h.1, h.2]
theorem Rep.srt {rows : Rows} {t : OT} (h : Rep rows t) : Srt rows := by rw [← h.2]; exact OT.srt h.1
end Rt

namespace Rt
open PySem L2
/-! ### branches in order -/
theorem B.ok_iff : ∀ (b : B), b.ok ↔ (∀ p ∈ b.list, p.1.length ≤ 1 ∧ p.2.ok ∧ (p.1 = [] → ∃ n, p.2 = .leaf [] n)) ∧ b.list.Pairwise (fun p q => p.1 < q.1)
  | .nil => ⟨fun _ => ⟨fun p h => (by cases h), List.Pairwise.nil⟩, fun _ => trivial⟩
  | .cons c t r => by
    have ih := B.ok_iff r
    constructor
    · rintro ⟨l1, l2, l3, l4, l5⟩
      obtain ⟨q1, q2⟩ := ih.mp l5
      refine ⟨fun p hp => ?_, List.pairwise_cons.mpr ⟨fun q hq => l4 q.1 (List.mem_map.mpr ⟨q, hq, rfl⟩), q2⟩⟩
      rcases List.mem_cons.mp hp with e | hp
      · rw [e]; exact ⟨l1, l2, l3⟩
      · exact q1 p hp
    · rintro ⟨q1, q2⟩
      obtain ⟨a1, a2⟩ := List.pairwise_cons.mp q2
      obtain ⟨l1, l2, l3⟩ := q1 (c, t) List.mem_cons_self
      refine ⟨l1, l2, l3, fun y hy => ?_, ih.mpr ⟨fun p hp => q1 p (List.mem_cons_of_mem _ hp), a2⟩⟩
      obtain ⟨q, hq, rfl⟩ := List.mem_map.mp hy
      exact a1 q hq
def lookL : List (Tx × T) → Tx → OT
  | [], _ => none
  | p :: l, y => if p.1 = y then some p.2 else lookL l y
theorem B.look_list : ∀ (b : B) (y : Tx), b.look y = lookL b.list y
  | .nil, _ => rfl
  | .cons c t r, y => by
    unfold B.look B.list lookL
    rw [B.look_list r y]
theorem lookL_app : ∀ (l m : List (Tx × T)) (y : Tx), lookL (l ++ m) y = (lookL l y).or (lookL m y)
  | [], m, y => by cases h : lookL m y <;> simp [lookL, h]
  | p :: l, m, y => by
    show (if p.1 = y then some p.2 else lookL (l ++ m) y) = (if p.1 = y then some p.2 else lookL l y).or (lookL m y)
    by_cases e : p.1 = y
    · rw [if_pos e, if_pos e]; rfl
    · rw [if_neg e, if_neg e]; exact lookL_app l m y
theorem lookL_none : ∀ {l : List (Tx × T)} {y : Tx}, (∀ p ∈ l, p.1 ≠ y) → lookL l y = none
  | [], _, _ => rfl
  | p :: l, y, h => by
    unfold lookL
    rw [if_neg (h p List.mem_cons_self)]
    exact lookL_none fun q hq => h q (List.mem_cons_of_mem _ hq)
theorem lookL_filter : ∀ {l : List (Tx × T)} {y : Tx} {f : Tx × T → Bool}, (∀ p : Tx × T, p.1 = y → f p = true) → lookL (l.filter f) y = lookL l y
  | [], _, _, _ => rfl
  | p :: l, y, f, h => by
    by_cases e : p.1 = y
    · rw [List.filter_cons_of_pos (h p e)]
      unfold lookL
      rw [if_pos e, if_pos e]
    · by_cases q : f p = true
      · rw [List.filter_cons_of_pos q]
        unfold lookL
        rw [if_neg e, if_neg e]
        exact lookL_filter h
      · rw [List.filter_cons_of_neg q, lookL_filter h]
        show _ = lookL (p :: l) y
        unfold lookL
        rw [if_neg e]
        cases l <;> rfl
def optL (y : Tx) : OT → List (Tx × T)
  | none => []
  | some t => [(y, t)]
/-- branches with another tree behind a sign -/
def withB (b : B) (y : Tx) (t : OT) : B := B.of (b.list.filter (fun p => decide (p.1 < y)) ++ optL y t ++ b.list.filter (fun p => decide (y < p.1)))
theorem withB_list (b : B) (y : Tx) (t : OT) : (withB b y t).list = b.list.filter (fun p => decide (p.1 < y)) ++ optL y t ++ b.list.filter (fun p => decide (y < p.1)) := B.list_of _
theorem withB_look (b : B) (y : Tx) (t : OT) (z : Tx) : (withB b y t).look z = if z = y then t else b.look z := by
  rw [B.look_list, withB_list, lookL_app, lookL_app, B.look_list]
  rcases lt_tot z y with h | h | h
  · rw [if_neg (lt_ne h), lookL_filter (fun p e => decide_eq_true (by rw [e]; exact h))]
    have n1 : lookL (optL y t) z = none := lookL_none fun p hp => by
      cases t with
      | none => cases hp
      | some t => rw [List.mem_singleton.mp hp]; exact fun e => lt_ne h e.symm
    have n2 : lookL (b.list.filter (fun p => decide (y < p.1))) z = none := lookL_none fun p hp => by
      have := of_decide_eq_true (List.mem_filter.mp hp).2
      intro e; rw [e] at this; exact lt_as h this
    rw [n1, n2, Option.or_none, Option.or_none]
  · subst h
    rw [if_pos rfl]
    have n1 : lookL (b.list.filter (fun p => decide (p.1 < z))) z = none := lookL_none fun p hp => lt_ne (of_decide_eq_true (List.mem_filter.mp hp).2)
    have n2 : lookL (b.list.filter (fun p => decide (z < p.1))) z = none := lookL_none fun p hp e => lt_ne (of_decide_eq_true (List.mem_filter.mp hp).2) e.symm
    rw [n1, n2, Option.or_none, Option.none_or]
    cases t with
    | none => rfl
    | some t => show (if z = z then some t else none) = some t; rw [if_pos rfl]
  · rw [if_neg (fun e => lt_ne h e.symm)]
    have n1 : lookL (b.list.filter (fun p => decide (p.1 < y))) z = none := lookL_none fun p hp e => by
      have := of_decide_eq_true (List.mem_filter.mp hp).2
      rw [e] at this; exact lt_as h this
    have n2 : lookL (optL y t) z = none := lookL_none fun p hp => by
      cases t with
      | none => cases hp
      | some t => rw [List.mem_singleton.mp hp]; exact lt_ne h
    rw [n1, n2, Option.none_or, Option.none_or, lookL_filter (fun p e => decide_eq_true (by rw [e]; exact h))]
theorem withB_ok {b : B} {y : Tx} {t : OT} (h : b.ok) (hy : y.length ≤ 1) (ht : ∀ u, t = some u → u.ok ∧ (y = [] → ∃ n, u = .leaf [] n)) : (withB b y t).ok := by
  obtain ⟨h1, h2⟩ := (B.ok_iff b).mp h
  rw [B.ok_iff, withB_list]
  constructor
  · intro p hp
    rcases List.mem_append.mp hp with hp | hp
    · rcases List.mem_append.mp hp with hp | hp
      · exact h1 p (List.mem_filter.mp hp).1
      · cases t with
        | none => cases hp
        | some u => rw [List.mem_singleton.mp hp]; exact ⟨hy, ht u rfl⟩
    · exact h1 p (List.mem_filter.mp hp).1
  · have lo : ∀ p ∈ b.list.filter (fun p => decide (p.1 < y)), p.1 < y := fun p hp => of_decide_eq_true (List.mem_filter.mp hp).2
    have hi : ∀ p ∈ b.list.filter (fun p => decide (y < p.1)), y < p.1 := fun p hp => of_decide_eq_true (List.mem_filter.mp hp).2
    have mid : ∀ p ∈ optL y t, p.1 = y := fun p hp => by
      cases t with
      | none => cases hp
      | some u => rw [List.mem_singleton.mp hp]
    refine List.pairwise_append.mpr ⟨List.pairwise_append.mpr ⟨h2.filter _, ?_, fun p hp q hq => by rw [mid q hq]; exact lo p hp⟩, h2.filter _, fun p hp q hq => ?_⟩
    · cases t with
      | none => exact List.Pairwise.nil
      | some u => exact List.pairwise_singleton _ _
    · rcases List.mem_append.mp hp with hp | hp
      · exact lt_tr (lo p hp) (hi q hq)
      · rw [mid p hp]; exact hi q hq
theorem withB_mem {b : B} {y : Tx} {t : OT} {p : Tx × T} : p ∈ (withB b y t).list ↔ (p ∈ b.list ∧ p.1 ≠ y) ∨ (t = some p.2 ∧ p.1 = y) := by
  rw [withB_list, List.mem_append, List.mem_append, List.mem_filter, List.mem_filter, decide_eq_true_eq, decide_eq_true_eq]
  constructor
  · rintro ((⟨h1, h2⟩ | h) | ⟨h1, h2⟩)
    · exact .inl ⟨h1, lt_ne h2⟩
    · cases t with
      | none => cases h
      | some u => rw [List.mem_singleton.mp h]; exact .inr ⟨rfl, rfl⟩
    · exact .inl ⟨h1, fun e => lt_ne h2 e.symm⟩
  · rintro (⟨h1, h2⟩ | ⟨h1, h2⟩)
    · rcases lt_tot p.1 y with q | q | q
      · exact .inl (.inl ⟨h1, q⟩)
      · exact absurd q h2
      · exact .inr ⟨h1, q⟩
    · refine .inl (.inr ?_)
      rw [h1, ← h2]; exact List.mem_singleton.mpr rfl
/-- two unlike signs: two branches -/
theorem two_len {l : List (Tx × T)} {p q : Tx × T} (h1 : p ∈ l) (h2 : q ∈ l) (hne : p.1 ≠ q.1) : 2 ≤ l.length := by
  match l, h1, h2 with
  | [], h1, _ => cases h1
  | [a], h1, h2 => rw [List.mem_singleton.mp h1, List.mem_singleton.mp h2] at hne; exact absurd rfl hne
  | a :: b :: l, _, _ => simp
theorem len_two {l : List (Tx × T)} (h : 2 ≤ l.length) (hs : l.Pairwise (fun p q => p.1 < q.1)) (y : Tx) : ∃ p ∈ l, p.1 ≠ y := by
  match l, h, hs with
  | p :: q :: l, _, hs =>
    by_cases e : p.1 = y
    · refine ⟨q, by simp, fun e2 => ?_⟩
      exact lt_ne ((List.pairwise_cons.mp hs).1 q List.mem_cons_self) (e.trans e2.symm)
    · exact ⟨p, by simp, e⟩
theorem withB_two {b : B} {y : Tx} {u : T} (h : b.ok) (h2 : 2 ≤ b.list.length) : 2 ≤ (withB b y (some u)).list.length := by
  obtain ⟨p, hp, hne⟩ := len_two h2 ((B.ok_iff b).mp h).2 y
  exact two_len (p := p) (q := (y, u)) (withB_mem.mpr (.inl ⟨hp, hne⟩)) (withB_mem.mpr (.inr ⟨rfl, rfl⟩)) hne

/-! ### a tree's own text -/
def T.text : T → Tx
  | .leaf r _ => r
  | .fork s _ => s
/-- another own text -/
def T.re : T → Tx → T
  | .leaf _ n, x => .leaf x n
  | .fork _ b, x => .fork x b
def T.pre (p : Tx) (t : T) : T := t.re (p ++ t.text)
theorem T.re_ok {t : T} (h : t.ok) (x : Tx) : (t.re x).ok := by
  cases t with
  | leaf r n => trivial
  | fork s b => exact h
theorem T.re_text (t : T) (x : Tx) : (t.re x).text = x := by cases t <;> rfl
theorem T.re_re (t : T) (x y : Tx) : (t.re x).re y = t.re y := by cases t <;> rfl
theorem T.re_self (t : T) : t.re t.text = t := by cases t <;> rfl
theorem T.find_pre (p : Tx) (t : T) (x : Tx) : (t.pre p).find x = if p <+: x then t.find (x.drop p.length) else none := by
  cases t with
  | leaf r n =>
    show (T.leaf (p ++ r) n).find x = _
    rw [T.find_l, T.find_l]
    by_cases hp : p <+: x
    · obtain ⟨q, rfl⟩ := hp
      rw [if_pos (List.prefix_append _ _), List.drop_left]
      by_cases e : r = q
      · rw [if_pos e, if_pos (by rw [e])]
      · rw [if_neg e, if_neg (fun z => e (List.append_cancel_left z))]
    · rw [if_neg hp, if_neg (fun z => hp (by rw [← z]; exact List.prefix_append _ _))]
  | fork s b =>
    show (T.fork (p ++ s) b).find x = _
    rw [T.find_f]
    by_cases hp : p <+: x
    · obtain ⟨q, rfl⟩ := hp
      rw [if_pos (List.prefix_append _ _), List.drop_left, T.find_f, List.length_append, ← List.drop_drop, List.drop_left]
      by_cases e : s <+: q
      · rw [if_pos e, if_pos ((List.prefix_append_right_inj p).mpr e)]
      · rw [if_neg e, if_neg (fun z => e ((List.prefix_append_right_inj p).mp z))]
    · rw [if_neg hp, if_neg (fun z => hp ((List.prefix_append p s).trans z))]
theorem T.pre_ok {t : T} (h : t.ok) (p : Tx) : (t.pre p).ok := T.re_ok h _
/-- the tree without the first signs of its text -/
def T.cutT (k : Nat) (t : T) : T := t.re (t.text.drop k)
theorem T.pre_cutT (k : Nat) (t : T) : (t.cutT k).pre (t.text.take k) = t := by
  unfold T.pre T.cutT
  rw [T.re_text, T.re_re, List.take_append_drop, T.re_self]
theorem T.find_cutT {k : Nat} {t : T} (hk : k ≤ t.text.length) (y : Tx) : (t.cutT k).find y = t.find (t.text.take k ++ y) := by
  have h := T.find_pre (t.text.take k) (t.cutT k) (t.text.take k ++ y)
  rw [T.pre_cutT, if_pos (List.prefix_append _ _), List.drop_left] at h
  exact h.symm
theorem T.cutT_ok {t : T} (h : t.ok) (k : Nat) : (t.cutT k).ok := T.re_ok h _
theorem text_pre {t : T} {x : Tx} {n : Int} (h : t.find x = some n) : t.text <+: x := by
  cases t with
  | leaf r m =>
    rw [T.find_l] at h
    by_cases e : r = x
    · rw [← e]; exact List.prefix_refl _
    · rw [if_neg e] at h; cases h
  | fork s b => exact fork_pre h
/-- the one branch that a tree is behind the first signs of its text -/
def behT (k : Nat) (t : T) : Tx × T := ((t.text.drop k).take 1, t.cutT (k + 1))
/-- the branches behind the first signs -/
def brB (k : Nat) (t : T) : B :=
  match t with
  | .fork s b => if s.length = k then b else B.of [behT k (.fork s b)]
  | .leaf r n => B.of [behT k (.leaf r n)]
theorem beh_ok {k : Nat} {t : T} (h : t.ok) (hk : k < t.text.length ∨ (k = t.text.length ∧ ∃ r n, t = .leaf r n)) : (B.of [behT k t]).ok := by
  refine ⟨by show ((t.text.drop k).take 1).length ≤ 1; rw [List.length_take]; omega, T.cutT_ok h _, fun e => ?_, fun y hy => (by cases hy), trivial⟩
  rcases hk with hk | ⟨hk, r, n, rfl⟩
  · have e' : ((t.text.drop k).take 1).length = 0 := by rw [show (t.text.drop k).take 1 = [] from e]; rfl
    rw [List.length_take, List.length_drop] at e'
    omega
  · refine ⟨n, ?_⟩
    show (T.leaf r n).re (r.drop (k + 1)) = .leaf [] n
    rw [List.drop_eq_nil_of_le (by have : k = r.length := hk; omega)]; rfl
theorem find_single {s c : Tx} {t : T} (hc : c.length ≤ 1) (h3 : c = [] → ∃ n, t = .leaf [] n) (x : Tx) : (t.pre (s ++ c)).find x = (T.fork s (B.of [(c, t)])).find x := by
  rw [T.find_pre, T.find_f]
  by_cases hs : s <+: x
  · obtain ⟨q, rfl⟩ := hs
    rw [if_pos (List.prefix_append _ _), List.drop_left, B.find_look]
    show _ = OT.find (if c = q.take 1 then some t else none) (q.drop 1)
    by_cases e : c = q.take 1
    · rw [if_pos e]
      have hp : s ++ c <+: s ++ q := (List.prefix_append_right_inj s).mpr (by rw [e]; exact List.take_prefix _ _)
      rw [if_pos hp, List.length_append, ← List.drop_drop, List.drop_left]
      match c, q, hc, e, h3 with
      | [], [], _, _, _ => rfl
      | [], z :: q, _, e, _ => cases e
      | [z], _ :: _, _, _, _ => rfl
      | [z], [], _, e, _ => cases e
    · rw [if_neg e]
      by_cases hp : s ++ c <+: s ++ q
      · rw [if_pos hp]
        have hp' := (List.prefix_append_right_inj s).mp hp
        match c, hc, e, h3 with
        | [], _, e, h3 =>
          obtain ⟨n, rfl⟩ := h3 rfl
          rw [T.find_l, List.append_nil, List.drop_left]
          rw [if_neg (fun z => e (by rw [← z]; rfl))]; rfl
        | [z], _, e, _ =>
          obtain ⟨r, rfl⟩ := hp'
          exact absurd rfl e
      · rw [if_neg hp]; rfl
  · rw [if_neg hs, if_neg (fun z => hs ((List.prefix_append s c).trans z))]
theorem find_beh {k : Nat} {t : T} (h : t.ok) (hk : k < t.text.length ∨ (k = t.text.length ∧ ∃ r n, t = .leaf r n)) (x : Tx) : (T.fork (t.text.take k) (B.of [behT k t])).find x = t.find x := by
  obtain ⟨l1, l2, l3, _, _⟩ := beh_ok h hk
  have q := find_single (s := t.text.take k) l1 l3 x
  rw [show B.of [behT k t] = B.of [((behT k t).fst, (behT k t).snd)] from rfl, ← q]
  show (T.pre (t.text.take k ++ (t.text.drop k).take 1) (t.cutT (k + 1))).find x = _
  have e : t.text.take k ++ (t.text.drop k).take 1 = t.text.take (k + 1) := by
    rw [List.take_add]
  rw [e, T.pre_cutT]
theorem brB_ok {k : Nat} {t : T} (h : t.ok) (hk : k ≤ t.text.length) : (brB k t).ok := by
  cases t with
  | leaf r n =>
    refine beh_ok h ?_
    have hk' : k ≤ r.length := hk
    by_cases e : k < r.length
    · exact .inl e
    · exact .inr ⟨by show k = r.length; omega, r, n, rfl⟩
  | fork s b =>
    unfold brB
    have hk' : k ≤ s.length := hk
    by_cases e : s.length = k
    · simp only [e, if_true]; exact h.2
    · simp only [e, if_false]; exact beh_ok h (.inl (by show k < s.length; omega))
theorem find_brB {k : Nat} {t : T} (h : t.ok) (hk : k ≤ t.text.length) (x : Tx) : (T.fork (t.text.take k) (brB k t)).find x = t.find x := by
  cases t with
  | leaf r n =>
    refine find_beh h ?_ x
    have hk' : k ≤ r.length := hk
    by_cases e : k < r.length
    · exact .inl e
    · exact .inr ⟨by show k = r.length; omega, r, n, rfl⟩
  | fork s b =>
    unfold brB
    have hk' : k ≤ s.length := hk
    by_cases e : s.length = k
    · simp only [e, if_true]
      show (T.fork (s.take k) b).find x = _
      rw [List.take_of_length_le (by omega)]
    · simp only [e, if_false]
      exact find_beh h (.inl (by show k < s.length; omega)) x
/-- the knot of a text and one branch or more -/
def knotB (s : Tx) (b : B) : T :=
  match b with
  | .cons c t .nil => t.pre (s ++ c)
  | b => .fork s b
theorem knotB_one (s c : Tx) (t : T) : knotB s (.cons c t .nil) = t.pre (s ++ c) := rfl
theorem knotB_two {s : Tx} {b : B} (h : 2 ≤ b.list.length) : knotB s b = .fork s b := by
  match b, h with
  | .nil, h => exact absurd h (by simp [B.list])
  | .cons _ _ .nil, h => exact absurd h (by simp [B.list])
  | .cons _ _ (.cons _ _ _), _ => rfl
theorem knotB_ok {s : Tx} {b : B} (h : b.ok) (h1 : 1 ≤ b.list.length) : (knotB s b).ok := by
  match b, h, h1 with
  | .nil, _, h1 => exact absurd h1 (by simp [B.list])
  | .cons c t .nil, h, _ => exact T.pre_ok h.2.1 _
  | .cons c t (.cons c' t' r), h, _ => exact ⟨by simp [B.list], h⟩
theorem find_knotB {s : Tx} {b : B} (h : b.ok) (h1 : 1 ≤ b.list.length) (x : Tx) : (knotB s b).find x = (T.fork s b).find x := by
  match b, h, h1 with
  | .nil, _, h1 => exact absurd h1 (by simp [B.list])
  | .cons c t .nil, h, _ => exact find_single h.1 h.2.2.1 x
  | .cons c t (.cons c' t' r), h, _ => rfl
theorem T.find_fl (s : Tx) (b : B) (x : Tx) : (T.fork s b).find x = if s <+: x then OT.find (b.look ((x.drop s.length).take 1)) ((x.drop s.length).drop 1) else none := by
  rw [T.find_f, B.find_look]
end Rt

namespace Rt
open PySem L2
mutual
def T.h : T → Nat
  | .leaf r _ => r.length
  | .fork s b => s.length + b.h
def B.h : B → Nat
  | .nil => 0
  | .cons c t r => max (c.length + t.h) r.h
end
def OT.h : OT → Nat
  | none => 0
  | some t => t.h
theorem B.h_mem : ∀ {b : B} {c : Tx} {t : T}, (c, t) ∈ b.list → c.length + t.h ≤ b.h
  | .nil, _, _, h => by cases h
  | .cons c t r, y, u, h => by
    show y.length + u.h ≤ max (c.length + t.h) r.h
    rcases List.mem_cons.mp h with e | h
    · cases e; omega
    · have := B.h_mem h; omega
theorem T.h_sub {s c : Tx} {b : B} {t : T} (h : (T.fork s b).ok) (hc : (c, t) ∈ b.list) : t.h < (T.fork s b).h := by
  have h1 := B.h_mem hc
  obtain ⟨l1, l2, l3, l4⟩ := B.ok_sub h.2 hc
  show t.h < s.length + b.h
  by_cases e : c = []
  · obtain ⟨n, rfl⟩ := l3 e
    obtain ⟨p, hp, hne⟩ := len_two h.1 ((B.ok_iff b).mp h.2).2 c
    have h2 := B.h_mem (c := p.1) (t := p.2) hp
    have : p.1.length ≠ 0 := fun z => hne (by rw [e]; exact List.length_eq_zero_iff.mp z)
    show 0 < _
    omega
  · have : c.length ≠ 0 := fun z => e (List.length_eq_zero_iff.mp z)
    omega
theorem T.text_h (t : T) : t.text.length ≤ t.h := by
  cases t with
  | leaf r n => exact Nat.le_refl _
  | fork s b => exact Nat.le_add_right _ _
theorem B.look_h {s y : Tx} {b : B} {t : T} (h : (T.fork s b).ok) (e : b.look y = some t) : t.h < (T.fork s b).h ∧ t.ok := by
  have m := B.look_mem e
  exact ⟨T.h_sub h m, (B.ok_sub h.2 m).2.1⟩
mutual
theorem T.h_le : ∀ (t : T), t.ok → ∀ (L : Nat), (∀ x n, t.find x = some n → x.length ≤ L) → t.h ≤ L
  | .leaf r n, _, L, h => h r n (by rw [T.find_l, if_pos rfl])
  | .fork s b, hk, L, h => by
    obtain ⟨x, n, hx⟩ := T.some_name _ hk
    have hs : s.length ≤ L := Nat.le_trans (fork_pre hx).length_le (h x n hx)
    show s.length + b.h ≤ L
    have := B.h_le s b hk.2 (L - s.length) fun c t hc x n hx => by
      obtain ⟨l1, l2, l3, l4⟩ := B.ok_sub hk.2 hc
      have := h (s ++ (c ++ x)) n (by rw [T.find_at hk.2 hc (leaf_nil l3 hx)]; exact hx)
      rw [List.length_append, List.length_append] at this
      omega
    omega
theorem B.h_le (s : Tx) : ∀ (b : B), b.ok → ∀ (L : Nat), (∀ c t, (c, t) ∈ b.list → ∀ x n, t.find x = some n → c.length + x.length ≤ L) → b.h ≤ L
  | .nil, _, L, _ => Nat.zero_le _
  | .cons c t r, ⟨l1, l2, l3, l4, l5⟩, L, h => by
    show max (c.length + t.h) r.h ≤ L
    have h1 := B.h_le s r l5 L fun c' t' hc => h c' t' (List.mem_cons_of_mem _ hc)
    obtain ⟨x, n, hx⟩ := T.some_name t l2
    have h2 := h c t List.mem_cons_self x n hx
    have h3 := T.h_le t l2 (L - c.length) fun x n hx => by
      have := h c t List.mem_cons_self x n hx
      omega
    omega
end
theorem OT.h_le {t : OT} (h : OT.ok t) {L : Nat} (hl : ∀ x n, OT.find t x = some n → x.length ≤ L) : OT.h t ≤ L := by
  cases t with
  | none => exact Nat.zero_le _
  | some t => exact T.h_le t h L hl
mutual
theorem T.len_h : ∀ (t : T) (x : Tx) (n : Int), (x, n) ∈ t.names → x.length ≤ t.h
  | .leaf r m, x, n, h => by
    have e : (x, n) = (r, m) := List.mem_singleton.mp h
    injection e with e1 _
    rw [e1]; exact Nat.le_refl _
  | .fork s b, x, n, h => by
    have := B.len_h s b x n h
    show x.length ≤ s.length + b.h
    exact this
theorem B.len_h (s : Tx) : ∀ (b : B) (x : Tx) (n : Int), (x, n) ∈ b.names s → x.length ≤ s.length + b.h
  | .nil, _, _, h => by cases h
  | .cons c t r, x, n, h => by
    show x.length ≤ s.length + max (c.length + t.h) r.h
    unfold B.names at h
    rcases List.mem_append.mp h with h | h
    · obtain ⟨p, hp, e⟩ := List.mem_map.mp h
      have q := T.len_h t p.1 p.2 hp
      injection e with e1 _
      rw [← e1, List.length_append, List.length_append]; omega
    · have := B.len_h s r x n h
      omega
end
theorem B.cnt_mem {s : Tx} : ∀ {b : B} {c : Tx} {t : T}, (c, t) ∈ b.list → t.names.length ≤ (b.names s).length
  | .nil, _, _, h => by cases h
  | .cons c t r, y, u, h => by
    unfold B.names
    rw [List.length_append, List.length_map]
    rcases List.mem_cons.mp h with e | h
    · cases e; omega
    · have := B.cnt_mem (s := s) h; omega
theorem B.cnt_len {s : Tx} : ∀ {b : B}, b.ok → b.list.length ≤ (b.names s).length
  | .nil, _ => Nat.le_refl _
  | .cons c t r, ⟨l1, l2, l3, l4, l5⟩ => by
    unfold B.names
    rw [List.length_append, List.length_map]
    have h1 := B.cnt_len (s := s) l5
    obtain ⟨x, n, hx⟩ := T.some_name t l2
    have h2 : 0 < t.names.length := List.length_pos_of_mem ((T.mem_names t l2 x n).mpr hx)
    show r.list.length + 1 ≤ _
    omega
/-- a tree (or none) that a def of level N takes -/
def OT.hs : OT → Nat
  | none => 0
  | some t => t.h + 1
structure Tb (N : Nat) (t : OT) : Prop where
  ok : OT.ok t
  h : OT.hs t < N
  cnt : (OT.names t).length ≤ 1000
theorem Tb.sub {N : Nat} {s : Tx} {b : B} (h : Tb (N + 1) (some (.fork s b))) (y : Tx) : Tb N (b.look y) := by
  cases e : b.look y with
  | none => exact ⟨trivial, by have h1 : (T.fork s b).h + 1 < N + 1 := h.h; show 0 < N; omega, Nat.zero_le _⟩
  | some t =>
    obtain ⟨h1, h2⟩ := B.look_h (s := s) h.ok e
    refine ⟨h2, ?_, Nat.le_trans (B.cnt_mem (s := s) (B.look_mem e)) h.cnt⟩
    have h3 : (T.fork s b).h + 1 < N + 1 := h.h
    show t.h + 1 < N
    omega
theorem Tb.len {N : Nat} {s : Tx} {b : B} (h : Tb N (some (.fork s b))) : b.list.length ≤ 1000 := Nat.le_trans (B.cnt_len (s := s) h.ok.2) h.cnt
theorem Tb.text {N : Nat} {t : T} (h : Tb N (some t)) : t.text.length < N := by
  have h1 := T.text_h t
  have h2 : t.h + 1 < N := h.h
  omega
theorem Tb.mono {N M : Nat} {t : OT} (h : Tb N t) (l : N ≤ M) : Tb M t := ⟨h.ok, Nat.lt_of_lt_of_le h.h l, h.cnt⟩
theorem Tb.of {N : Nat} {t : OT} (h : OT.ok t) (hl : ∀ x n, OT.find t x = some n → x.length ≤ N) (hc : (OT.names t).length ≤ 1000) : Tb (N + 2) t := by
  refine ⟨h, ?_, hc⟩
  cases t with
  | none => exact Nat.zero_lt_succ _
  | some t =>
    have := OT.h_le h hl
    show t.h + 1 < N + 2
    have e : t.h ≤ N := this
    omega
end Rt

namespace Rt
open PySem L2
/-- the longest common beginning -/
def comL : Tx → Tx → Tx
  | a :: r, b :: s => if a = b then a :: comL r s else []
  | _, _ => []
theorem comL_pre1 : ∀ (a b : Tx), comL a b <+: a
  | [], _ => by unfold comL; exact List.nil_prefix
  | _ :: _, [] => by unfold comL; exact List.nil_prefix
  | x :: r, y :: s => by
    unfold comL
    split
    · exact List.cons_prefix_cons.mpr ⟨rfl, comL_pre1 r s⟩
    · exact List.nil_prefix
theorem comL_len1 (a b : Tx) : (comL a b).length ≤ a.length := (comL_pre1 a b).length_le
theorem comL_take (a b : Tx) : a.take (comL a b).length = comL a b := (List.prefix_iff_eq_take.mp (comL_pre1 a b)).symm
/-- a turn of the walk -/
theorem com_step : ∀ (k : Nat) (a b : Tx), a.take k = b.take k → k ≤ a.length → k ≤ b.length → (k < a.length → k < b.length → a[k]? = b[k]? → k + 1 ≤ (comL a b).length) ∧ k ≤ (comL a b).length ∧ (¬ (k < a.length ∧ k < b.length ∧ a[k]? = b[k]?) → (comL a b).length = k)
  | 0, [], b, _, _, _ => ⟨fun h => absurd h (by simp), Nat.zero_le _, fun _ => by simp [comL]⟩
  | 0, x :: r, [], _, _, _ => ⟨fun _ h => absurd h (by simp), Nat.zero_le _, fun _ => by simp [comL]⟩
  | 0, x :: r, y :: s, _, _, _ => by
    refine ⟨fun _ _ h => ?_, Nat.zero_le _, fun h => ?_⟩
    · simp at h; unfold comL; rw [if_pos h]; simp
    · unfold comL
      rw [if_neg (fun q => h ⟨by simp, by simp, by simp [q]⟩)]; rfl
  | k + 1, [], b, _, h, _ => absurd h (by simp)
  | k + 1, x :: r, [], _, _, h => absurd h (by simp)
  | k + 1, x :: r, y :: s, h, h1, h2 => by
    rw [List.take_succ_cons, List.take_succ_cons] at h
    injection h with e1 e2
    have ih := com_step k r s e2 (by simpa using h1) (by simpa using h2)
    have ec : (comL (x :: r) (y :: s)).length = (comL r s).length + 1 := by
      rw [comL, if_pos e1]; rfl
    rw [ec]
    refine ⟨fun q1 q2 q3 => ?_, by omega, fun q => ?_⟩
    · have := ih.1 (by simpa using q1) (by simpa using q2) (by simpa using q3)
      omega
    · have := ih.2.2 (fun z => q (by simpa using z))
      omega
theorem atI_some {l : Tx} {k : Nat} (h : k < l.length) : atI l (k : Int) = some (l.getD k 0) := by
  rw [atI_nat (List.getElem?_eq_getElem h)]
  rw [List.getD_eq_getElem?_getD, List.getElem?_eq_getElem h]; rfl
theorem getD_eq {a b : Tx} {k : Nat} (h1 : k < a.length) (h2 : k < b.length) : ([a.getD k 0] = [b.getD k 0]) ↔ a[k]? = b[k]? := by
  rw [List.getD_eq_getElem?_getD, List.getD_eq_getElem?_getD, List.getElem?_eq_getElem h1, List.getElem?_eq_getElem h2]
  simp
theorem take_succ_eq {a b : Tx} {k : Nat} (h : a.take k = b.take k) (e : a[k]? = b[k]?) : a.take (k + 1) = b.take (k + 1) := by
  rw [List.take_add_one, List.take_add_one, h, e]
end Rt

namespace Rt
open PySem L2
/-- the signs of names -/
def alpha : Tx := (List.range 95).map (fun k => 32 + k) |>.filter (fun c => c != 37)
theorem alpha_is : tx " !\"#$&'()*+,-./0123456789:;<=>?@ABCDEFGHIJKLMNOPQRSTUVWXYZ[\\]^_`" ++ tx "abcdefghijklmnopqrstuvwxyz{|}~" = alpha := by decide +kernel
theorem alpha_len : alpha.length = 94 := by decide +kernel
def okS (c : Nat) : Prop := 32 ≤ c ∧ c ≤ 126 ∧ c ≠ 37
def okT (l : Tx) : Prop := ∀ c ∈ l, okS c
theorem alpha_ok : okT alpha := by
  intro c hc
  have h := List.mem_filter.mp hc
  obtain ⟨k, hk, rfl⟩ := List.mem_map.mp h.1
  have := List.mem_range.mp hk
  have h2 := h.2
  simp at h2
  exact ⟨by omega, by omega, h2⟩
def signN (i : Int) : Nat := alpha.getD (i % 94).toNat 32
theorem sign_lt (i : Int) : (i % 94).toNat < alpha.length := by rw [alpha_len]; omega
theorem sign_at (i : Int) : atI alpha (i % 94) = some (signN i) := by
  have h := atI_nat (List.getElem?_eq_getElem (sign_lt i))
  rw [show (((i % 94).toNat : Nat) : Int) = i % 94 by omega] at h
  rw [h]
  unfold signN
  rw [List.getD_eq_getElem?_getD, List.getElem?_eq_getElem (sign_lt i)]; rfl
theorem signN_ok (i : Int) : okS (signN i) := by
  unfold signN
  rw [List.getD_eq_getElem?_getD, List.getElem?_eq_getElem (sign_lt i)]
  exact alpha_ok _ (List.getElem_mem _)
def numN (c : Int) : Nat → Int
  | 0 => c
  | k + 1 => (numN c k * 48271 + 11) % 2147483647
def wordL (c : Int) : Nat → Tx
  | 0 => []
  | k + 1 => wordL c k ++ [signN (65 + numN c (k + 1) / 7 % (if c % 2 = 0 then 2 else 94))]
theorem wordL_len (c : Int) : ∀ n, (wordL c n).length = n
  | 0 => rfl
  | n + 1 => by rw [wordL, List.length_append, wordL_len c n]; rfl
theorem okT_nil : okT [] := fun c h => by cases h
theorem okT_app {a b : Tx} (ha : okT a) (hb : okT b) : okT (a ++ b) := fun c h => (List.mem_append.mp h).elim (ha c) (hb c)
theorem okT_take {a : Tx} (n : Nat) (ha : okT a) : okT (a.take n) := fun c h => ha c (List.mem_of_mem_take h)
theorem okT_drop {a : Tx} (n : Nat) (ha : okT a) : okT (a.drop n) := fun c h => ha c (List.mem_of_mem_drop h)
theorem wordL_ok (c : Int) : ∀ n, okT (wordL c n)
  | 0 => okT_nil
  | n + 1 => okT_app (wordL_ok c n) (fun x hx => by rw [List.mem_singleton.mp hx]; exact signN_ok _)
theorem pick2 {i : Int} {a b : D} : atI [a, b] (i % 2) = some (if i % 2 = 0 then a else b) := by
  have h : i % 2 = 0 ∨ i % 2 = 1 := by omega
  rcases h with h | h
  · rw [h]; rfl
  · rw [h]; rfl
end Rt

namespace Rt
open PySem L2
/-- data that the laws' helper tells alike, of depth below n -/
def D.al : Nat → D → Prop
  | _ + 1, .non => True
  | _ + 1, .int _ => True
  | _ + 1, .str l => cpsOk l
  | n + 1, .tup ds => ds.length ≤ 10000 ∧ ∀ d ∈ ds, D.al n d
  | n + 1, .lst ds => ds.length ≤ 10000 ∧ ∀ d ∈ ds, D.al n d
  | _, _ => False
theorem D.al_up : ∀ (n : Nat) (d : D), D.al n d → D.al (n + 1) d
  | 0, _, h => h.elim
  | n + 1, .non, _ => trivial
  | n + 1, .int _, _ => trivial
  | n + 1, .str _, h => h
  | n + 1, .tup ds, h => ⟨h.1, fun d m => D.al_up n d (h.2 d m)⟩
  | n + 1, .lst ds, h => ⟨h.1, fun d m => D.al_up n d (h.2 d m)⟩
  | n + 1, .bl _, h => h.elim
  | n + 1, .raw _, h => h.elim
  | n + 1, .scr _, h => h.elim
theorem D.al_mono {n m : Nat} {d : D} (h : D.al n d) (l : n ≤ m) : D.al m d := by
  obtain ⟨k, rfl⟩ : ∃ k, m = n + k := ⟨m - n, by omega⟩
  clear l
  induction k with
  | zero => exact h
  | succ k ih => exact D.al_up _ _ ih
theorem okT_cps {l : Tx} (h : okT l) : cpsOk l := fun c hc => by have := (h c hc).2.1; omega
theorem tLeaf_cps : cpsOk tLeaf := by unfold cpsOk; decide +kernel
theorem tFork_cps : cpsOk tFork := by unfold cpsOk; decide +kernel
theorem okT_of_app {a b : Tx} (h : okT (a ++ b)) : okT a ∧ okT b := ⟨fun c hc => h c (List.mem_append_left _ hc), fun c hc => h c (List.mem_append_right _ hc)⟩
/-- the parts of a knot whose names are of the signs -/
theorem fork_okT {s : Tx} {b : B} (h : (T.fork s b).ok) (hk : ∀ p ∈ b.names s, okT p.1) : okT s ∧ ∀ q ∈ b.list, okT q.1 ∧ ∀ p ∈ q.2.names, okT p.1 := by
  have all : ∀ q ∈ b.list, okT s ∧ okT q.1 ∧ ∀ p ∈ q.2.names, okT p.1 := fun q hq => by
    have k : ∀ p ∈ q.2.names, okT (s ++ q.1 ++ p.1) := fun p hp => hk (s ++ q.1 ++ p.1, p.2) (B.mem_names.mpr ⟨q.1, q.2, p.1, hq, hp, rfl⟩)
    obtain ⟨x, n, hx⟩ := T.some_name q.2 (B.ok_sub (y := q.1) (t := q.2) h.2 hq).2.1
    have m := k (x, n) ((T.mem_names q.2 (B.ok_sub (y := q.1) (t := q.2) h.2 hq).2.1 x n).mpr hx)
    exact ⟨(okT_of_app (okT_of_app m).1).1, (okT_of_app (okT_of_app m).1).2, fun p hp => (okT_of_app (k p hp)).2⟩
  refine ⟨?_, fun q hq => (all q hq).2⟩
  have l2 : 2 ≤ b.list.length := h.1
  cases e : b.list with
  | nil => rw [e] at l2; exact absurd l2 (by simp)
  | cons q r => exact (all q (by rw [e]; exact List.mem_cons_self)).1
theorem T.al : ∀ (n : Nat) (t : T), t.h ≤ n → t.ok → (∀ p ∈ t.names, okT p.1) → t.names.length ≤ 10000 → D.al (3 * n + 2) t.d
  | n, .leaf r m, _, _, hk, _ => by
    refine ⟨by show 3 ≤ 10000; decide, fun d hd => ?_⟩
    show D.al (3 * n + 1) d
    rcases List.mem_cons.mp hd with rfl | hd
    · exact tLeaf_cps
    · rcases List.mem_cons.mp hd with rfl | hd
      · exact okT_cps (hk (r, m) List.mem_cons_self)
      · rcases List.mem_cons.mp hd with rfl | hd
        · trivial
        · cases hd
  | 0, .fork s b, hn, ok, _, _ => by
    have l2 : 2 ≤ b.list.length := ok.1
    cases e : b.list with
    | nil => rw [e] at l2; exact absurd l2 (by simp)
    | cons q r =>
      have := T.h_sub ok (c := q.1) (t := q.2) (by rw [e]; exact List.mem_cons_self)
      omega
  | n + 1, .fork s b, hn, ok, hk, hc => by
    obtain ⟨k1, k2⟩ := fork_okT ok hk
    have hc' : (b.names s).length ≤ 10000 := hc
    have l1 := B.cnt_len (s := s) ok.2
    have e : 3 * (n + 1) + 2 = 3 * n + 2 + 1 + 1 + 1 := by omega
    rw [e]
    refine ⟨by show 3 ≤ 10000; decide, fun d hd => ?_⟩
    rcases List.mem_cons.mp hd with rfl | hd
    · exact tFork_cps
    · rcases List.mem_cons.mp hd with rfl | hd
      · exact okT_cps k1
      · rcases List.mem_cons.mp hd with rfl | hd
        · rw [B.d_list]
          refine ⟨by rw [List.length_map]; omega, fun d hd => ?_⟩
          obtain ⟨q, hq, rfl⟩ := List.mem_map.mp hd
          obtain ⟨o1, o2⟩ := k2 q hq
          have hs := T.h_sub ok (c := q.1) (t := q.2) hq
          have hcc := B.cnt_mem (s := s) (c := q.1) (t := q.2) hq
          refine ⟨by show 2 ≤ 10000; decide, fun d hd => ?_⟩
          rcases List.mem_cons.mp hd with rfl | hd
          · exact okT_cps o1
          · rcases List.mem_cons.mp hd with rfl | hd
            · exact T.al n q.2 (by omega) (B.ok_sub (y := q.1) (t := q.2) ok.2 hq).2.1 o2 (by omega)
            · cases hd
        · cases hd
theorem OT.al {N : Nat} {t : OT} (tb : Tb N t) (hk : ∀ p ∈ OT.names t, okT p.1) : D.al (3 * N + 2) (OT.d t) := by
  cases t with
  | none => trivial
  | some t =>
    have h : t.h + 1 < N := tb.h
    exact T.al N t (by omega) tb.ok hk (Nat.le_trans tb.cnt (by decide))
theorem rows_al {rows : Rows} (h : ∀ p ∈ rows, okT p.1) (hc : rows.length ≤ 10000) : D.al 3 (.lst (rows.map rowD)) := by
  refine ⟨by rw [List.length_map]; exact hc, fun d m => ?_⟩
  obtain ⟨p, hp, rfl⟩ := List.mem_map.mp m
  refine ⟨by show 2 ≤ 10000; decide, fun e he => ?_⟩
  rcases List.mem_cons.mp he with rfl | he
  · exact okT_cps (h p hp)
  · rcases List.mem_cons.mp he with rfl | he
    · trivial
    · cases he
def Ralike (N : Nat) : List D → D → Prop := fun ds r => ∃ d, ds = [d, d] ∧ D.al N d ∧ r = .bl true
theorem Ralike.of {N M : Nat} {d : D} (h : D.al N d) (l : N ≤ M) : Ralike M [d, d] (.bl true) := ⟨d, rfl, D.al_mono h l, rfl⟩
end Rt

namespace Rt
open PySem L2
def digN (c : Int) : Nat → Int
  | 0 => 0
  | k + 1 => digN c k * 10 + numN c (k + 1) / 7 % 10
def sizeN (c : Int) : Int := if c % 5 = 0 then 60 else 1 + c / 10 % 60
def numberL (c : Int) : Int := if 1 < c % 5 then c / 5 % 39 - 19 else (if c / 5 % 2 = 0 then 1 else -1) * digN c (sizeN c).toNat
theorem sizeN_b (c : Int) : 0 ≤ sizeN c ∧ sizeN c ≤ 60 := by
  unfold sizeN; split <;> omega
theorem digN_b (c : Int) : ∀ k, 0 ≤ digN c k ∧ digN c k < 10 ^ k
  | 0 => ⟨Int.le_refl _, by show (0 : Int) < 10 ^ 0; decide⟩
  | k + 1 => by
    have h := digN_b c k
    have e : (10 : Int) ^ (k + 1) = 10 ^ k * 10 := Int.pow_succ _ _
    rw [e, digN]
    omega
def big : Int := 10 ^ 60
theorem pow10_le (k : Nat) : ∀ d : Nat, (10 : Int) ^ k ≤ 10 ^ (k + d) ∧ (0 : Int) < 10 ^ (k + d)
  | 0 => ⟨Int.le_refl _, Int.pow_pos (by decide)⟩
  | d + 1 => by
    have h := pow10_le k d
    have e : (10 : Int) ^ (k + (d + 1)) = 10 ^ (k + d) * 10 := Int.pow_succ _ _
    rw [e]; omega
theorem numberL_b (c : Int) : - big < numberL c ∧ numberL c < big := by
  unfold numberL
  have hb : (19 : Int) < big := by decide +kernel
  split
  · omega
  · have h := digN_b c (sizeN c).toNat
    have h2 := sizeN_b c
    have h3 : (10 : Int) ^ (sizeN c).toNat ≤ big := by
      have := (pow10_le (sizeN c).toNat (60 - (sizeN c).toNat)).1
      rw [show (sizeN c).toNat + (60 - (sizeN c).toNat) = 60 by omega] at this
      exact this
    split <;> omega
def countL (c : Int) : Int := if c / 9 % 6 = 1 then c / 54 % 151 else c % 9
theorem countL_b (c : Int) : 0 ≤ countL c ∧ countL c ≤ 150 := by
  unfold countL; split <;> omega
/-! the plain sort by name -/
def insR (p : Tx × Int) : Rows → Rows
  | [] => [p]
  | q :: r => if p.1 < q.1 then p :: q :: r else q :: insR p r
def srtR : Rows → Rows
  | [] => []
  | p :: r => insR p (srtR r)
theorem insR_perm (p : Tx × Int) : ∀ l, (insR p l).Perm (p :: l)
  | [] => .refl _
  | q :: r => by
    unfold insR
    split
    · exact .refl _
    · exact ((insR_perm p r).cons q).trans (.swap p q r)
theorem srtR_perm : ∀ l, (srtR l).Perm l
  | [] => .refl _
  | p :: r => (insR_perm p _).trans ((srtR_perm r).cons p)
theorem insR_srt {p : Tx × Int} : ∀ {l : Rows}, Srt l → (∀ q ∈ l, p.1 ≠ q.1) → Srt (insR p l)
  | [], _, _ => List.pairwise_singleton _ _
  | q :: r, h, hn => by
    have h' := List.pairwise_cons.mp h
    unfold insR
    by_cases c : p.1 < q.1
    · rw [if_pos c]
      refine List.pairwise_cons.mpr ⟨fun z hz => ?_, h⟩
      rcases List.mem_cons.mp hz with rfl | hz
      · exact c
      · exact lt_tr c (h'.1 z hz)
    · rw [if_neg c]
      refine List.pairwise_cons.mpr ⟨fun z hz => ?_, insR_srt h'.2 fun z hz => hn z (List.mem_cons_of_mem _ hz)⟩
      rcases List.mem_cons.mp ((insR_perm p r).mem_iff.mp hz) with rfl | hz
      · rcases lt_tot z.1 q.1 with q1 | q1 | q1
        · exact absurd q1 c
        · exact absurd q1 (hn q List.mem_cons_self)
        · exact q1
      · exact h'.1 z hz
def Dis (l : Rows) : Prop := l.Pairwise fun p q => p.1 ≠ q.1
theorem srtR_srt : ∀ {l : Rows}, Dis l → Srt (srtR l)
  | [], _ => .nil
  | p :: r, h => by
    have h' := List.pairwise_cons.mp h
    exact insR_srt (srtR_srt h'.2) fun q hq => h'.1 q ((srtR_perm r).mem_iff.mp hq)
theorem Srt.dis {l : Rows} (h : Srt l) : Dis l := h.imp fun h => lt_ne h
theorem dis_filter {l : Rows} (h : Dis l) (f : Tx × Int → Bool) : Dis (l.filter f) := List.Pairwise.filter f h
/-- a list of rows by other ways that has the same rows in order is the sorted one -/
theorem srtR_is {l m : Rows} (h : Dis l) (hm : Srt m) (e : ∀ p, p ∈ l ↔ p ∈ m) : srtR l = m :=
  srt_ext (srtR_srt h) hm fun p => by rw [(srtR_perm l).mem_iff]; exact e p
/-! the rows of a law -/
def oldN (rows : Rows) (i : Int) : Tx := (rows.getD (i % (rows.length : Int)).toNat ([], 0)).1
def cellN (ns : List Int) (f : Int) (k : Nat) : Int := ns.getD (f + (k : Int)).toNat 0 + 104729 * (k : Int)
def sizeR (c : Int) : Int := if c / 24 % 9 = 8 then 40 else c / 4 % 6
def wordR (rows : Rows) (c : Int) : Tx :=
  if 1 < c % 4 ∧ rows ≠ [] then (oldN rows (c / 216)).take (if c % 2 = 0 then (oldN rows (c / 216)).length else (oldN rows (c / 216)).length / 2) ++ wordL (c / 216) (sizeR c).toNat else wordL (c / 216) (sizeR c).toNat
def stepR (ns : List Int) (f : Int) : Nat → Rows
  | 0 => []
  | k + 1 => (stepR ns f k).filter (fun p => !decide (p.1 = (wordR (stepR ns f k) (cellN ns f k)).take 40)) ++ [((wordR (stepR ns f k) (cellN ns f k)).take 40, numberL (cellN ns f k))]
def pairR (m : Int) (k : Nat) : Tx := [signN (7 * ((k : Int) / 12) + m)] ++ [signN (5 * ((k : Int) % 12) + m)]
def row8 (m : Int) (k : Nat) : Tx × Int := ((wordL m 40).take k, numberL (m + (k : Int)))
def row7 (m : Int) (k : Nat) : Tx × Int := (wordL m (m % 6).toNat ++ pairR m k, numberL (m + (k : Int)))
def row6 (m : Int) (k : Nat) : Tx × Int := (wordL m (m % 6).toNat ++ [signN (7 * (k : Int) + m)], numberL (m + (k : Int)))
def rowsL (ns : List Int) (f count : Int) : Rows :=
  let c := ns.getD f.toNat 0
  if c % 9 = 8 then (List.range (min count.toNat 41)).map (row8 (c / 9))
  else if c % 9 = 7 then srtR ((List.range count.toNat).map (row7 (c / 9)))
  else if c % 9 = 6 then srtR ((List.range (min count.toNat 94)).map (row6 (c / 9)))
  else srtR (stepR ns f (min count.toNat 60))
structure Good (l : Rows) : Prop where
  srt : Srt l
  ok : ∀ p ∈ l, okT p.1
  len : ∀ p ∈ l, p.1.length ≤ 40
  cnt : l.length ≤ 150
  num : ∀ p ∈ l, - big < p.2 ∧ p.2 < big
theorem alpha_nodup : alpha.Nodup := by decide +kernel
theorem signN_inj {i j : Int} (h : signN i = signN j) : i % 94 = j % 94 := by
  unfold signN at h
  rw [List.getD_eq_getElem?_getD, List.getD_eq_getElem?_getD, List.getElem?_eq_getElem (sign_lt i), List.getElem?_eq_getElem (sign_lt j)] at h
  have := (List.getElem_inj alpha_nodup).mp (show alpha[(i % 94).toNat]'(sign_lt i) = alpha[(j % 94).toNat]'(sign_lt j) from h)
  omega
theorem pw_range {α : Type} {R : α → α → Prop} {f : Nat → α} {n : Nat} (h : ∀ i j, i < j → j < n → R (f i) (f j)) : ((List.range n).map f).Pairwise R := by
  rw [List.pairwise_map]
  exact (List.pairwise_lt_range (n := n)).imp_of_mem fun {a b} ha hb hab => h a b hab (List.mem_range.mp hb)
theorem take_lt {a : Tx} {i j : Nat} (h : i < j) (hj : j ≤ a.length) : a.take i < a.take j := by
  have e : a.take j = a.take i ++ (a.drop i).take (j - i) := by
    rw [← List.take_append_drop i (a.take j), List.take_take, Nat.min_eq_left (by omega), List.drop_take]
  rw [e]
  have h2 : (a.drop i).take (j - i) ≠ [] := fun z => by
    have := congrArg List.length z
    rw [List.length_take, List.length_drop] at this
    simp at this
    omega
  have h3 := (lt_app (a.take i) (a := []) (b := (a.drop i).take (j - i))).mpr (by
    cases q : (a.drop i).take (j - i) with
    | nil => exact absurd q h2
    | cons x r => exact List.nil_lt_cons _ _)
  rw [List.append_nil] at h3
  exact h3
theorem Good.sorted {l : Rows} (d : Dis l) (h1 : ∀ p ∈ l, okT p.1 ∧ p.1.length ≤ 40 ∧ - big < p.2 ∧ p.2 < big) (h2 : l.length ≤ 150) : Good (srtR l) :=
  ⟨srtR_srt d, fun p m => (h1 p ((srtR_perm l).mem_iff.mp m)).1, fun p m => (h1 p ((srtR_perm l).mem_iff.mp m)).2.1, by rw [(srtR_perm l).length_eq]; exact h2, fun p m => (h1 p ((srtR_perm l).mem_iff.mp m)).2.2⟩
theorem oldN_mem {rows : Rows} {i : Int} (h : rows ≠ []) : ∃ p ∈ rows, oldN rows i = p.1 := by
  have hl : 0 < rows.length := List.length_pos_iff.mpr h
  have h2 : (i % (rows.length : Int)).toNat < rows.length := by
    have := Int.emod_lt_of_pos i (show (0 : Int) < rows.length by omega)
    have := Int.emod_nonneg i (show (rows.length : Int) ≠ 0 by omega)
    omega
  refine ⟨rows[(i % (rows.length : Int)).toNat], List.getElem_mem _, ?_⟩
  unfold oldN
  rw [List.getD_eq_getElem?_getD, List.getElem?_eq_getElem h2]; rfl
theorem oldN_at {rows : Rows} {i : Int} (h : rows ≠ []) : rows[(i % (rows.length : Int)).toNat]? = some (oldN rows i, (rows.getD (i % (rows.length : Int)).toNat ([], 0)).2) := by
  have hl : 0 < rows.length := List.length_pos_iff.mpr h
  have h2 : (i % (rows.length : Int)).toNat < rows.length := by
    have := Int.emod_lt_of_pos i (show (0 : Int) < rows.length by omega)
    have := Int.emod_nonneg i (show (rows.length : Int) ≠ 0 by omega)
    omega
  unfold oldN
  rw [List.getD_eq_getElem?_getD, List.getElem?_eq_getElem h2]; rfl
theorem stepR_good (ns : List Int) (f : Int) : ∀ k, Dis (stepR ns f k) ∧ (∀ p ∈ stepR ns f k, okT p.1 ∧ p.1.length ≤ 40 ∧ - big < p.2 ∧ p.2 < big) ∧ (stepR ns f k).length ≤ k
  | 0 => ⟨.nil, fun p m => (by cases m), Nat.le_refl _⟩
  | k + 1 => by
    obtain ⟨h1, h2, h3⟩ := stepR_good ns f k
    rw [stepR]
    refine ⟨?_, fun p m => ?_, ?_⟩
    · refine List.pairwise_append.mpr ⟨dis_filter h1 _, List.pairwise_singleton _ _, fun p hp q hq => ?_⟩
      rw [List.mem_singleton.mp hq]
      have := (List.mem_filter.mp hp).2
      intro e
      rw [decide_eq_true e] at this
      cases this
    · rcases List.mem_append.mp m with m | m
      · exact h2 p (List.mem_filter.mp m).1
      · rw [List.mem_singleton.mp m]
        refine ⟨okT_take _ ?_, by rw [List.length_take]; omega, numberL_b _⟩
        unfold wordR
        split
        · rename_i z
          obtain ⟨p, hp, e⟩ := oldN_mem (i := cellN ns f k / 216) z.2
          refine okT_app (okT_take _ ?_) (wordL_ok _ _)
          rw [e]; exact (h2 p hp).1
        · exact wordL_ok _ _
    · rw [List.length_append]
      have := List.length_filter_le (fun p => !decide (p.1 = (wordR (stepR ns f k) (cellN ns f k)).take 40)) (stepR ns f k)
      show _ + 1 ≤ _
      omega
theorem stepR_old {ns : List Int} {f : Int} {k : Nat} {c : Int} (h : stepR ns f k ≠ []) : (oldN (stepR ns f k) c).length ≤ 40 := by
  obtain ⟨p, hp, e⟩ := oldN_mem (i := c) h
  rw [e]; exact ((stepR_good ns f k).2.1 p hp).2.1
theorem sign1_ok (i : Int) : okT [signN i] := fun x hx => by rw [List.mem_singleton.mp hx]; exact signN_ok _
theorem row7_dis (m : Int) (n : Nat) (h : n ≤ 150) : Dis ((List.range n).map (row7 m)) := pw_range fun i j hij hj e => by
  have e1 : pairR m i = pairR m j := List.append_cancel_left e
  unfold pairR at e1
  injection e1 with a b
  injection b with b _
  have := signN_inj a
  have := signN_inj b
  omega
theorem row6_dis (m : Int) (n : Nat) (h : n ≤ 94) : Dis ((List.range n).map (row6 m)) := pw_range fun i j hij hj e => by
  have e1 := List.append_cancel_left e
  injection e1 with a _
  have := signN_inj a
  omega
theorem row7_ok (m : Int) (n : Nat) (p : Tx × Int) (h : p ∈ (List.range n).map (row7 m)) : okT p.1 ∧ p.1.length ≤ 40 ∧ - big < p.2 ∧ p.2 < big := by
  obtain ⟨k, _, rfl⟩ := List.mem_map.mp h
  refine ⟨okT_app (wordL_ok _ _) (okT_app (sign1_ok _) (sign1_ok _)), ?_, numberL_b _⟩
  show (wordL m _ ++ pairR m k).length ≤ 40
  rw [List.length_append, wordL_len]
  show _ + 2 ≤ 40
  omega
theorem row6_ok (m : Int) (n : Nat) (p : Tx × Int) (h : p ∈ (List.range n).map (row6 m)) : okT p.1 ∧ p.1.length ≤ 40 ∧ - big < p.2 ∧ p.2 < big := by
  obtain ⟨k, _, rfl⟩ := List.mem_map.mp h
  refine ⟨okT_app (wordL_ok _ _) (sign1_ok _), ?_, numberL_b _⟩
  show (wordL m _ ++ [_]).length ≤ 40
  rw [List.length_append, wordL_len]
  show _ + 1 ≤ 40
  omega
theorem rowsL_good (ns : List Int) (f count : Int) (h : count ≤ 150) : Good (rowsL ns f count) := by
  unfold rowsL
  simp only
  split
  · refine ⟨pw_range fun i j hij hj => take_lt hij (by rw [wordL_len]; omega), fun p m => ?_, fun p m => ?_, by rw [List.length_map, List.length_range]; omega, fun p m => ?_⟩ <;> obtain ⟨k, _, rfl⟩ := List.mem_map.mp m
    · exact okT_take _ (wordL_ok _ _)
    · show ((wordL _ 40).take k).length ≤ 40
      rw [List.length_take, wordL_len]; omega
    · exact numberL_b _
  · split
    · exact Good.sorted (row7_dis _ _ (by omega)) (row7_ok _ _) (by rw [List.length_map, List.length_range]; omega)
    · split
      · exact Good.sorted (row6_dis _ _ (by omega)) (row6_ok _ _) (by rw [List.length_map, List.length_range]; omega)
      · have q := stepR_good ns f (min count.toNat 60)
        exact Good.sorted q.1 q.2.1 (by omega)
def nameL (c : Int) (rows : Rows) : Tx :=
  if c % 4 = 0 ∨ rows = [] then wordL (c / 28) (c / 4 % 7).toNat
  else if c % 4 = 1 then oldN rows (c / 28)
  else if c % 4 = 2 then (oldN rows (c / 28) ++ wordL (c / 28) (c / 4 % 7).toNat).take 40
  else (oldN rows (c / 28)).take (c * 48271 % 2147483647 % ((oldN rows (c / 28)).length + 1 : Int)).toNat
theorem nameL_ok {rows : Rows} (h : Good rows) (c : Int) : okT (nameL c rows) ∧ (nameL c rows).length ≤ 40 := by
  unfold nameL
  split
  · refine ⟨wordL_ok _ _, ?_⟩
    rw [wordL_len]; omega
  · rename_i z
    obtain ⟨p, hp, e⟩ := oldN_mem (i := c / 28) (fun q => z (.inr q))
    have h1 := h.ok p hp
    have h2 := h.len p hp
    rw [← e] at h1 h2
    split
    · exact ⟨h1, h2⟩
    · split
      · exact ⟨okT_take _ (okT_app h1 (wordL_ok _ _)), by rw [List.length_take]; omega⟩
      · exact ⟨okT_take _ h1, by rw [List.length_take]; omega⟩
end Rt

namespace Rt
open PySem L2
theorem comL_comm : ∀ (a b : Tx), comL a b = comL b a
  | [], [] => rfl
  | [], _ :: _ => rfl
  | _ :: _, [] => rfl
  | x :: r, y :: s => by
    unfold comL
    by_cases h : x = y
    · rw [if_pos h, if_pos h.symm, comL_comm r s, h]
    · rw [if_neg h, if_neg (fun q => h q.symm)]
theorem comL_pre2 (a b : Tx) : comL a b <+: b := by rw [comL_comm]; exact comL_pre1 b a
theorem comL_len2 (a b : Tx) : (comL a b).length ≤ b.length := (comL_pre2 a b).length_le
theorem comL_full : ∀ (a b : Tx), (comL a b).length = b.length → b <+: a := fun a b h => by
  have h1 := comL_pre2 a b
  have e : comL a b = b := h1.eq_of_length h
  rw [← e]; exact comL_pre1 a b
theorem comL_of_pre : ∀ {a b : Tx}, b <+: a → comL a b = b
  | [], [], _ => rfl
  | _ :: _, [], _ => rfl
  | [], y :: s, h => by simp at h
  | x :: r, y :: s, h => by
    obtain ⟨h1, h2⟩ := List.cons_prefix_cons.mp h
    unfold comL
    rw [if_pos h1.symm, comL_of_pre h2, h1]
end Rt

namespace Rt
open PySem L2
theorem two_find {s : Tx} {p q : Tx × T} (hne : p.1 ≠ q.1) (y : Tx) : (T.fork s (B.of [p, q])).find y = ((T.fork s (B.of [p])).find y).or ((T.fork s (B.of [q])).find y) := by
  rw [T.find_fl, T.find_fl, T.find_fl]
  by_cases h : s <+: y
  · rw [if_pos h, if_pos h, if_pos h]
    generalize (y.drop s.length).take 1 = z
    generalize (y.drop s.length).drop 1 = m
    show OT.find (if p.1 = z then some p.2 else if q.1 = z then some q.2 else none) m = (OT.find (if p.1 = z then some p.2 else none) m).or (OT.find (if q.1 = z then some q.2 else none) m)
    by_cases e : p.1 = z
    · have e2 : ¬ q.1 = z := fun z2 => hne (e.trans z2.symm)
      rw [if_pos e, if_pos e, if_neg e2]
      show _ = Option.or _ none
      rw [Option.or_none]
    · rw [if_neg e, if_neg e]
      show _ = Option.or none _
      rw [Option.none_or]
  · rw [if_neg h, if_neg h, if_neg h]; rfl
theorem two_ok {s : Tx} {p q : Tx × T} (h1 : (B.of [p]).ok) (h2 : (B.of [q]).ok) (h : p.1 < q.1) : (T.fork s (B.of [p, q])).ok := by
  obtain ⟨a1, a2, a3, _, _⟩ := h1
  exact ⟨by show 2 ≤ 2; decide, a1, a2, a3, fun y hy => by rw [List.mem_singleton.mp hy]; exact h, h2⟩
theorem not_pre_of_short {a x : Tx} (h : (comL a x).length < a.length) : ¬ a <+: x := fun hp => by
  rw [comL_comm, comL_of_pre hp] at h; omega
/-- where a knot parts -/
structure Parts (t : T) (x : Tx) : Prop where
  or : (comL t.text x).length < t.text.length ∨ ((∃ r n, t = .leaf r n) ∧ t.text ≠ x)
theorem Parts.none {t : T} {x : Tx} (p : Parts t x) : t.find x = none := by
  rcases p.or with h | ⟨⟨r, n, rfl⟩, h⟩
  · cases e : t.find x with
    | none => rfl
    | some n => exact absurd (text_pre e) (not_pre_of_short h)
  · rw [T.find_l, if_neg (show ¬ r = x from h)]
theorem Parts.beh {t : T} {x : Tx} (p : Parts t x) : (comL t.text x).length < t.text.length ∨ ((comL t.text x).length = t.text.length ∧ ∃ r n, t = .leaf r n) := by
  have := comL_len1 t.text x
  rcases p.or with h | ⟨h, _⟩
  · exact .inl h
  · by_cases e : (comL t.text x).length < t.text.length
    · exact .inl e
    · exact .inr ⟨by omega, h⟩
theorem leaf_beh (x : Tx) (n : Int) {k : Nat} (hk : k ≤ x.length) : k < (T.leaf x n).text.length ∨ (k = (T.leaf x n).text.length ∧ ∃ r m, T.leaf x n = .leaf r m) := by
  by_cases e : k < x.length
  · exact .inl e
  · exact .inr ⟨by show k = x.length; omega, x, n, rfl⟩
theorem com_next : ∀ (a b : Tx), (comL a b).length < a.length → (comL a b).length < b.length → a[(comL a b).length]? ≠ b[(comL a b).length]?
  | [], _, h, _ => absurd h (by simp)
  | _ :: _, [], _, h => absurd h (by simp)
  | x :: r, y :: s, h1, h2 => by
    by_cases e : x = y
    · have ec : comL (x :: r) (y :: s) = x :: comL r s := by rw [comL, if_pos e]
      rw [ec] at h1 h2 ⊢
      rw [List.length_cons] at h1 h2 ⊢
      rw [List.getElem?_cons_succ, List.getElem?_cons_succ]
      exact com_next r s (by simpa using h1) (by simpa using h2)
    · have ec : comL (x :: r) (y :: s) = [] := by rw [comL, if_neg e]
      rw [ec]
      intro z
      exact e (Option.some.inj z)
theorem drop_head {a : Tx} {k : Nat} (h : k < a.length) : (a.drop k).take 1 = [a[k]] := by
  rw [List.drop_eq_getElem_cons h]; rfl
theorem Parts.signs {t : T} {x : Tx} (n : Int) (p : Parts t x) : (behT (comL t.text x).length t).1 ≠ (behT (comL t.text x).length (.leaf x n)).1 := by
  show (t.text.drop _).take 1 ≠ (x.drop _).take 1
  have l1 := comL_len1 t.text x
  have l2 := comL_len2 t.text x
  by_cases e1 : (comL t.text x).length < t.text.length
  · by_cases e2 : (comL t.text x).length < x.length
    · have h := com_next t.text x e1 e2
      rw [drop_head e1, drop_head e2]
      intro z
      injection z with z
      rw [List.getElem?_eq_getElem e1, List.getElem?_eq_getElem e2, z] at h
      exact h rfl
    · rw [drop_head e1, List.drop_eq_nil_of_le (by omega : x.length ≤ (comL t.text x).length)]
      intro z; cases z
  · by_cases e2 : (comL t.text x).length < x.length
    · rw [drop_head e2, List.drop_eq_nil_of_le (by omega : t.text.length ≤ (comL t.text x).length)]
      intro z; cases z
    · exfalso
      rcases p.or with h | ⟨_, h⟩
      · exact e1 h
      · have a1 : comL t.text x = t.text := (comL_pre1 t.text x).eq_of_length (by omega)
        have a2 : comL t.text x = x := (comL_pre2 t.text x).eq_of_length (by omega)
        exact h (a1.symm.trans a2)
def splitT (t : T) (x : Tx) (n : Int) : T :=
  let k := (comL t.text x).length
  .fork (comL t.text x) (B.of (if (behT k t).1 < (behT k (.leaf x n)).1 then [behT k t, behT k (.leaf x n)] else [behT k (.leaf x n), behT k t]))
theorem splitT_ok {t : T} {x : Tx} {n : Int} (h : t.ok) (p : Parts t x) : (splitT t x n).ok := by
  have b1 := beh_ok h p.beh
  have b2 := beh_ok (t := .leaf x n) (k := (comL t.text x).length) trivial (leaf_beh x n (comL_len2 _ _))
  unfold splitT
  by_cases q : (behT (comL t.text x).length t).1 < (behT (comL t.text x).length (.leaf x n)).1
  · simp only [q, if_true]; exact two_ok b1 b2 q
  · simp only [q, if_false]
    refine two_ok b2 b1 ?_
    rcases lt_tot (behT (comL t.text x).length t).1 (behT (comL t.text x).length (.leaf x n)).1 with z | z | z
    · exact absurd z q
    · exact absurd z (p.signs n)
    · exact z
theorem splitT_find {t : T} {x : Tx} {n : Int} (h : t.ok) (p : Parts t x) (y : Tx) : (splitT t x n).find y = if y = x then some n else t.find y := by
  have f1 := find_beh h p.beh y
  have f2 := find_beh (t := .leaf x n) (k := (comL t.text x).length) trivial (leaf_beh x n (comL_len2 _ _)) y
  rw [comL_take] at f1
  have e2 : (T.leaf x n).text.take (comL t.text x).length = comL t.text x := by
    show x.take _ = _
    rw [comL_comm]; exact comL_take x t.text
  rw [e2] at f2
  have hne := p.signs n
  have fin : ((t.find y).or ((T.leaf x n).find y)) = if y = x then some n else t.find y := by
    rw [T.find_l]
    by_cases e : y = x
    · rw [if_pos e, if_pos e.symm, e, p.none]; rfl
    · rw [if_neg e, if_neg (fun z => e z.symm), Option.or_none]
  have fin2 : (((T.leaf x n).find y).or (t.find y)) = if y = x then some n else t.find y := by
    rw [T.find_l]
    by_cases e : y = x
    · rw [if_pos e, if_pos e.symm]; rfl
    · rw [if_neg e, if_neg (fun z => e z.symm), Option.none_or]
  unfold splitT
  by_cases q : (behT (comL t.text x).length t).1 < (behT (comL t.text x).length (.leaf x n)).1
  · simp only [q, if_true]
    rw [two_find hne, f1, f2, fin]
  · simp only [q, if_false]
    rw [two_find hne.symm, f1, f2, fin2]
/-- a fork with another tree behind a sign -/
theorem find_withB {s : Tx} {b : B} {y : Tx} {t : OT} (x : Tx) : (T.fork s (withB b y t)).find x = if s <+: x ∧ (x.drop s.length).take 1 = y then OT.find t ((x.drop s.length).drop 1) else (T.fork s b).find x := by
  rw [T.find_fl, T.find_fl]
  by_cases h : s <+: x
  · rw [if_pos h, if_pos h, withB_look]
    by_cases e : (x.drop s.length).take 1 = y
    · rw [if_pos e, if_pos ⟨h, e⟩]
    · rw [if_neg e, if_neg (fun z => e z.2)]
  · rw [if_neg h, if_neg h, if_neg (fun z => h z.1)]
/-- the name x in the fork's branch -/
theorem split_name {s x : Tx} (h : s <+: x) (z : Tx) : (s <+: z ∧ (z.drop s.length).take 1 = (x.drop s.length).take 1) → (((z.drop s.length).drop 1 = (x.drop s.length).drop 1) ↔ z = x) := by
  rintro ⟨h1, h2⟩
  obtain ⟨a, rfl⟩ := h
  obtain ⟨c, rfl⟩ := h1
  rw [List.drop_left, List.drop_left] at h2 ⊢
  constructor
  · intro h3
    rw [← take_drop1 c, ← take_drop1 a, h2, h3]
  · intro h3
    rw [List.append_cancel_left h3]
theorem leaf_of_nil {g : T} (hg : g.ok) (h : ∀ z n, g.find z = some n → z = []) : ∃ n, g = .leaf [] n := by
  cases g with
  | leaf r n =>
    have := h r n (by rw [T.find_l, if_pos rfl])
    exact ⟨n, by rw [this]⟩
  | fork s b =>
    exact (T.two_signs hg [] fun x n hx => by rw [h x n hx]; simp).elim
theorem sub_nil {b : B} (h : b.ok) {z : Tx} {n : Int} (q : OT.find (b.look []) z = some n) : z = [] := by
  cases e : b.look [] with
  | none => rw [e] at q; cases q
  | some t =>
    rw [e] at q
    obtain ⟨_, _, l3, _⟩ := B.ok_sub h (B.look_mem e)
    exact leaf_nil l3 (show t.find z = some n from q) rfl
theorem put_fork_ok {s x : Tx} {b : B} {n : Int} {g : T} (h : (T.fork s b).ok) (hg : g.ok) (hf : ∀ z, g.find z = if z = (x.drop s.length).drop 1 then some n else OT.find (b.look ((x.drop s.length).take 1)) z) : (T.fork s (withB b ((x.drop s.length).take 1) (some g))).ok := by
  refine ⟨withB_two h.2 h.1, withB_ok h.2 (by rw [List.length_take]; omega) fun u hu => ?_⟩
  cases hu
  refine ⟨hg, fun e => leaf_of_nil hg fun z m hz => ?_⟩
  rw [hf] at hz
  by_cases q : z = (x.drop s.length).drop 1
  · rw [q]
    cases hx : x.drop s.length with
    | nil => rfl
    | cons a r => rw [hx] at e; cases e
  · rw [if_neg q, e] at hz
    exact sub_nil h.2 hz
theorem put_fork_find {s x : Tx} {b : B} {n : Int} {g : T} (hp : s <+: x) (hf : ∀ z, g.find z = if z = (x.drop s.length).drop 1 then some n else OT.find (b.look ((x.drop s.length).take 1)) z) (y : Tx) : (T.fork s (withB b ((x.drop s.length).take 1) (some g))).find y = if y = x then some n else (T.fork s b).find y := by
  rw [find_withB]
  by_cases c : s <+: y ∧ (y.drop s.length).take 1 = (x.drop s.length).take 1
  · rw [if_pos c]
    show g.find _ = _
    rw [hf]
    have hs := split_name hp y c
    by_cases e : y = x
    · rw [if_pos e, if_pos (hs.mpr e)]
    · rw [if_neg e, if_neg (fun z => e (hs.mp z)), T.find_fl, if_pos c.1, c.2]
  · rw [if_neg c, if_neg (fun e => c (by rw [e]; exact ⟨hp, rfl⟩))]
/-! existence -/
mutual
theorem T.put_ex : ∀ (t : T), t.ok → ∀ (x : Tx) (n : Int), ∃ r : T, r.ok ∧ ∀ y, r.find y = if y = x then some n else t.find y
  | .leaf r m, h, x, n => by
    by_cases e : r = x
    · refine ⟨.leaf x n, trivial, fun y => ?_⟩
      rw [T.find_l, T.find_l, e]
      by_cases q : y = x
      · rw [if_pos q, if_pos q.symm]
      · rw [if_neg q, if_neg (fun z => q z.symm), if_neg (fun z => q z.symm)]
    · have p : Parts (.leaf r m) x := ⟨.inr ⟨⟨r, m, rfl⟩, e⟩⟩
      exact ⟨_, splitT_ok h p, splitT_find h p⟩
  | .fork s b, h, x, n => by
    by_cases e : s <+: x
    · obtain ⟨g, hg, hf⟩ := B.put_ex b h.2 ((x.drop s.length).take 1) ((x.drop s.length).drop 1) n
      exact ⟨_, put_fork_ok h hg hf, put_fork_find e hf⟩
    · have p : Parts (.fork s b) x := ⟨.inl (by
        show (comL s x).length < s.length
        have l := comL_len1 s x
        by_cases q : (comL s x).length = s.length
        · exact absurd (by rw [← (comL_pre1 s x).eq_of_length q]; exact comL_pre2 s x) e
        · omega)⟩
      exact ⟨_, splitT_ok h p, splitT_find h p⟩
theorem B.put_ex : ∀ (b : B), b.ok → ∀ (y m : Tx) (n : Int), ∃ g : T, g.ok ∧ ∀ z, g.find z = if z = m then some n else OT.find (b.look y) z
  | .nil, _, y, m, n => ⟨.leaf m n, trivial, fun z => by
      rw [T.find_l]
      show _ = if z = m then some n else none
      by_cases q : z = m
      · rw [if_pos q, if_pos q.symm]
      · rw [if_neg q, if_neg (fun e => q e.symm)]⟩
  | .cons c t r, ⟨l1, l2, l3, l4, l5⟩, y, m, n => by
    by_cases e : c = y
    · obtain ⟨g, hg, hf⟩ := T.put_ex t l2 m n
      refine ⟨g, hg, fun z => ?_⟩
      rw [hf]
      unfold B.look
      rw [if_pos e]; rfl
    · obtain ⟨g, hg, hf⟩ := B.put_ex r l5 y m n
      refine ⟨g, hg, fun z => ?_⟩
      rw [hf]
      show _ = if z = m then some n else OT.find ((B.cons c t r).look y) z
      have : (B.cons c t r).look y = r.look y := by
        show (if c = y then some t else r.look y) = _
        rw [if_neg e]
      rw [this]
end
theorem OT.put_ex {t : OT} (h : OT.ok t) (x : Tx) (n : Int) : ∃ r : T, r.ok ∧ ∀ y, r.find y = if y = x then some n else OT.find t y := by
  cases t with
  | none => exact B.put_ex .nil trivial [] x n
  | some t => exact T.put_ex t h x n
/-- the number of a name in rows, the first one -/
def lookR : Rows → Tx → Option Int
  | [], _ => none
  | p :: l, y => if y = p.1 then some p.2 else lookR l y
theorem lookR_mem : ∀ {l : Rows}, Srt l → ∀ (x : Tx) (n : Int), lookR l x = some n ↔ (x, n) ∈ l
  | [], _, x, n => ⟨fun h => (by cases h), fun h => (by cases h)⟩
  | p :: l, h, x, n => by
    obtain ⟨h1, h2⟩ := List.pairwise_cons.mp h
    unfold lookR
    by_cases e : x = p.1
    · rw [if_pos e]
      constructor
      · intro q; injection q with q; rw [e, ← q]; exact List.mem_cons_self
      · intro q
        rcases List.mem_cons.mp q with z | z
        · rw [← z]
        · exact absurd (h1 _ z) (by rw [e]; exact lt_irr _)
    · rw [if_neg e, lookR_mem h2]
      constructor
      · exact List.mem_cons_of_mem _
      · intro q
        rcases List.mem_cons.mp q with z | z
        · rw [← z] at e; exact absurd rfl e
        · exact z
/-- rows put into a tree: the first ones win -/
theorem ex_put : ∀ (l : Rows) {t : OT}, OT.ok t → ∃ r : OT, OT.ok r ∧ ∀ y, OT.find r y = (lookR l y).or (OT.find t y)
  | [], t, h => ⟨t, h, fun y => by show _ = Option.or none _; rw [Option.none_or]⟩
  | p :: l, t, h => by
    obtain ⟨r, h1, h2⟩ := ex_put l h
    obtain ⟨g, hg, hf⟩ := OT.put_ex h1 p.1 p.2
    refine ⟨some g, hg, fun y => ?_⟩
    show g.find y = _
    rw [hf, h2]
    show _ = (if y = p.1 then some p.2 else lookR l y).or (OT.find t y)
    by_cases e : y = p.1
    · rw [if_pos e, if_pos e]; rfl
    · rw [if_neg e, if_neg e]
theorem ex_rows {l : Rows} (h : Srt l) : ∃ t : OT, Rep l t := by
  obtain ⟨r, h1, h2⟩ := ex_put l (t := none) trivial
  refine ⟨r, Rep.of h1 h fun x n => ?_⟩
  rw [h2]
  show Option.or _ none = _ ↔ _
  rw [Option.or_none]
  exact lookR_mem h x n
/-- the names that a test keeps -/
theorem ex_only {t : OT} (h : OT.ok t) (f : Tx → Bool) : ∃ r : OT, OT.ok r ∧ ∀ y, OT.find r y = if f y then OT.find t y else none := by
  obtain ⟨r, h1, h2⟩ := ex_rows (srt_filter (OT.srt h) fun p => f p.1)
  refine ⟨r, h1, fun y => ?_⟩
  refine (Option.ext fun n => ?_)
  have q := (Rep.find ⟨h1, h2⟩ y n)
  rw [q, List.mem_filter, OT.mem_names h]
  by_cases e : f y = true
  · simp [e]
  · simp [e]
/-- the names that begin so, without the beginning -/
theorem ex_under {t : OT} (h : OT.ok t) (x : Tx) : ∃ r : OT, OT.ok r ∧ ∀ y, OT.find r y = OT.find t (x ++ y) := by
  have hs : Srt (((OT.names t).filter (fun p => decide (x <+: p.1))).map fun p => (p.1.drop x.length, p.2)) := by
    refine List.pairwise_map.mpr ?_
    refine (srt_filter (OT.srt h) _).imp_of_mem fun {p q} hp hq hlt => ?_
    obtain ⟨a, ha⟩ := of_decide_eq_true (List.mem_filter.mp hp).2
    obtain ⟨b, hb⟩ := of_decide_eq_true (List.mem_filter.mp hq).2
    show p.1.drop x.length < q.1.drop x.length
    have hlt' : p.1 < q.1 := hlt
    rw [← ha, ← hb] at hlt' ⊢
    rw [List.drop_left, List.drop_left]
    exact (lt_app x).mp hlt'
  obtain ⟨r, h1, h2⟩ := ex_rows hs
  refine ⟨r, h1, fun y => ?_⟩
  refine (Option.ext fun n => ?_)
  rw [Rep.find ⟨h1, h2⟩ y n, List.mem_map, ← OT.mem_names h]
  constructor
  · rintro ⟨p, hp, e⟩
    obtain ⟨m, hm⟩ := List.mem_filter.mp hp
    obtain ⟨a, ha⟩ := of_decide_eq_true hm
    injection e with e1 e2
    rw [← ha, List.drop_left] at e1
    rw [← e1, ha, ← e2]; exact m
  · intro hy
    exact ⟨(x ++ y, n), List.mem_filter.mpr ⟨hy, decide_eq_true (List.prefix_append _ _)⟩, by rw [List.drop_left]⟩
theorem ex_union {a b : OT} (ha : OT.ok a) (hb : OT.ok b) : ∃ r : OT, OT.ok r ∧ ∀ y, OT.find r y = (OT.find a y).or (OT.find b y) := by
  obtain ⟨r, h1, h2⟩ := ex_put (OT.names a) hb
  refine ⟨r, h1, fun y => ?_⟩
  rw [h2]
  have e : lookR (OT.names a) y = OT.find a y := Option.ext fun n => by rw [lookR_mem (OT.srt ha), OT.mem_names ha]
  rw [e]
end Rt

namespace Rt
open PySem L2
def Rlaw : List D → D → Prop := fun ds d => ∃ ns : List Int, ds = [.scr ns] ∧ ns.length ≤ 63 ∧ d = .bl true
/-- what a law's rows give -/
theorem Good.tb {rows : Rows} {t : OT} (g : Good rows) (r : Rep rows t) : Tb 42 t :=
  Tb.of r.1 (fun x n h => g.len (x, n) ((r.find x n).mp h)) (by rw [r.2]; exact Nat.le_trans g.cnt (by decide))
theorem Good.tree {rows : Rows} (g : Good rows) : ∃ t, Rep rows t ∧ Tb 42 t ∧ D.al 128 (OT.d t) := by
  obtain ⟨t, h⟩ := ex_rows g.srt
  exact ⟨t, h, g.tb h, OT.al (g.tb h) (by rw [h.2]; exact g.ok)⟩
theorem rep_look {rows : Rows} {t : OT} (r : Rep rows t) (x : Tx) : (rows.filter fun p => decide (p.1 = x)).map (fun p => p.2) = (OT.find t x).toList := by
  have hs := r.srt
  have hf := r.find x
  cases e : OT.find t x with
  | none =>
    rw [List.filter_eq_nil_iff.mpr]
    · rfl
    · intro p hp c
      have c' := of_decide_eq_true c
      have := (hf p.2).mpr (by rw [← c']; exact hp)
      rw [e] at this; cases this
  | some n =>
    have hm := (hf n).mp e
    obtain ⟨l1, l2, el⟩ := List.append_of_mem hm
    rw [el] at hs
    obtain ⟨q1, q2, q3⟩ := List.pairwise_append.mp hs
    have q2' := List.pairwise_cons.mp q2
    rw [el, List.filter_append, List.filter_cons]
    have f1 : l1.filter (fun p => decide (p.1 = x)) = [] := List.filter_eq_nil_iff.mpr fun p hp c => lt_ne (q3 p hp (x, n) List.mem_cons_self) (of_decide_eq_true c)
    have f2 : l2.filter (fun p => decide (p.1 = x)) = [] := List.filter_eq_nil_iff.mpr fun p hp c => lt_ne (q2'.1 p hp) (of_decide_eq_true c).symm
    rw [f1, f2]
    simp
theorem held_head {rows : Rows} {t : OT} (r : Rep rows t) (x : Tx) {e : Int → D} : atI ((rows.filter fun p => decide (p.1 = x)).map (fun p => e p.2) ++ [.non]) 0 = some (match OT.find t x with | none => .non | some n => e n) := by
  have h := congrArg (List.map e) (rep_look r x)
  rw [List.map_map] at h
  rw [show ((rows.filter fun p => decide (p.1 = x)).map (fun p => e p.2)) = (OT.find t x).toList.map e from h]
  cases OT.find t x <;> rfl
end Rt

namespace Rt
open PySem L2
/-- a tree as data, by its parts -/
def T.last : T → D
  | .leaf _ n => .int n
  | .fork _ b => .tup b.d
def T.kind : T → Tx
  | .leaf _ _ => tLeaf
  | .fork _ _ => tFork
theorem T.d_eq (t : T) : t.d = .tup [.str t.kind, .str t.text, t.last] := by cases t <;> rfl
theorem T.re_d (t : T) (x : Tx) : (t.re x).d = .tup [.str t.kind, .str x, t.last] := by cases t <;> rfl
end Rt

namespace Rt
open PySem L2
/-- a is the tree of the names that do not begin with x, b that of those which do, without it -/
structure CutR (t : OT) (x : Tx) (a b : OT) : Prop where
  ok1 : OT.ok a
  ok2 : OT.ok b
  f1 : ∀ y, OT.find a y = if x <+: y then none else OT.find t y
  f2 : ∀ y, OT.find b y = OT.find t (x ++ y)
theorem CutR.ex {t : OT} (h : OT.ok t) (x : Tx) : ∃ a b, CutR t x a b := by
  obtain ⟨a, a1, a2⟩ := ex_only h (fun y => !decide (x <+: y))
  obtain ⟨b, b1, b2⟩ := ex_under h x
  refine ⟨a, b, a1, b1, fun y => ?_, b2⟩
  rw [a2]
  by_cases c : x <+: y
  · rw [if_pos c, decide_eq_true c]; rfl
  · rw [if_neg c, decide_eq_false c]; rfl
theorem CutR.uniq {t : OT} {x : Tx} {a b a' b' : OT} (h : CutR t x a b) (h' : CutR t x a' b') : a = a' ∧ b = b' :=
  ⟨OT.ext h.ok1 h'.ok1 fun y => by rw [h.f1, h'.f1], OT.ext h.ok2 h'.ok2 fun y => by rw [h.f2, h'.f2]⟩
theorem cut_none (x : Tx) : CutR none x none none := ⟨trivial, trivial, fun y => by show none = if x <+: y then none else none; split <;> rfl, fun y => rfl⟩
theorem find_pre_text {t : T} {y : Tx} (h : ¬ t.text <+: y) : t.find y = none := by
  cases e : t.find y with
  | none => rfl
  | some n => exact absurd (text_pre e) h
theorem cut_all {t : T} {x : Tx} (h : t.ok) (hx : x <+: t.text) : CutR (some t) x none (some (t.cutT x.length)) := by
  refine ⟨trivial, T.cutT_ok h _, fun y => ?_, fun y => ?_⟩
  · show none = if x <+: y then none else t.find y
    by_cases c : x <+: y
    · rw [if_pos c]
    · rw [if_neg c, find_pre_text fun z => c (hx.trans z)]
  · show (t.cutT x.length).find y = t.find (x ++ y)
    rw [T.find_cutT hx.length_le, ← List.prefix_iff_eq_take.mp hx]
theorem cut_no {t : T} {x : Tx} (h : t.ok) (hn : ∀ y n, t.find y = some n → ¬ x <+: y) : CutR (some t) x (some t) none := by
  refine ⟨h, trivial, fun y => ?_, fun y => ?_⟩
  · show t.find y = if x <+: y then none else t.find y
    by_cases c : x <+: y
    · rw [if_pos c]
      cases e : t.find y with
      | none => rfl
      | some n => exact absurd c (hn y n e)
    · rw [if_neg c]
  · show none = t.find (x ++ y)
    cases e : t.find (x ++ y) with
    | none => rfl
    | some n => exact absurd (List.prefix_append x y) (hn _ n e)
theorem cut_leaf {r x : Tx} {n : Int} (h : ¬ x <+: r) : CutR (some (.leaf r n)) x (some (.leaf r n)) none := cut_no trivial fun y m e => by
  rw [T.find_l] at e
  by_cases c : r = y
  · rw [← c]; exact h
  · rw [if_neg c] at e; cases e
theorem cut_off {s x : Tx} {b : B} (hk : (T.fork s b).ok) (h : ¬ x <+: s) (h2 : ¬ s <+: x) : CutR (some (.fork s b)) x (some (.fork s b)) none := cut_no hk fun y m e c => by
  rcases pre_comp (fork_pre e) c with q | q
  · exact h2 q
  · exact h q
/-- behind the text of the knot -/
theorem under_pre {s x y : Tx} (h : s <+: x) (hl : s.length < x.length) : x <+: y ↔ (s <+: y ∧ (y.drop s.length).take 1 = (x.drop s.length).take 1 ∧ (x.drop s.length).drop 1 <+: (y.drop s.length).drop 1) := by
  obtain ⟨m, rfl⟩ := h
  have hm : m ≠ [] := fun z => by rw [z] at hl; simp at hl
  obtain ⟨a, m, rfl⟩ := List.exists_cons_of_ne_nil hm
  rw [List.drop_left]
  constructor
  · rintro ⟨z, rfl⟩
    rw [List.append_assoc]
    refine ⟨List.prefix_append _ _, ?_, ?_⟩
    · rw [List.drop_left]; rfl
    · rw [List.drop_left]
      exact List.prefix_append m z
  · rintro ⟨⟨z, rfl⟩, h2, h3⟩
    rw [List.drop_left] at h2 h3
    cases z with
    | nil => cases h2
    | cons c z =>
      injection h2 with h2 _
      rw [h2]
      obtain ⟨u, hu⟩ := h3
      refine ⟨u, ?_⟩
      rw [List.append_assoc]
      show s ++ a :: (m ++ u) = s ++ a :: z
      rw [show m ++ u = z from hu]
theorem find_under {s x : Tx} {b : B} (h : s <+: x) (hl : s.length < x.length) (y : Tx) : (T.fork s b).find (x ++ y) = OT.find (b.look ((x.drop s.length).take 1)) ((x.drop s.length).drop 1 ++ y) := by
  obtain ⟨m, rfl⟩ := h
  have hm : m ≠ [] := fun z => by rw [z] at hl; simp at hl
  obtain ⟨a, m, rfl⟩ := List.exists_cons_of_ne_nil hm
  rw [T.find_fl, List.append_assoc, if_pos (List.prefix_append _ _), List.drop_left, List.drop_left]; rfl
theorem sign_ne {s x : Tx} (hl : s.length < x.length) : (x.drop s.length).take 1 ≠ [] := fun z => by
  have := congrArg List.length z
  rw [List.length_take, List.length_drop] at this
  simp at this; omega
theorem cut_in0 {s x : Tx} {b : B} {a' : OT} (hk : (T.fork s b).ok) (h : s <+: x) (hl : s.length < x.length) (c : CutR (b.look ((x.drop s.length).take 1)) ((x.drop s.length).drop 1) a' none) : CutR (some (.fork s b)) x (some (.fork s b)) none :=
  cut_no hk fun y m e q => by
    obtain ⟨z, rfl⟩ := q
    rw [find_under h hl, ← c.f2] at e
    cases e
theorem withB_one {b : B} {y : Tx} {t : OT} (h : b.ok) (h2 : 2 ≤ b.list.length) : 1 ≤ (withB b y t).list.length := by
  obtain ⟨p, hp, hne⟩ := len_two h2 ((B.ok_iff b).mp h).2 y
  exact List.length_pos_of_mem (withB_mem.mpr (.inl ⟨hp, hne⟩))
theorem cut_in1 {s x : Tx} {b : B} {a' b' : OT} (hk : (T.fork s b).ok) (h : s <+: x) (hl : s.length < x.length) (c : CutR (b.look ((x.drop s.length).take 1)) ((x.drop s.length).drop 1) a' b') :
    CutR (some (.fork s b)) x (some (knotB s (withB b ((x.drop s.length).take 1) a'))) b' ∧ (withB b ((x.drop s.length).take 1) a').ok := by
  have w1 := withB_one (y := (x.drop s.length).take 1) (t := a') hk.2 hk.1
  have wok : (withB b ((x.drop s.length).take 1) a').ok := withB_ok hk.2 (by rw [List.length_take]; omega) fun u hu => by
    have := c.ok1
    rw [hu] at this
    exact ⟨this, fun z => absurd z (sign_ne hl)⟩
  refine ⟨⟨knotB_ok wok w1, c.ok2, fun y => ?_, fun y => ?_⟩, wok⟩
  · show (knotB s _).find y = if x <+: y then none else (T.fork s b).find y
    rw [find_knotB wok w1, find_withB]
    by_cases q : s <+: y ∧ (y.drop s.length).take 1 = (x.drop s.length).take 1
    · rw [if_pos q, c.f1]
      by_cases r : (x.drop s.length).drop 1 <+: (y.drop s.length).drop 1
      · rw [if_pos r, if_pos ((under_pre h hl).mpr ⟨q.1, q.2, r⟩)]
      · rw [if_neg r, if_neg fun z => r ((under_pre h hl).mp z).2.2, T.find_fl, if_pos q.1, q.2]
    · rw [if_neg q, if_neg fun z => q ⟨((under_pre h hl).mp z).1, ((under_pre h hl).mp z).2.1⟩]
  · show OT.find b' y = (T.fork s b).find (x ++ y)
    rw [find_under h hl, c.f2]
theorem OT.len_h {t : OT} (h : OT.ok t) {y : Tx} {n : Int} (e : OT.find t y = some n) : y.length ≤ OT.h t := by
  cases t with
  | none => cases e
  | some t => exact T.len_h t y n ((T.mem_names t h y n).mpr e)
theorem CutR.h1 {t : OT} {x : Tx} {a b : OT} (c : CutR t x a b) (h : OT.ok t) : OT.h a ≤ OT.h t := OT.h_le c.ok1 fun y n e => by
  rw [c.f1] at e
  split at e
  · cases e
  · exact OT.len_h h e
end Rt

namespace Rt
open PySem L2
theorem take_eq_pre {x y : Tx} : y.take x.length = x ↔ x <+: y := by
  rw [List.prefix_iff_eq_take]; exact ⟨fun h => h.symm, fun h => h.symm⟩
/-- the rows that do not begin so, and those that do, without it -/
def stayR (rows : Rows) (x : Tx) : Rows := rows.filter (fun p => !decide (p.1.take x.length = x))
def goneR (rows : Rows) (x : Tx) : Rows := (rows.filter (fun p => decide (p.1.take x.length = x))).map (fun p => (p.1.drop x.length, p.2))
theorem goneR_srt {rows : Rows} (h : Srt rows) (x : Tx) : Srt (goneR rows x) := by
  unfold goneR Srt
  rw [List.pairwise_map]
  refine (srt_filter h _).imp_of_mem fun {p q} hp hq hlt => ?_
  obtain ⟨a, ha⟩ := take_eq_pre.mp (of_decide_eq_true (List.mem_filter.mp hp).2)
  obtain ⟨b, hb⟩ := take_eq_pre.mp (of_decide_eq_true (List.mem_filter.mp hq).2)
  show p.1.drop x.length < q.1.drop x.length
  rw [← ha, ← hb] at hlt
  rw [← ha, ← hb, List.drop_left, List.drop_left]
  exact (lt_app x).mp hlt
theorem goneR_mem {rows : Rows} {x y : Tx} {n : Int} : (y, n) ∈ goneR rows x ↔ (x ++ y, n) ∈ rows := by
  unfold goneR
  rw [List.mem_map]
  constructor
  · rintro ⟨p, hp, e⟩
    obtain ⟨m, hm⟩ := List.mem_filter.mp hp
    obtain ⟨a, ha⟩ := take_eq_pre.mp (of_decide_eq_true hm)
    injection e with e1 e2
    rw [← ha, List.drop_left] at e1
    rw [← e1, ← e2, ha]; exact m
  · intro h
    exact ⟨(x ++ y, n), List.mem_filter.mpr ⟨h, decide_eq_true (by rw [List.take_left])⟩, by show ((x ++ y).drop x.length, n) = _; rw [List.drop_left]⟩
theorem CutR.reps {rows : Rows} {t a b : OT} {x : Tx} (r : Rep rows t) (c : CutR t x a b) : Rep (stayR rows x) a ∧ Rep (goneR rows x) b := by
  refine ⟨Rep.of c.ok1 (srt_filter r.srt _) fun y n => ?_, Rep.of c.ok2 (goneR_srt r.srt x) fun y n => ?_⟩
  · unfold stayR
    rw [c.f1, List.mem_filter, ← r.find]
    by_cases q : x <+: y
    · rw [if_pos q]
      constructor
      · intro z; cases z
      · rintro ⟨_, z⟩
        rw [decide_eq_true (take_eq_pre.mpr q)] at z; cases z
    · rw [if_neg q]
      constructor
      · intro z; exact ⟨z, by rw [decide_eq_false (fun z => q (take_eq_pre.mp z))]; rfl⟩
      · exact fun z => z.1
  · rw [c.f2, goneR_mem, r.find]
theorem Good.stay {rows : Rows} (g : Good rows) (x : Tx) : Good (stayR rows x) :=
  ⟨srt_filter g.srt _, fun p m => g.ok p (List.mem_filter.mp m).1, fun p m => g.len p (List.mem_filter.mp m).1, Nat.le_trans (List.length_filter_le _ _) g.cnt, fun p m => g.num p (List.mem_filter.mp m).1⟩
theorem Good.gone {rows : Rows} (g : Good rows) (x : Tx) : Good (goneR rows x) := by
  refine ⟨goneR_srt g.srt x, fun p m => ?_, fun p m => ?_, ?_, fun p m => ?_⟩
  · have := g.ok _ (goneR_mem.mp (show (p.1, p.2) ∈ goneR rows x from m))
    exact (okT_of_app this).2
  · have := g.len _ (goneR_mem.mp (show (p.1, p.2) ∈ goneR rows x from m))
    have h : (x ++ p.1).length ≤ 40 := this
    rw [List.length_append] at h; omega
  · unfold goneR
    rw [List.length_map]
    exact Nat.le_trans (List.length_filter_le _ _) g.cnt
  · exact g.num (x ++ p.1, p.2) (goneR_mem.mp (show (p.1, p.2) ∈ goneR rows x from m))
end Rt

namespace Rt
open PySem L2
def namesL (s : Tx) (l : List (Tx × T)) : Rows := l.flatMap fun p => p.2.names.map fun q => (s ++ p.1 ++ q.1, q.2)
theorem B.names_flat (s : Tx) : ∀ b : B, b.names s = namesL s b.list
  | .nil => rfl
  | .cons c t r => by unfold B.names; rw [B.names_flat s r]; rfl
theorem namesL_app (s : Tx) (l m : List (Tx × T)) : namesL s (l ++ m) = namesL s l ++ namesL s m := List.flatMap_append ..
theorem namesL_cons (s c : Tx) (t : T) (l : List (Tx × T)) : namesL s ((c, t) :: l) = t.names.map (fun q => (s ++ c ++ q.1, q.2)) ++ namesL s l := rfl
structure Ok1 (p : Tx × T) : Prop where
  len : p.1.length ≤ 1
  ok : p.2.ok
  nil : p.1 = [] → ∃ n, p.2 = .leaf [] n
theorem Ok1.nm {p : Tx × T} (h : Ok1 p) {x : Tx} {n : Int} (m : (x, n) ∈ p.2.names) : p.1 = [] → x = [] := fun e => by
  obtain ⟨k, hk⟩ := h.nil e
  rw [hk] at m
  have : (x, n) = (([] : Tx), k) := List.mem_singleton.mp m
  injection this
theorem B.ok1 {b : B} (h : b.ok) : ∀ p ∈ b.list, Ok1 p := fun p hp => by
  obtain ⟨h1, h2, h3⟩ := ((B.ok_iff b).mp h).1 p hp
  exact ⟨h1, h2, h3⟩
theorem sign_of {s c x : Tx} (hc : c.length ≤ 1) (hx : c = [] → x = []) : ((s ++ c ++ x).drop s.length).take 1 = c ∧ (s ++ c ++ x).drop (s.length + 1) = x := by
  rw [← List.drop_drop, List.append_assoc, List.drop_left]
  match c, hc, hx with
  | [], _, hx => rw [hx rfl]; exact ⟨rfl, rfl⟩
  | [a], _, _ => exact ⟨rfl, rfl⟩
  | _ :: _ :: _, h, _ => exact absurd h (by simp)
def sgn (k : Nat) (c : Tx) (q : Tx × Int) : Bool := decide ((q.1.drop k).take 1 = c)
theorem filt_ne {s c : Tx} {l : List (Tx × T)} (h : ∀ p ∈ l, Ok1 p) (hn : ∀ p ∈ l, p.1 ≠ c) : (namesL s l).filter (sgn s.length c) = [] :=
  List.filter_eq_nil_iff.mpr fun q hq => by
    obtain ⟨p, hp, hq⟩ := List.mem_flatMap.mp hq
    obtain ⟨z, hz, rfl⟩ := List.mem_map.mp hq
    unfold sgn
    rw [(sign_of (s := s) (h p hp).len ((h p hp).nm hz)).1]
    simp [hn p hp]
theorem filt_mid {s c : Tx} {t : T} {l m : List (Tx × T)} (h : ∀ p ∈ l ++ (c, t) :: m, Ok1 p) (hd : (l ++ (c, t) :: m).Pairwise fun p q => p.1 < q.1) :
    ((namesL s (l ++ (c, t) :: m)).filter (sgn s.length c)).map (fun q => (q.1.drop (s.length + 1), q.2)) = t.names := by
  obtain ⟨d1, d2, d3⟩ := List.pairwise_append.mp hd
  have d2' := List.pairwise_cons.mp d2
  have k := h (c, t) (List.mem_append_right _ List.mem_cons_self)
  rw [namesL_app, namesL_cons, List.filter_append, List.filter_append, filt_ne (fun p hp => h p (List.mem_append_left _ hp)) (fun p hp => lt_ne (d3 p hp (c, t) List.mem_cons_self)),
    filt_ne (fun p hp => h p (List.mem_append_right _ (List.mem_cons_of_mem _ hp))) (fun p hp => (lt_ne (d2'.1 p hp)).symm), List.nil_append, List.append_nil]
  rw [List.filter_eq_self.mpr, List.map_map]
  · refine (List.map_congr_left fun q hq => ?_).trans (List.map_id _)
    show ((s ++ c ++ q.1).drop (s.length + 1), q.2) = q
    rw [(sign_of (s := s) k.len (k.nm hq)).2]
  · intro q hq
    obtain ⟨z, hz, rfl⟩ := List.mem_map.mp hq
    unfold sgn
    rw [(sign_of (s := s) k.len (k.nm hz)).1]
    exact decide_eq_true rfl
/-! the ends of a knot's names -/
theorem com_app : ∀ (s x y : Tx), comL (s ++ x) (s ++ y) = s ++ comL x y
  | [], _, _ => rfl
  | a :: s, x, y => by
    show (if a = a then a :: comL (s ++ x) (s ++ y) else []) = _
    rw [if_pos rfl, com_app s x y]; rfl
theorem com_signs {c c' m m' : Tx} (hc : c.length ≤ 1) (hc' : c'.length ≤ 1) (hne : c ≠ c') (hm : c = [] → m = []) (hm' : c' = [] → m' = []) : comL (c ++ m) (c' ++ m') = [] := by
  match c, c', hc, hc', hne, hm, hm' with
  | [], [], _, _, hne, _, _ => exact absurd rfl hne
  | [], _, _, _, _, hm, _ => rw [hm rfl]; rfl
  | [a], [], _, _, _, _, hm' => rw [hm' rfl]; rfl
  | [a], [b], _, _, hne, _, _ =>
    show (if a = b then _ else []) = _
    rw [if_neg fun e => hne (by rw [e])]
  | _ :: _ :: _, _, h, _, _, _, _ => exact absurd h (by simp)
  | _, _ :: _ :: _, _, h, _, _, _ => exact absurd h (by simp)
theorem T.names_ne {t : T} (h : t.ok) : t.names ≠ [] := fun e => by
  obtain ⟨x, n, hx⟩ := T.some_name t h
  have := (T.mem_names t h x n).mpr hx
  rw [e] at this; cases this
theorem T.names_head {t : T} (h : t.ok) : ∃ q r, t.names = q :: r := by
  cases e : t.names with
  | nil => exact absurd e (T.names_ne h)
  | cons q r => exact ⟨q, r, rfl⟩
theorem T.names_last {t : T} (h : t.ok) : ∃ q r, t.names = r ++ [q] := by
  rcases List.eq_nil_or_concat t.names with e | ⟨r, q, e⟩
  · exact absurd e (T.names_ne h)
  · exact ⟨q, r, by rw [e, List.concat_eq_append]⟩
theorem T.fork_ends {s : Tx} {b : B} (h : (T.fork s b).ok) : ∃ p q, (b.names s)[0]? = some p ∧ (∃ r, b.names s = r ++ [q]) ∧ comL p.1 q.1 = s ∧ 2 ≤ (b.names s).length := by
  have hb := ((B.ok_iff b).mp h.2)
  have k := B.ok1 h.2
  rw [B.names_flat]
  have l2 : 2 ≤ b.list.length := h.1
  rcases List.eq_nil_or_concat b.list with e | ⟨l, p, e⟩
  · rw [e] at l2; exact absurd l2 (by simp)
  rw [List.concat_eq_append] at e
  cases l with
  | nil => rw [e] at l2; exact absurd l2 (by simp)
  | cons o l =>
    have ko := k o (by rw [e]; exact List.mem_cons_self)
    have kp := k p (by rw [e]; exact List.mem_append_right _ List.mem_cons_self)
    have hlt : o.1 < p.1 := by
      have := hb.2
      rw [e] at this
      exact (List.pairwise_cons.mp this).1 p (List.mem_append_right _ List.mem_cons_self)
    obtain ⟨x, rx, hx⟩ := T.names_head ko.ok
    obtain ⟨y, ry, hy⟩ := T.names_last kp.ok
    have mx : (x.1, x.2) ∈ o.2.names := by rw [hx]; exact List.mem_cons_self
    have my : (y.1, y.2) ∈ p.2.names := by rw [hy]; exact List.mem_append_right _ List.mem_cons_self
    have en : namesL s b.list = (s ++ o.1 ++ x.1, x.2) :: ((rx.map fun q => (s ++ o.1 ++ q.1, q.2)) ++ namesL s l ++ ry.map fun q => (s ++ p.1 ++ q.1, q.2)) ++ [(s ++ p.1 ++ y.1, y.2)] := by
      rw [e, List.cons_append]
      show namesL s ((o.1, o.2) :: (l ++ [(p.1, p.2)])) = _
      rw [namesL_cons, namesL_app, namesL_cons, hx, hy]
      simp [namesL]
    refine ⟨(s ++ o.1 ++ x.1, x.2), (s ++ p.1 ++ y.1, y.2), by rw [en]; rfl, ⟨_, en⟩, ?_, ?_⟩
    · show comL (s ++ o.1 ++ x.1) (s ++ p.1 ++ y.1) = s
      rw [List.append_assoc, List.append_assoc, com_app, com_signs ko.len kp.len (lt_ne hlt) (ko.nm mx) (kp.nm my), List.append_nil]
    · rw [en, List.length_append, List.length_cons]
      show 2 ≤ _ + 1 + 1
      omega
/-- the i-th branch of a knot among its names -/
theorem branch_at {s c : Tx} {t : T} {l : List (Tx × T)} {i : Nat} (h : l[i]? = some (c, t)) (hk : ∀ p ∈ l, Ok1 p) (hd : l.Pairwise fun p q => p.1 < q.1) :
    (∃ x n, (namesL s l)[(namesL s (l.take i)).length]? = some (x, n) ∧ (x.drop s.length).take 1 = c) ∧ ((namesL s l).filter (sgn s.length c)).map (fun q => (q.1.drop (s.length + 1), q.2)) = t.names ∧
    (namesL s (l.take (i + 1))).length = (namesL s (l.take i)).length + t.names.length ∧ (namesL s (l.take (i + 1))).length ≤ (namesL s l).length ∧ 0 < t.names.length := by
  obtain ⟨hi, he⟩ := List.getElem?_eq_some_iff.mp h
  have e : l = l.take i ++ (c, t) :: l.drop (i + 1) := by
    rw [← he, List.getElem_cons_drop, List.take_append_drop]
  have e1 : l.take (i + 1) = l.take i ++ [(c, t)] := by rw [List.take_add_one, h]; rfl
  have k := hk (c, t) (List.mem_of_getElem? h)
  obtain ⟨q, r, hq⟩ := T.names_head k.ok
  have mq : (q.1, q.2) ∈ t.names := by
    have : (q.1, q.2) ∈ (c, t).2.names := by rw [show (c, t).2.names = q :: r from hq]; exact List.mem_cons_self
    exact this
  have en : namesL s l = namesL s (l.take i) ++ (t.names.map (fun q => (s ++ c ++ q.1, q.2)) ++ namesL s (l.drop (i + 1))) := by
    rw [← namesL_cons, ← namesL_app, ← e]
  refine ⟨⟨s ++ c ++ q.1, q.2, ?_, (sign_of k.len (k.nm mq)).1⟩, ?_, ?_, ?_, ?_⟩
  · rw [en, List.getElem?_append_right (Nat.le_refl _), Nat.sub_self, show t.names = q :: r from hq]; rfl
  · have := filt_mid (s := s) (c := c) (t := t) (l := l.take i) (m := l.drop (i + 1)) (by rw [← e]; exact hk) (by rw [← e]; exact hd)
    rw [← e] at this
    exact this
  · rw [e1, namesL_app, List.length_append, namesL_cons, List.length_append, List.length_map]; rfl
  · rw [en, e1, namesL_app, List.length_append, List.length_append, namesL_cons, List.length_append, List.length_append]
    show _ + (_ + 0) ≤ _
    omega
  · rw [show t.names = q :: r from hq]; exact Nat.zero_lt_succ _
theorem atI_last {α : Type} {l r : List α} {x : α} (h : l = r ++ [x]) : atI l (-1) = some x := by
  have hl : l.length = r.length + 1 := by rw [h, List.length_append]; rfl
  unfold atI ixN
  rw [if_neg (by decide), if_pos (by omega), hl]
  show l[((-1 : Int) + ((r.length + 1 : Nat) : Int)).toNat]? = some x
  rw [show ((-1 : Int) + ((r.length + 1 : Nat) : Int)).toNat = r.length by omega, h, List.getElem?_append_right (Nat.le_refl _), Nat.sub_self]; rfl
end Rt

namespace Rt
open PySem L2
def belowR (rows : Rows) (x : Tx) : Rows := rows.filter (fun p => decide (p.1.take x.length = x))
theorem gone_back (rows : Rows) (x : Tx) : (goneR rows x).map (fun p => (x ++ p.1, p.2)) = belowR rows x := by
  unfold goneR belowR
  rw [List.map_map]
  refine (List.map_congr_left fun p hp => ?_).trans (List.map_id _)
  have h := of_decide_eq_true (List.mem_filter.mp hp).2
  have e : x ++ p.1.drop x.length = p.1 := by
    have q := List.take_append_drop x.length p.1
    rw [h] at q; exact q
  show (x ++ p.1.drop x.length, p.2) = p
  rw [e]
theorem belowR_len (rows : Rows) (x : Tx) : (belowR rows x).length ≤ rows.length := List.length_filter_le _ _
theorem goneR_len (rows : Rows) (x : Tx) : (goneR rows x).length ≤ rows.length := by
  unfold goneR; rw [List.length_map]; exact List.length_filter_le _ _
theorem CutR.tb {N : Nat} {t a b : OT} {x : Tx} (ht : Tb N t) (c : CutR t x a b) : Tb N a ∧ Tb N b := by
  have rep : Rep (OT.names t) t := ⟨ht.ok, rfl⟩
  obtain ⟨ra, rb⟩ := c.reps rep
  have lb : OT.h b ≤ OT.h t := OT.h_le rb.1 fun y n e => by
    have h := (rb.find y n).mp e
    have h2 := OT.len_h ht.ok ((rep.find _ _).mpr (goneR_mem.mp h))
    rw [List.length_append] at h2; omega
  have la := c.h1 ht.ok
  have hh := ht.h
  have hc := ht.cnt
  have n1 : (OT.names a).length ≤ (OT.names t).length := by rw [ra.2]; exact List.length_filter_le _ _
  have n2 : (OT.names b).length ≤ (OT.names t).length := by rw [rb.2]; exact goneR_len _ _
  have hs : ∀ u : OT, OT.h u ≤ OT.h t → (OT.names u).length ≤ (OT.names t).length → OT.ok u → OT.hs u ≤ OT.hs t := fun u h1 h2 h3 => by
    cases u with
    | none => exact Nat.zero_le _
    | some u =>
      cases t with
      | none =>
        have h4 : u.names.length ≤ 0 := h2
        exact absurd (List.eq_nil_of_length_eq_zero (by omega)) (T.names_ne h3)
      | some t => exact Nat.succ_le_succ h1
  exact ⟨⟨ra.1, Nat.lt_of_le_of_lt (hs a la n1 ra.1) hh, by omega⟩, ⟨rb.1, Nat.lt_of_le_of_lt (hs b lb n2 rb.1) hh, by omega⟩⟩
/-! what comes next -/
def dedF (a : List Tx) : List Tx → List Tx
  | [] => a
  | x :: l => dedF (if x ∈ a then a else a ++ [x]) l
theorem dedF_app : ∀ (a l m : List Tx), dedF a (l ++ m) = dedF (dedF a l) m
  | a, [], m => rfl
  | a, x :: l, m => dedF_app _ l m
theorem dedF_in : ∀ {a l : List Tx} {c : Tx}, (∀ x ∈ l, x = c) → c ∈ a → dedF a l = a
  | a, [], c, _, _ => rfl
  | a, x :: l, c, h, hc => by
    have e := h x List.mem_cons_self
    unfold dedF
    rw [e, if_pos hc]
    exact dedF_in (fun y hy => h y (List.mem_cons_of_mem _ hy)) hc
theorem dedF_const {a l : List Tx} {c : Tx} (h : ∀ x ∈ l, x = c) (hn : l ≠ []) (hc : c ∉ a) : dedF a l = a ++ [c] := by
  cases l with
  | nil => exact absurd rfl hn
  | cons x l =>
    have e := h x List.mem_cons_self
    unfold dedF
    rw [e, if_neg hc]
    exact dedF_in (fun y hy => h y (List.mem_cons_of_mem _ hy)) (List.mem_append_right _ List.mem_cons_self)
theorem dedF_names : ∀ (l : List (Tx × T)) (a : List Tx), (∀ p ∈ l, Ok1 p) → l.Pairwise (fun p q => p.1 < q.1) → (∀ p ∈ l, p.1 ∉ a) → dedF a ((namesL [] l).map fun p => p.1.take 1) = a ++ l.map (·.1)
  | [], a, _, _, _ => by simp [namesL, dedF]
  | (c, t) :: l, a, hk, hd, ha => by
    have k1 := hk (c, t) List.mem_cons_self
    obtain ⟨d1, d2⟩ := List.pairwise_cons.mp hd
    rw [namesL_cons, List.map_append, dedF_app, dedF_const (c := c) (fun x hx => ?_) (fun z => ?_) (ha (c, t) List.mem_cons_self)]
    · rw [dedF_names l (a ++ [c]) (fun p hp => hk p (List.mem_cons_of_mem _ hp)) d2 fun p hp z => ?_]
      · simp
      · rcases List.mem_append.mp z with z | z
        · exact ha p (List.mem_cons_of_mem _ hp) z
        · have := d1 p hp
          rw [List.mem_singleton.mp z] at this
          exact lt_ne this rfl
    · obtain ⟨p, hp, rfl⟩ := List.mem_map.mp hx
      obtain ⟨q, hq, rfl⟩ := List.mem_map.mp hp
      have := (sign_of (s := []) (c := c) (x := q.1) k1.len (k1.nm (x := q.1) (n := q.2) hq)).1
      simpa using this
    · rw [List.map_eq_nil_iff, List.map_eq_nil_iff] at z
      exact T.names_ne k1.ok z
def nextT : OT → List Tx
  | none => []
  | some (.leaf r _) => [r.take 1]
  | some (.fork s b) => if s = [] then b.signs else [s.take 1]
theorem nextT_is {t : OT} (h : OT.ok t) : dedF [] ((OT.names t).map fun p => p.1.take 1) = nextT t := by
  cases t with
  | none => rfl
  | some t =>
    cases t with
    | leaf r n => rfl
    | fork s b =>
      have hk : (T.fork s b).ok := h
      show dedF [] ((b.names s).map _) = (if s = [] then b.signs else [s.take 1])
      rw [B.names_flat]
      by_cases e : s = []
      · rw [if_pos e, e, dedF_names b.list [] (B.ok1 hk.2) ((B.ok_iff b).mp hk.2).2 (fun p _ z => by cases z)]
        rfl
      · rw [if_neg e]
        refine dedF_const (fun x hx => ?_) (fun z => ?_) (fun z => by cases z)
        · obtain ⟨p, hp, rfl⟩ := List.mem_map.mp hx
          rw [← B.names_flat] at hp
          obtain ⟨c, t, m, _, _, e2⟩ := B.mem_names.mp hp
          rw [e2, List.append_assoc]
          cases s with
          | nil => exact absurd rfl e
          | cons a r => rfl
        · rw [List.map_eq_nil_iff, ← B.names_flat] at z
          exact T.names_ne (t := .fork s b) hk z
theorem next_below {rows : Rows} {x : Tx} {b : OT} (rb : Rep (goneR rows x) b) : dedF [] ((belowR rows x).map fun p => (p.1.drop x.length).take 1) = nextT b := by
  rw [← nextT_is rb.1, rb.2, ← gone_back, List.map_map]
  congr 2
  funext p
  show ((x ++ p.1).drop x.length).take 1 = p.1.take 1
  rw [List.drop_left]
/-! what all begin with -/
theorem com_self : ∀ a : Tx, comL a a = a
  | [] => rfl
  | a :: r => by unfold comL; rw [if_pos rfl, com_self r]
theorem T.com_ends {t : T} (h : t.ok) : ∃ p q, t.names[0]? = some p ∧ (∃ r, t.names = r ++ [q]) ∧ comL p.1 q.1 = t.text := by
  cases t with
  | leaf r n => exact ⟨(r, n), (r, n), rfl, ⟨[], rfl⟩, com_self r⟩
  | fork s b =>
    obtain ⟨p, q, h1, h2, h3, _⟩ := T.fork_ends (s := s) (b := b) h
    exact ⟨p, q, h1, h2, h3⟩
theorem below_ends {rows : Rows} {x : Tx} {u : T} (rb : Rep (goneR rows x) (some u)) : ∃ p q, (belowR rows x)[0]? = some p ∧ (∃ r, belowR rows x = r ++ [q]) ∧ comL p.1 q.1 = x ++ u.text := by
  obtain ⟨p, q, h1, ⟨r, h2⟩, h3⟩ := T.com_ends (t := u) rb.1
  have e : u.names = goneR rows x := rb.2
  rw [e] at h1 h2
  refine ⟨(x ++ p.1, p.2), (x ++ q.1, q.2), ?_, ⟨r.map (fun p => (x ++ p.1, p.2)), ?_⟩, ?_⟩
  · rw [← gone_back, List.getElem?_map, h1]; rfl
  · rw [← gone_back, h2, List.map_append]; rfl
  · show comL (x ++ p.1) (x ++ q.1) = _
    rw [com_app, h3]
theorem below_none {rows : Rows} {x : Tx} (rb : Rep (goneR rows x) none) : belowR rows x = [] := by
  rw [← gone_back, ← rb.2]; rfl
/-! the longest kept beginning -/
structure Bst (f : Tx → Option Int) (X : Tx) (n : Nat) (o : Option Tx) : Prop where
  sm : ∀ y, o = some y → y <+: X ∧ f y ≠ none ∧ y.length < n ∧ ∀ z, z <+: X → f z ≠ none → z.length < n → z.length ≤ y.length
  nn : o = none → ∀ z, z <+: X → f z ≠ none → ¬ z.length < n
theorem Bst.zero (f : Tx → Option Int) (X : Tx) : Bst f X 0 none := ⟨fun y h => (by cases h), fun _ z _ _ h => (by omega)⟩
theorem Bst.more {f : Tx → Option Int} {X : Tx} {n m : Nat} {o : Option Tx} (b : Bst f X n o) (h : ∀ z, z <+: X → f z ≠ none → z.length < m → z.length < n) (hm : n ≤ m) : Bst f X m o :=
  ⟨fun y e => by
    obtain ⟨h1, h2, h3, h4⟩ := b.sm y e
    exact ⟨h1, h2, by omega, fun z p q l => h4 z p q (h z p q l)⟩, fun e z p q l => b.nn e z p q (h z p q l)⟩
theorem Bst.take {f : Tx → Option Int} {X y : Tx} (h1 : y <+: X) (h2 : f y ≠ none) : Bst f X (y.length + 1) (some y) :=
  ⟨fun z e => (by cases e; exact ⟨h1, h2, by omega, fun z _ _ l => by omega⟩), fun e => (by cases e)⟩
theorem pre_len {a b X : Tx} (h1 : a <+: X) (h2 : b <+: X) (h : a.length = b.length) : a = b := by
  rw [List.prefix_iff_eq_take.mp h1, List.prefix_iff_eq_take.mp h2, h]
theorem Bst.uniq {f : Tx → Option Int} {X : Tx} {n : Nat} {o o' : Option Tx} (b : Bst f X n o) (b' : Bst f X n o') : o = o' := by
  cases o with
  | none =>
    cases o' with
    | none => rfl
    | some y =>
      obtain ⟨h1, h2, h3, _⟩ := b'.sm y rfl
      exact absurd h3 (b.nn rfl y h1 h2)
  | some y =>
    obtain ⟨h1, h2, h3, h4⟩ := b.sm y rfl
    cases o' with
    | none => exact absurd h3 (b'.nn rfl y h1 h2)
    | some z =>
      obtain ⟨k1, k2, k3, k4⟩ := b'.sm z rfl
      have l1 := h4 z k1 k2 k3
      have l2 := k4 y h1 h2 h3
      rw [pre_len h1 k1 (by omega)]
def lastO : List Tx → Option Tx
  | [] => none
  | [x] => some x
  | _ :: x :: l => lastO (x :: l)
theorem lastO_is : ∀ {l : List Tx}, l.Pairwise (· < ·) → ∀ y, lastO l = some y → y ∈ l ∧ ∀ z ∈ l, z < y ∨ z = y
  | [], _, y, h => by cases h
  | [x], _, y, h => by
    cases h
    exact ⟨List.mem_cons_self, fun z hz => .inr (List.mem_singleton.mp hz)⟩
  | x :: x' :: l, hp, y, h => by
    obtain ⟨h1, h2⟩ := List.pairwise_cons.mp hp
    obtain ⟨k1, k2⟩ := lastO_is h2 y h
    refine ⟨List.mem_cons_of_mem _ k1, fun z hz => ?_⟩
    rcases List.mem_cons.mp hz with rfl | hz
    · exact .inl (h1 y k1)
    · exact k2 z hz
theorem lastO_none : ∀ {l : List Tx}, lastO l = none → l = []
  | [], _ => rfl
  | [x], h => by cases h
  | x :: x' :: l, h => by have := lastO_none (l := x' :: l) h; cases this
theorem pre_lt {a b : Tx} (h : a <+: b) : a < b ∨ a = b := by
  rcases lt_tot a b with q | q | q
  · exact .inl q
  · exact .inr q
  · exfalso
    obtain ⟨r, rfl⟩ := h
    induction a with
    | nil => cases r <;> cases q
    | cons x a ih =>
      cases q with
      | rel h => exact absurd h (Nat.lt_irrefl _)
      | cons h => exact ih h
/-- the rows' names with which a text begins; the last one is the longest -/
def aheadOf (rows : Rows) (X : Tx) : List Tx := (rows.filter (fun p => decide (X.take p.1.length = p.1))).map (·.1)
theorem aheadOf_bst {rows : Rows} {t : OT} (rep : Rep rows t) (hs : Srt rows) (X : Tx) : Bst (OT.find t) X (X.length + 1) (lastO (aheadOf rows X)) := by
  have hp : (aheadOf rows X).Pairwise (· < ·) := List.pairwise_map.mpr (List.Pairwise.filter _ hs)
  have mem : ∀ z, z ∈ aheadOf rows X ↔ z <+: X ∧ OT.find t z ≠ none := fun z => by
    unfold aheadOf
    rw [List.mem_map]
    constructor
    · rintro ⟨p, hp, rfl⟩
      obtain ⟨h1, h2⟩ := List.mem_filter.mp hp
      have h3 := of_decide_eq_true h2
      exact ⟨by rw [← h3]; exact List.take_prefix _ _, fun e => by
        have := (rep.find p.1 p.2).mpr h1
        rw [e] at this; cases this⟩
    · rintro ⟨h1, h2⟩
      obtain ⟨n, hn⟩ := Option.ne_none_iff_exists'.mp h2
      exact ⟨(z, n), List.mem_filter.mpr ⟨(rep.find z n).mp hn, decide_eq_true (List.prefix_iff_eq_take.mp h1).symm⟩, rfl⟩
  refine ⟨fun y e => ?_, fun e z h1 h2 => ?_⟩
  · obtain ⟨k1, k2⟩ := lastO_is hp y e
    obtain ⟨m1, m2⟩ := (mem y).mp k1
    refine ⟨m1, m2, by have := m1.length_le; omega, fun z h1 h2 _ => ?_⟩
    rcases Nat.lt_or_ge y.length z.length with q | q
    · have hyz : y <+: z := by
        rw [List.prefix_iff_eq_take.mp m1, List.prefix_iff_eq_take.mp h1]
        exact List.take_prefix_take_left (by omega)
      rcases k2 z ((mem z).mpr ⟨h1, h2⟩) with r | r
      · rcases pre_lt hyz with s | s
        · exact absurd (lt_tr r s) (lt_irr _)
        · rw [s]; exact Nat.le_refl _
      · rw [r]; exact Nat.le_refl _
    · exact q
  · have := (mem z).mpr ⟨h1, h2⟩
    rw [lastO_none e] at this; cases this
end Rt

namespace Rt
open PySem PySem.Spec PyProof.Rows L2
section
variable {P : Program} {w : World} {K : PySem.W.Frag} {mg : Str → Option Value} {base : Heap}
theorem dts_strs {H : Hp} : ∀ {ys : List Tx} {vs : List V}, Dts K H (ys.map D.str) vs → vs = ys.map fun y => V.str (S y)
  | [], vs, h => h
  | y :: ys, vs, ⟨v, r, h1, h2, h3⟩ => by rw [h1, dts_strs h3, show v = V.str (S y) from h2]; rfl
theorem flat_strs (ys : List Tx) : (ys.map fun y => V.str (S y)).all flatV = true := by
  rw [List.all_map]; exact List.all_eq_true.mpr fun _ _ => rfl
theorem inV_strs (x : Tx) : ∀ ys : List Tx, inV (V.str (S x)) (ys.map fun y => V.str (S y)) = decide (x ∈ ys)
  | [] => rfl
  | y :: ys => by
    show (eqV (V.str (S y)) (V.str (S x)) || inV (V.str (S x)) (ys.map fun y => V.str (S y))) = _
    rw [inV_strs x ys]
    have q : eqV (V.str (S y)) (V.str (S x)) = decide (x = y) := by
      show (S y == S x) = _
      by_cases e : x = y
      · rw [decide_eq_true e, e]; exact beq_self_eq_true _
      · rw [decide_eq_false e]; exact beq_eq_false_iff_ne.mpr fun z => e (S_inj z).symm
    rw [q, ← Bool.decide_or]
    exact decide_eq_decide.mpr List.mem_cons.symm
theorem ev_inS {σ : L2.St} {H : Hp} {ta tb : TE} {x : Tx} {ys : List Tx} (ha : Ev K ta σ H (.str x)) (hb : Ev K tb σ H (.lst (ys.map D.str))) : Ev K (tOp (rIn K false) ta tb) σ H (.bl (decide (x ∈ ys))) :=
  ev_op ha hb fun v w H1 _ hv ⟨a, vs, h1, h2, h3⟩ Q q => ⟨a, vs, h1, .inl (SqL.of h2), by rw [show v = V.str (S x) from hv]; rfl, by rw [dts_strs h3]; exact flat_strs ys, q _ _ (Same.refl _) (by rw [show v = V.str (S x) from hv, dts_strs h3, inV_strs]; rfl)⟩
theorem ev_notInS {σ : L2.St} {H : Hp} {ta tb : TE} {x : Tx} {ys : List Tx} (ha : Ev K ta σ H (.str x)) (hb : Ev K tb σ H (.lst (ys.map D.str))) : Ev K (tOp (rIn K true) ta tb) σ H (.bl (!decide (x ∈ ys))) :=
  ev_op ha hb fun v w H1 _ hv ⟨a, vs, h1, h2, h3⟩ Q q => ⟨a, vs, h1, .inl (SqL.of h2), by rw [show v = V.str (S x) from hv]; rfl, by rw [dts_strs h3]; exact flat_strs ys, q _ _ (Same.refl _) (by rw [show v = V.str (S x) from hv, dts_strs h3, inV_strs]; rfl)⟩
/-- a list at a known address that is not l -/
theorem ev_rawL {σ : L2.St} {H : Hp} {te : TE} {a l : Addr} {vs : List V} {xs : List D} (h : Ev K te σ H (.raw (.ref a))) (ha : H a = some (.lst vs)) (hd : Dts K H xs vs) (ne : a ≠ l) : EvP te σ H (fun v H1 => ∃ a vs, v = .ref a ∧ a ≠ l ∧ H1 a = some (.lst vs) ∧ Dts K H1 xs vs) := fun H1 s1 Q q =>
  h H1 s1 Q fun v H2 s2 hv => q v H2 s2 ⟨a, vs, hv, ne, (s1.trans s2) _ _ ha, Dts.mono (s1.trans s2) _ hd⟩
def optS : Option Tx → D
  | none => .non
  | some x => .str x
theorem optS_non (o : Option Tx) : (optS o).isNon = o.isNone := by cases o <;> rfl
/-- a new local list; the slots stand behind as they were but for its own -/
theorem q_asgNs {σ : L2.St} {H : Hp} {te : TE} {i : Nat} {es : List D} {E : Ends} {tu : TS} (h : EvN K te σ H es) (k : ∀ p vs H', H p = none → Same H H' → H' p = some (.lst vs) → Dts K H' es vs → tu E (σ.set i (some (.ref p))) H') : tSeq (tAsg te (gName i)) tu E σ H :=
  h H (Same.refl H) _ fun p vs H1 hp e h1 h2 => k p vs H1 hp e h1 h2
theorem strs_imm (l : List Tx) : D.imms (l.map D.str) = true := D.imms_map fun _ _ => rfl
theorem q_drop {σ : L2.St} {H : Hp} {te : TE} {d : D} {E : Ends} {tv : TS} (h : Ev K te σ H d) (k : ∀ H', Same H H' → tv E σ H') : tSeq (tDrop te) tv E σ H := s_drop (E := { E with nx := tv E }) h k
theorem q_app {σ : L2.St} {H : Hp} {ta te : TE} {d : D} {E : Ends} {tv : TS} {l : Addr} {vs : List V} {es : List D} (hl : H l = some (.lst vs)) (hd : Dts K H es vs) (hi : D.imms es = true) (ha : Ev K ta σ H (.raw (.ref l))) (h : Ev K te σ H d) (hdi : d.imm = true) (hz : es.length < 100000)
    (k : ∀ ws H', Chg l H H' → H' l = some (.lst ws) → Dts K H' (es ++ [d]) ws → tv E σ H') : tSeq (tDrop (tBM K "list" rAppend ta (tCons te tNil))) tv E σ H := s_app (E := { E with nx := tv E }) hl hd hi ha h hdi hz k
end
end Rt

namespace Rt
open PySem PySem.Spec PyProof.Rows L2
section
variable {P : Program} {w : World} {K : PySem.W.Frag} {mg : Str → Option Value} {base : Heap}
theorem rows_gd {rows : Rows} (h : ∀ p ∈ rows, okT p.1) : (D.lst (rows.map rowD)).gd 2 := fun d m => by
  obtain ⟨p, hp, rfl⟩ := List.mem_map.mp m
  intro e he
  rcases List.mem_cons.mp he with rfl | he
  · exact okT_cps (h p hp)
  · rcases List.mem_cons.mp he with rfl | he
    · trivial
    · cases he
theorem map_isEmpty {α β : Type} (f : α → β) (l : List α) : (l.map f).isEmpty = l.isEmpty := by cases l <;> rfl
theorem filt_all {α : Type} (l : List α) : l.filter (fun _ => true) = l := List.filter_eq_self.mpr fun _ _ => rfl
theorem isE {α : Type} {l : List α} : l.isEmpty = true ↔ l = [] := by cases l <;> simp
theorem ev_old {σ : L2.St} {H : Hp} {rows : Rows} {ta tb : TE} {i : Int} (hne : rows ≠ []) (ha : Ev K ta σ H (.lst (rows.map rowD))) (hb : Ev K tb σ H (.int i)) : Ev K (tOp (rIxT K) (tOp (rIxL K) ta (tOp (rI (fun _ j => 0 < j) fun i j => .int (i % j)) tb (tCB (fun xs H Q => ∃ p ys, xs = [.ref p] ∧ (SqL K H p ys ∨ SqT K H p ys) ∧ Q (.int ys.length) H) (tCons ta tNil)))) (tC (.int 0))) σ H (.str (oldN rows i)) := by
  have hl : 0 < rows.length := List.length_pos_iff.mpr hne
  have h1 := Int.emod_nonneg i (show (rows.length : Int) ≠ 0 by omega)
  have h2 := oldN_at (i := i) hne
  have h3 : atI (rows.map rowD) (i % ((rows.map rowD).length : Int)) = some (rowD (oldN rows i, (rows.getD (i % (rows.length : Int)).toNat ([], 0)).2)) := by
    rw [List.length_map]
    have := atI_nat (xs := rows.map rowD) (j := (i % (rows.length : Int)).toNat) (by rw [List.getElem?_map, h2]; rfl)
    rw [show (((i % (rows.length : Int)).toNat : Nat) : Int) = i % (rows.length : Int) by omega] at this
    exact this
  exact ev_ixT (ev_ixL ha (ev_mod hb (ev_lenL ha) (by rw [List.length_map]; omega)) h3) ev_int rfl
end
end Rt

namespace Rt
open PySem PySem.Spec PyProof.Rows L2
section
variable {P : Program} {w : World} {K : PySem.W.Frag} {mg : Str → Option Value} {base : Heap}
/-- over range(n), a local list at l is changed -/
theorem s_forRB {σ : L2.St} {H : Hp} {E : Ends} {tu : TS} {l : Addr} {j : Nat} {ta : TA} {n : Int} (m : Nat) (h : EvA K ta σ H [.int n]) (hm : m = n.toNat) (hn : n ≤ 100000 ∧ -100000 ≤ n) (P : Nat → List (Option D) → List D → Prop) {d0 : List (Option D)} {e0 : List D} {v0 : List V} (s0 : Sl K H d0 σ) (p0 : P 0 d0 e0) (hl : H l = some (.lst v0)) (hd0 : Dts K H e0 v0)
    (step : ∀ i : Nat, i < m → TurnB K l P tu E j H i (.int (i : Int))) (done : ∀ ds es vs σ' H', P m ds es → Sm l H H' → Sl K H' ds σ' → H' l = some (.lst vs) → Dts K H' es vs → E.nx σ' H') : tFor (iRng1 ta) (gName j) tu E σ H :=
  h H (Same.refl H) _ fun vs H1 s1 ⟨v, r, e1, e2, e3⟩ => ⟨n, by rw [e1, show v = .int n from e2, show r = [] from e3], by omega, by omega, for_range (lo := 0) (n := n.toNat) (fun i σ H' => ∃ ds es ws, P i ds es ∧ Sm l H1 H' ∧ Sl K H' ds σ ∧ H' l = some (.lst ws) ∧ Dts K H' es ws) ⟨d0, e0, v0, p0, Sm.refl _ _, s0.mono s1, s1 _ _ hl, Dts.mono s1 _ hd0⟩
    (fun i σ' H' hi ⟨ds, es, ws, p, s, sl, hl', hd'⟩ => by
      have e0 : (0 : Int) + (i : Int) = (i : Int) := Int.zero_add _
      rw [e0]
      exact step i (by omega) ds es ws _ H' _ p ((Same.sm l s1).trans s) (sl.set (d := .int (i : Int)) j rfl) hl' hd' fun ds2 es2 ws2 σ2 H2 p2 s2 sl2 hl2 hd2 => ⟨ds2, es2, ws2, p2, s.trans s2, sl2, hl2, hd2⟩)
    (fun σ' H' ⟨ds, es, ws, p, s, sl, hl', hd'⟩ => by rw [← hm] at p; exact done ds es ws σ' H' p ((Same.sm l s1).trans s) sl hl' hd')⟩
theorem q_forRB {σ : L2.St} {H : Hp} {E : Ends} {tu tv : TS} {l : Addr} {j : Nat} {ta : TA} {n : Int} (m : Nat) (h : EvA K ta σ H [.int n]) (hm : m = n.toNat) (hn : n ≤ 100000 ∧ -100000 ≤ n) (P : Nat → List (Option D) → List D → Prop) {d0 : List (Option D)} {e0 : List D} {v0 : List V} (s0 : Sl K H d0 σ) (p0 : P 0 d0 e0) (hl : H l = some (.lst v0)) (hd0 : Dts K H e0 v0)
    (step : ∀ i : Nat, i < m → TurnB K l P tu { E with nx := tv E } j H i (.int (i : Int))) (done : ∀ ds es vs σ' H', P m ds es → Sm l H H' → Sl K H' ds σ' → H' l = some (.lst vs) → Dts K H' es vs → tv E σ' H') : tSeq (tFor (iRng1 ta) (gName j) tu) tv E σ H := s_forRB (E := { E with nx := tv E }) m h hm hn P s0 p0 hl hd0 step done
theorem row_eqv (p q : Tx × Int) : PyData.eqv (rowD q).py (rowD p).py = decide (p = q) := by
  show (((S q.1 == S p.1) && ((q.2 == p.2) && true)) : Bool) = _
  by_cases e : p = q
  · rw [decide_eq_true e, e]; simp
  · rw [decide_eq_false e]
    by_cases e1 : q.1 = p.1
    · have e2 : q.2 ≠ p.2 := fun z => e (Prod.ext e1.symm z.symm)
      rw [show (q.2 == p.2) = false from beq_eq_false_iff_ne.mpr e2]; simp
    · rw [show (S q.1 == S p.1) = false from beq_eq_false_iff_ne.mpr fun z => e1 (S_inj z)]; rfl
theorem any_rows (p : Tx × Int) : ∀ rows : Rows, (D.pys (rows.map rowD)).any (fun z => PyData.eqv z (rowD p).py) = decide (p ∈ rows)
  | [] => rfl
  | q :: rows => by
    show (PyData.eqv (rowD q).py (rowD p).py || (D.pys (rows.map rowD)).any (fun z => PyData.eqv z (rowD p).py)) = _
    rw [any_rows p rows, row_eqv, ← Bool.decide_or]
    exact decide_eq_decide.mpr List.mem_cons.symm
theorem row_gd {p : Tx × Int} (h : okT p.1) : (rowD p).gd 1 := fun d m => by
  rcases List.mem_cons.mp m with rfl | m
  · exact okT_cps h
  · rcases List.mem_cons.mp m with rfl | m
    · trivial
    · cases m
theorem ev_notInR {σ : L2.St} {H : Hp} {ta tb : TE} {p : Tx × Int} {rows : Rows} (ha : Ev K ta σ H (rowD p)) (hb : Ev K tb σ H (.lst (rows.map rowD))) (h1 : okT p.1) (h2 : ∀ q ∈ rows, okT q.1) : Ev K (tOp (rNotInD K) ta tb) σ H (.bl (!decide (p ∈ rows))) :=
  ev_op ha hb fun v w H1 _ hv hw Q q => ⟨_, _, gd_dp 1 _ v (row_gd h1) hv, gd_dp 2 _ w (rows_gd h2) hw, gd_shaped (row_gd h1) (by decide), gd_shaped (rows_gd h2) (by decide), q _ _ (Same.refl _) (by rw [any_rows]; rfl)⟩
theorem cutD_init (xs : List D) (d : D) : cutD (xs ++ [d]) none (some (-1)) = xs := by
  unfold cutD
  have e1 : HT.sIx (xs ++ [d]).length 0 none = 0 := HT.sIx_none ..
  have e2 : HT.sIx (xs ++ [d]).length (xs ++ [d]).length (some (-1)) = xs.length := by
    have hl : (xs ++ [d]).length = xs.length + 1 := by rw [List.length_append]; rfl
    rw [hl]
    unfold HT.sIx
    simp
    omega
  rw [e1, e2, List.drop_zero, Nat.sub_zero, List.take_left]
theorem units65 {k : Nat} {A : Around} (r : Room k A) : A.units + 65 < cLine := by have := r.un; omega
end
end Rt

namespace Rt
open PySem PySem.Spec PyProof.Rows L2
section
variable {P : Program} {w : World} {K : PySem.W.Frag} {mg : Str → Option Value} {base : Heap}
/-! sorted(d), text keys, any number of them -/
def skV : Value → Str
  | .str x _ => x
  | _ => ⟨#[]⟩
def ltSv (v u : Value) : Bool := ltR (skV v, 0) (skV u, 0)
theorem ltSv_eq (x y : Str) : ltR (x, 0) (y, 0) = decide (x.cps.toList < y.cps.toList) := by
  unfold ltR
  by_cases e : x = y
  · rw [if_pos e, e]
    exact (decide_eq_false (Int.lt_irrefl 0)).trans (decide_eq_false (List.lt_irrefl _)).symm
  · rw [if_neg e]
theorem strs_mem : ∀ {vs : List Value} {ss : List Str}, StrsAre vs ss → ∀ v ∈ vs, ∃ x t, v = Value.str x t
  | _, _, .nil, v, h => absurd h (by simp)
  | _, _, .cons n t r, v, h => by
    rcases List.mem_cons.mp h with e | h
    · exact ⟨n, t, e⟩
    · exact strs_mem r v h
theorem strs_skV : ∀ {vs : List Value}, (∀ v ∈ vs, ∃ x t, v = Value.str x t) → StrsAre vs (vs.map skV)
  | [], _ => .nil
  | v :: vs, h => by
    obtain ⟨i, t, e⟩ := h v List.mem_cons_self
    subst e
    exact .cons i t (strs_skV fun u hu => h u (List.mem_cons_of_mem _ hu))
theorem skV_strs : ∀ {vs : List Value} {ss : List Str}, StrsAre vs ss → vs.map skV = ss
  | _, _, .nil => rfl
  | _, _, .cons n t r => congrArg (n :: ·) (skV_strs r)
section
variable {prog : Program} {w : World} {A : Around} {s : Shared}
theorem str_cmp {vs : List Value} {ss : List Str} (hI : StrsAre vs ss) : SrtO.Cmp prog w A s oneType' (fun p => p.1 ∈ vs) (SrtO.lt2 ltSv) := by
  intro p q hm hm'
  obtain ⟨a, t, e⟩ := strs_mem hI _ hm
  obtain ⟨b, u, e'⟩ := strs_mem hI _ hm'
  show wpAny (model prog w) A (keyLt' oneType' p.1 q.1) (fun r s' => s' = s ∧ r = ltSv p.1 q.1) (fun _ _ => False) s
  rw [e, e', keyLt'_oneType]
  exact oneLt_str ⟨rfl, (ltSv_eq a b).symm⟩
theorem strs_sortable {a : Addr} {vs : List Value} {ss : List Str} (hI : StrsAre vs ss) (h2 : 2 ≤ vs.length) : SrtO.SortableO prog w A s a vs ltSv := by
  intro h' _
  refine ⟨oneType', fun Q E hq => ?_, str_cmp hI⟩
  match vs, hI, h2 with
  | v1 :: v2 :: rest, hI, _ =>
    rw [keyKind_strs hI]
    exact wpAny_pure hq
  | [], _, h => exact absurd h (by decide)
  | [v], _, h => exact absurd h (by simp)
end
def rSortedDA : List V → Hp → VK → Prop := fun xs H Q => ∃ (a : Addr) (kvs : List (Key × V)) (ks : List Str), xs = [.ref a] ∧ Rd H a (.dK kvs) ∧ kvs.map (·.1) = ks.map Sum.inr ∧ ks.length ≤ 100000 ∧
  ∀ (ys : List Str) (p : Addr), ys.Perm ks → ys.Pairwise (fun x y => ¬ y.cps.toList < x.cps.toList) → H p = none → Q (.ref p) (upd H p (.lst (ys.map V.str)))
theorem call_sortedDA {X : Cx} (hcalm : X.calm = true) : CallR X (.builtin "sorted") rSortedDA := by
  intro pins s σ H xs us Q I r q
  obtain ⟨a, kvs, ks, ex, hd, hks, h64, q⟩ := q
  subst ex
  obtain ⟨u, eu, rx⟩ := vals1 r
  subst eu
  cases rx
  obtain ⟨z, lo, vs, rel, dd⟩ := dk_rd I.hok hd
  obtain ⟨ep, hat⟩ := dd.dictAt
  have hkeys : vs.map (·.1) = ks.map Sum.inr := rel.keys.symm.trans hks
  have hl : vs.length = ks.length := by
    have e := congrArg List.length hkeys
    rw [List.length_map, List.length_map] at e
    exact e
  have h16 : vs.length ≤ sizeLine := by rw [hl, sizeLine_eq]; omega
  refine Calls.call_function_entry PyProof.Rows.kind_sorted PyProof.Rows.plain_sorted PyProof.Rows.entry_sorted (PyProof.Rows.args_sorted1 _) ?_
  unfold Builtin.«sorted»
  refine wpAny_bind (m := checkCount "sorted" 1 1 _) (wpAny_pure ?_)
  refine wpAny_bind (PySem.W.kdu_collect (A := X.A.in1) (PySem.W.kdl_dict (knd := mixKind X.prog X.w) (kvs := vs) (ep := ep) lo) (I.ok.hd hcalm) hat h16 fun h' tk acc hk hacc => ?_)
  have hal : acc.toList.length = ks.length := by rw [Array.length_toList, hacc.1, hl]
  have hS : StrsAre acc.toList ks := strs_at hal fun j v e => by
    obtain ⟨k, x, e1, e2⟩ := hacc.2 j v (by rw [← Array.getElem?_toList]; exact e)
    have e3 : (vs.map (·.1))[j]? = some k := by rw [List.getElem?_map, e1]; all_goals rfl
    rw [hkeys, List.getElem?_map] at e3
    cases e4 : ks[j]? with
    | none => rw [e4] at e3; cases e3
    | some y =>
      rw [e4] at e3
      have e5 : Sum.inr y = k := Option.some.inj e3
      subst e5
      obtain ⟨t, ev⟩ := Value.isStrOf_shape (x := y) (v := v) e2
      exact ⟨y, t, rfl, ev⟩
  have I1 : Inv X pins σ H { s with heap := h', toks := tk } := I.kept hk
  have hz : acc.toList.length ≤ sizeLine := by rw [hal, sizeLine_eq]; omega
  refine wpAny_bind (wpAny_newList ?_ hz)
  have hoL : (h'.push (seqObj "list" acc.toList.toArray 0)).get? h'.objs.size = some (seqObj "list" acc.toList.toArray 0) := Heap.get?_push_size _ rfl
  show wpAny _ _ _ _ _ { s with heap := h'.push (seqObj "list" acc.toList.toArray 0), toks := tk }
  refine wpAny_bind (wpAny_holding (wpAny_call_entry PyProof.Rows.slot_list_sort ⟨_, hoL, rfl⟩ PyProof.Rows.entry_list_sort
    (SrtO.list_sort_ord (s := { s with heap := h'.push (seqObj "list" acc.toList.toArray 0), toks := tk }) (swo_ltR fun v => (skV v, 0)) hoL hz (fun h2 => strs_sortable hS h2) fun out hs hb => ⟨_, rfl, ?_⟩)
    (PyProof.Rows.args_list_sort _)))
  have hout : StrsAre out (out.map skV) := strs_skV fun v hv => strs_mem hS v (hb.perm.mem_iff.mp hv)
  have hperm : (out.map skV).Perm ks := by
    have := hb.perm.map skV
    rw [skV_strs hS] at this
    exact this
  have hpw : (out.map skV).Pairwise (fun x y => ¬ y.cps.toList < x.cps.toList) := List.pairwise_map.mpr (hs.imp fun {x y} h => by
    have h' : ltR (skV y, 0) (skV x, 0) = false := h
    rw [ltSv_eq] at h'
    exact of_decide_eq_false h')
  obtain ⟨e', he'⟩ := PyProof.Rows.sortedHeap_at (vs := acc.toList) (out := out.toArray) hoL
  have hlen : ((out.map skV).map V.str).length ≤ sizeLine := by
    rw [List.length_map, hperm.length_eq, sizeLine_eq]; omega
  refine wpAny_pure ⟨_, rfl, .ref h'.objs.size, upd H h'.objs.size (.lst ((out.map skV).map V.str)), I1.laid (t' := tk) (fun b u e => ?_) (Nat.le_refl _)
    (show ObjOk X.prog X.w _ _ _ (.lst ((out.map skV).map V.str)) from ⟨hlen, out, e', vals_of_strs hout, he'⟩), rfl, q _ _ hperm hpw (I1.hok.fresh (Nat.le_refl _))⟩
  have hb : b < h'.objs.size := Heap.lt_size e
  rw [PyProof.Rows.sortedHeap_old (Nat.ne_of_lt hb) (by rw [size_push']; exact Nat.lt_succ_of_lt hb)]
  exact Heap.get?_push_of_some _ e
end
end Rt

namespace Rt
open PySem PySem.Spec PyProof.Rows L2
section
variable {P : Program} {w : World} {K : PySem.W.Frag} {mg : Str → Option Value} {base : Heap}
def okSb (c : Nat) : Bool := decide (32 ≤ c) && (decide (c ≤ 126) && decide (c ≠ 37))
theorem okSb_iff {c : Nat} : okSb c = true ↔ okS c := by
  unfold okSb okS
  rw [Bool.and_eq_true, Bool.and_eq_true, decide_eq_true_eq, decide_eq_true_eq, decide_eq_true_eq]
def nameB (l : Tx) : Bool := decide (l.length ≤ 40) && l.all okSb
theorem nameB_iff {l : Tx} : nameB l = true ↔ l.length ≤ 40 ∧ okT l := by
  unfold nameB okT
  rw [Bool.and_eq_true, decide_eq_true_eq, List.all_eq_true]
  exact and_congr Iff.rfl (forall_congr' fun c => imp_congr Iff.rfl okSb_iff)
end
end Rt

namespace Rt
open PySem PySem.Spec PyProof.Rows L2
section
variable {P : Program} {w : World} {K : PySem.W.Frag} {mg : Str → Option Value} {base : Heap}
theorem s_forS {σ : L2.St} {H : Hp} {tl : TE} {E : Ends} {tu : TS} {l : Tx} {j : Nat} (h : Ev K tl σ H (.str l)) (P : Nat → List (Option D) → Prop) {d0 : List (Option D)} (s0 : Sl K H d0 σ) (p0 : P 0 d0)
    (step : ∀ i c, l[i]? = some c → Turn K P tu E j H i (.str [c])) (done : ∀ ds σ' H', P l.length ds → Same H H' → Sl K H' ds σ' → E.nx σ' H') : tFor (iStr tl) (gName j) tu E σ H :=
  h H (Same.refl H) _ fun v H1 s1 hv => ⟨S l, hv, fun i m σ H' => m = l.length - i ∧ i ≤ l.length ∧ ∃ ds, P i ds ∧ Same H1 H' ∧ Sl K H' ds σ, ⟨l.length, rfl, Nat.zero_le _, d0, p0, Same.refl _, s0.mono s1⟩, fun i m σ' H' ⟨hm, hi, ds, p, s, sl⟩ => by
    have hz : (S l).cps.size = l.length := S_len l
    by_cases hlt : i < l.length
    · refine .inr ⟨by show i < (S l).cps.size; rw [hz]; exact hlt, fun σ2 H2 => ∃ ds, P (i + 1) ds ∧ Same H1 H2 ∧ Sl K H2 ds σ2, fun σ2 H2 q => ⟨l.length - (i + 1), by omega, rfl, hlt, q⟩, ?_⟩
      rintro x H2 ⟨rfl, c, hc, rfl⟩
      have hc' : l[i]? = some c := by
        rw [← hc, ← Array.getElem?_toList]
        exact congrArg (fun z : List Nat => z[i]?) (S_cps l).symm
      exact step i c hc' ds _ H2 _ p (s1.trans s) (sl.set (d := .str [c]) j rfl) fun ds2 σ2 H3 p2 s2 sl2 => ⟨ds2, p2, s.trans s2, sl2⟩
    · have hin : i = l.length := by omega
      subst hin
      exact .inl ⟨by show (S l).cps.size ≤ l.length; rw [hz]; exact Nat.le_refl _, done ds σ' H' p (s1.trans s) sl⟩⟩
theorem q_forS {σ : L2.St} {H : Hp} {tl : TE} {E : Ends} {tu tv : TS} {l : Tx} {j : Nat} (h : Ev K tl σ H (.str l)) (P : Nat → List (Option D) → Prop) {d0 : List (Option D)} (s0 : Sl K H d0 σ) (p0 : P 0 d0)
    (step : ∀ i c, l[i]? = some c → Turn K P tu { E with nx := tv E } j H i (.str [c])) (done : ∀ ds σ' H', P l.length ds → Same H H' → Sl K H' ds σ' → tv E σ' H') : tSeq (tFor (iStr tl) (gName j) tu) tv E σ H := s_forS (E := { E with nx := tv E }) h P s0 p0 step done
theorem ev_ord {σ : L2.St} {H : Hp} {ta : TE} {c : Nat} (ha : Ev K ta σ H (.str [c])) : Ev K (tCB (fun xs H Q => ∃ x, xs = [.str x] ∧ x.length = 1 ∧ Q (.int (x.cps.getD 0 0 : Nat)) H) (tCons ta tNil)) σ H (.int (c : Int)) :=
  ev_cb (ea_cons ha ea_nil) fun vs H1 _ ⟨v, r, h1, h2, h3⟩ Q q => ⟨S [c], by rw [h1, show v = .str (S [c]) from h2, show r = [] from h3], rfl, q _ _ (Same.refl _) rfl⟩
/-- a def by its body, any promise -/
theorem cal_sp {x : Str} {st : Stmt} {N ps : List Str} {k : Nat} {sp : Sp} (F : Dfn K mg x st ps) (S : FnScope N ps (defScope st)) (len : ∀ vs H Q E, sp vs H Q E → vs.length = ps.length)
    (hbody : ∀ (cdv : Value) (A : Around) (outer : List Env) (s : Shared) (f : Addr) (H : Hp) (vs : List V) (Q : VK) (E : XK), Room k (A.deeper (envOfC x (defScope st) s.heap.objs.size f cdv)) → sp vs H Q E →
      ∃ t, PSs (cxOf CX0 P w K mg base N x (defScope st) f cdv A outer s H E0).nox (defBody st) t ∧ t { nx := fun _ H' => Q .non H', rt := Q } (start N vs) H) : Cal P w K mg base CX0 (k + 1) x sp := by
  obtain ⟨f, fd, F, m, b⟩ := F.ex
  refine ⟨f, fd, ps, F.ok S len fun cdv A outer s H vs Q E hr h => ?_, m, F.kp, b⟩
  obtain ⟨t, ht, hq⟩ := hbody cdv A outer s f H vs Q E hr h
  exact ⟨t, ht, hq⟩
theorem cal_spX {x : Str} {st : Stmt} {N ps : List Str} {k : Nat} {sp : Sp} (F : Dfn K mg x st ps) (S : FnScope N ps (defScope st)) (len : ∀ vs H Q E, sp vs H Q E → vs.length = ps.length)
    (hbody : ∀ (cdv : Value) (A : Around) (outer : List Env) (s : Shared) (f : Addr) (H : Hp) (vs : List V) (Q : VK) (E : XK), Room k (A.deeper (envOfC x (defScope st) s.heap.objs.size f cdv)) → sp vs H Q E →
      ∃ t, PSs (cxOf (L2.CX P w) P w K mg base N x (defScope st) f cdv A outer s H E) (defBody st) t ∧ t { nx := fun _ H' => Q .non H', rt := Q } (start N vs) H) : Cal P w K mg base (L2.CX P w) (k + 1) x sp := by
  obtain ⟨f, fd, F, m, b⟩ := F.ex
  exact ⟨f, fd, ps, F.okX S len fun cdv A outer s H vs Q E hr h => hbody cdv A outer s f H vs Q E hr h, m, F.kp, b⟩
end
end Rt

namespace Rt
open PySem PySem.Spec PyProof.Rows L2
section
variable {P : Program} {w : World} {K : PySem.W.Frag} {mg : Str → Option Value} {base : Heap}
def Risign : List D → D → Prop := fun ds d => ∃ c : Nat, ds = [.str [c]] ∧ d = .bl (okSb c)
theorem cal_is_sign (F : Dfn K mg "is_sign" s_is_sign ["sign"]) (BU : Bl mg) : Cal P w K mg base CX0 1 "is_sign" (Fn K Risign) := by
  refine cal_fn F sc_is_sign (fun ds d h => by obtain ⟨a, rfl, _⟩ := h; rfl) fun cdv A outer s f H vs ds d hr hR S0 => ?_
  obtain ⟨c, rfl, rfl⟩ := hR
  refine ⟨_, (pss_cons (ps_set (i := 1) sc_is_sign.nd rfl (Or.inl rfl) (pe_callB call_ord (by rfl) BU.ord_ (by decide +kernel) (pa_cons (pv 0) pa_nil))) (pss_one (ps_ret (pe_and (pe_cmpR op_le pe_int (pv 1) (nomark _)) (pe_and (pe_cmpR op_le (pv 1) pe_int (nomark _)) (pe_one (pe_cmpR op_ne (pv 1) pe_int (nomark _)))))))), fun nx Q kn kr => ?_⟩
  try dsimp only [cxOf]
  generalize start _ vs = σ at *
  refine q_asg S0 (d := .int (c : Int)) (ev_ord (ev_var S0 (by rfl))) fun σ1 H1 e1 S1 => ?_
  refine s_ret (d := .bl (okSb c)) (Ev.to (ev_andV (a := decide ((32 : Int) ≤ (c : Int))) (by walk_at "ev") fun _ => ev_andV (a := decide ((c : Int) ≤ 126)) (b := !decide ((c : Int) = 37)) (by walk_at "ev") fun _ => by walk_at "ev") ?_) fun v H2 e2 hv => kr v H2 (e1.trans e2) hv
  unfold okSb
  congr 2
  · exact decide_eq_decide.mpr (by omega)
  · congr 1
    · exact decide_eq_decide.mpr (by omega)
    · rw [← decide_not]; exact decide_eq_decide.mpr (by omega)
end
end Rt

namespace Rt
open PySem PySem.Spec PyProof.Rows L2
section
variable {P : Program} {w : World} {K : PySem.W.Frag} {mg : Str → Option Value} {base : Heap}
/-- a thing and whether it is a name -/
def IsThing (K : PySem.W.Frag) (H : Hp) (v : V) (b : Bool) : Prop := (∃ l : Tx, v = .str (S l) ∧ l.length ≤ 1000 ∧ b = nameB l) ∨ (∃ n, TyX K H v (.type n) ∧ kitB n "str" = some false ∧ b = false)
def Thing (K : PySem.W.Frag) (H : Hp) (v : V) (b : Bool) : Prop := ∀ H', Same H H' → IsThing K H' v b
theorem Thing.mono {H H' : Hp} {v : V} {b : Bool} (e : Same H H') (h : Thing K H v b) : Thing K H' v b := fun H2 e2 => h H2 (e.trans e2)
theorem Thing.str {H : Hp} {l : Tx} (h : l.length ≤ 1000) : Thing K H (.str (S l)) (nameB l) := fun _ _ => .inl ⟨l, rfl, h, rfl⟩
theorem Thing.dt {H : Hp} {d : D} {v : V} {n : String} (h : Dt K H d v) (e : d.ty = some n) (k : kitB n "str" = some false) : Thing K H v false := fun H' s => .inr ⟨n, (Dt.mono s d h).tyx e, k, rfl⟩
def SpName (K : PySem.W.Frag) : Sp := fun vs H Q _ => ∃ v b, vs = [v] ∧ Thing K H v b ∧ ∀ H', Same H H' → Q (.bl b) H'
theorem ev_name {σ : L2.St} {H : Hp} {ta : TE} {E : XK} {v : V} {b : Bool} (ha : Ev K ta σ H (.raw v)) (h : Thing K H v b) : Ev K (tCall (SpName K) [] E (tCons ta tNil)) σ H (.bl b) := fun H1 a Q q =>
  ha H1 a _ fun x H2 s2 hx => ⟨v, b, by rw [show x = v from hx]; rfl, h.mono (a.trans s2), fun H3 s3 => q _ H3 (s2.trans s3) rfl⟩
theorem ev_isiR {σ : L2.St} {H : Hp} {ta : TE} {v : V} {m n : String} {b : Bool} (ha : Ev K ta σ H (.raw v)) (h : ∀ H', Same H H' → TyX K H' v (.type n)) (hb : kitB n m = some b) : Ev K (tCB (rIsi K) (tCons ta (tCons (tC (.ty m)) tNil))) σ H (.bl b) :=
  ev_cb (ea_cons ha (ea_cons ev_c ea_nil)) fun vs H1 s1 ⟨x, r, h1, hv, w, r2, h3, hw, h5⟩ Q q =>
    ⟨v, .ty m, .type n, .type m, b, by rw [h1, h3, show x = v from hv, show w = .ty m from hw, show r2 = [] from h5], .ty m, h H1 s1, kit_ty hb, q _ _ (Same.refl _) rfl⟩
theorem cal_is_name (F : Dfn K mg "is_name" s_is_name ["thing"]) (BU : Bl mg) (m_MOST_SIGNS : ∃ t, mg "MOST_SIGNS" = some (.int 40 t)) (c_is_sign : Cal P w K mg base CX0 1 "is_sign" (Fn K Risign)) : Cal P w K mg base CX0 2 "is_name" (SpName K) := by
  obtain ⟨tkM, m_MOST_SIGNS⟩ := m_MOST_SIGNS
  refine cal_sp F sc_is_name (fun vs H Q E h => by obtain ⟨v, b, rfl, _⟩ := h; rfl) fun cdv A outer s f H vs Q E hr h => ?_
  obtain ⟨v, b, rfl, hth, k⟩ := h
  have S0 : Sl K H [some (.raw v), none] (start ["thing", "sign"] [v]) := ⟨v, _, rfl, rfl, none, _, rfl, rfl⟩
  refine ⟨_, (pss_cons (ps_if (PW.pt (pw_or (pt_not (pt_val (pe_callB call_isi (by rfl) BU.isinstance_ (by decide +kernel) (pa_cons (pv 0) (pa_cons (pe_bltn (v := .ty "str") (by rfl) BU.str_ (by decide +kernel) rfl) pa_nil))))) (pw_or1 (pt_cmpR op_gt (pe_callB call_len_str (by rfl) BU.len_ PySem.boot_len (pa_cons (pv 0) pa_nil)) (pe_glob (v := .int 40) (by rfl) m_MOST_SIGNS ⟨_, rfl⟩) (nomark _))))) (pss_one (ps_ret pe_bl)) pss_nil) (pss_cons (ps_for PassesOwn.never rfl (pi_str (pv 0)) (pg_name (i := 1) sc_is_name.nd rfl (Or.inl rfl)) (pss_one (ps_if (pt_not (pt_val (pe_c c_is_sign hr (by omega) (by rfl) (pa_cons (pv 1) pa_nil)))) (pss_one (ps_ret pe_bl)) pss_nil))) (pss_one (ps_ret pe_bl)))), ?_⟩
  try dsimp only [cxOf]
  generalize start _ [v] = σ at *
  rcases hth H (Same.refl H) with ⟨l, rfl, hl, rfl⟩ | ⟨n, hty, hk, rfl⟩
  · have S0' : Sl K H [some (.str l), none] σ := S0
    by_cases hlen : l.length ≤ 40
    · refine q_ifF0 (et_orF (EvT.to (by walk_at "ev") (by rfl)) (EvT.to (by walk_at "ev") (by exact decide_eq_false (by omega)))) fun H1 e1 => ?_
      have S1 := S0'.mono e1
      refine q_forS (l := l) (by walk_at "ev") (fun i ds => ∃ z, ds = [some (.str l), z] ∧ (l.take i).all okSb = true) S1 ⟨none, rfl, rfl⟩ ?_ ?_
      · rintro i c hc ds σ2 H2 N ⟨z, rfl, ha⟩ e2 S2 kN
        have et : l.take (i + 1) = l.take i ++ [c] := by rw [List.take_add_one, hc]; rfl
        refine s_if (b := !okSb c) (et_not (et_B (ev_call (d := .bl (okSb c)) (ds := [.str [c]]) (by walk_at "ev") ⟨c, rfl, rfl⟩))) (fun q H3 e3 => ?_) (fun q H3 e3 => ?_)
        · refine s_ret (K := K) ev_bl fun v H4 e4 hv => ?_
          rw [show v = .bl false from hv]
          have nb : nameB l = false := by
            cases hn : nameB l with
            | false => rfl
            | true =>
              have h2 := (nameB_iff.mp hn).2 c (List.mem_of_getElem? hc)
              rw [okSb_iff.mpr h2] at q; cases q
          rw [nb] at k
          exact k H4 (((e1.trans e2).trans e3).trans e4)
        · refine kN _ _ _ ⟨_, rfl, ?_⟩ e3 (S2.mono e3)
          have q' : okSb c = true := by cases h2 : okSb c with
            | true => rfl
            | false => rw [h2] at q; cases q
          rw [et, List.all_append, ha]
          show (true && (okSb c && true)) = true
          rw [q']; rfl
      · rintro ds σ2 H2 ⟨z, rfl, ha⟩ e2 S2
        rw [List.take_of_length_le (Nat.le_refl _)] at ha
        refine s_ret (K := K) ev_bl fun v H4 e4 hv => ?_
        rw [show v = .bl true from hv]
        have nb : nameB l = true := by unfold nameB; rw [decide_eq_true hlen, ha]; rfl
        rw [nb] at k
        exact k H4 ((e1.trans e2).trans e4)
    · refine q_ifT (et_orF (EvT.to (by walk_at "ev") (by rfl)) (EvT.to (by walk_at "ev") (by exact decide_eq_true (by omega)))) fun H1 e1 => ?_
      refine s_ret (K := K) ev_bl fun v H4 e4 hv => ?_
      rw [show v = .bl false from hv]
      have nb : nameB l = false := by unfold nameB; rw [decide_eq_false hlen]; rfl
      rw [nb] at k
      exact k H4 (e1.trans e4)
  · have hty' : ∀ H', Same H H' → ∃ n, TyX K H' v (.type n) ∧ kitB n "str" = some false := fun H' s => by
      rcases hth H' s with ⟨l, rfl, _, _⟩ | ⟨n2, h1, h2, _⟩
      · exfalso
        cases hty with
        | base h => cases h; exact absurd hk (by rw [kit_str_str]; intro z; cases z)
      · exact ⟨n2, h1, h2⟩
    have hisi : Ev K (tCB (rIsi K) (tCons (tVar 0) (tCons (tC (.ty "str")) tNil))) σ H (.bl false) := ev_cb (ds := [.raw v, .raw (.ty "str")]) (ea_cons (ev_var S0 (by rfl)) (ea_cons ev_c ea_nil)) fun vs H1 s1 ⟨x, r, h1, hv, w, r2, h3, hw, h5⟩ Q q => by
      obtain ⟨n2, t1, t2⟩ := hty' H1 s1
      exact ⟨v, .ty "str", .type n2, .type "str", false, by rw [h1, h3, show x = v from hv, show w = .ty "str" from hw, show r2 = [] from h5], .ty "str", t1, kit_ty t2, q _ _ (Same.refl _) rfl⟩
    refine q_ifT (et_orT (EvT.to (et_not (et_B hisi)) rfl)) fun H1 e1 => ?_
    exact s_ret (K := K) ev_bl fun x H4 e4 hv => by
      rw [show x = .bl false from hv]
      exact k H4 (e1.trans e4)
end
end Rt

namespace Rt
open PySem PySem.Spec PyProof.Rows L2
section
variable {P : Program} {w : World} {K : PySem.W.Frag} {mg : Str → Option Value} {base : Heap}
def tf (vg : V) (l : Addr) : List (Str × V) := putF "past" (.ref l) (putF "grown" vg [])
theorem gp_ne : ¬ (("grown" : Str) = "past") := by decide +kernel
theorem tf_grown (vg : V) (l : Addr) : (tf vg l).lookup ("grown" : Str) = some vg := by
  unfold tf; rw [lookup_putF, if_neg gp_ne, lookup_putF, if_pos rfl]
theorem tf_past (vg : V) (l : Addr) : (tf vg l).lookup ("past" : Str) = some (.ref l) := by
  unfold tf; rw [lookup_putF, if_pos rfl]
theorem tf_no (vg : V) (l : Addr) {m : Str} (h1 : ¬ m = "past") (h2 : ¬ m = "grown") : (tf vg l).lookup m = none := by
  unfold tf; rw [lookup_putF, if_neg h1, lookup_putF, if_neg h2]; rfl
/-- a trail stands at p -/
structure TrailAt (K : PySem.W.Frag) (C : Addr) (H : Hp) (p : Addr) (g : OT) (past : List OT) : Prop where
  ex : ∃ dx l vg vs, H p = some (.ins C dx (tf vg l)) ∧ Dt K H (OT.d g) vg ∧ H l = some (.lst vs) ∧ Dts K H (past.map OT.d) vs
theorem TrailAt.mono {C : Addr} {H H' : Hp} {p : Addr} {g : OT} {past : List OT} (e : Same H H') (h : TrailAt K C H p g past) : TrailAt K C H' p g past := by
  obtain ⟨dx, l, vg, vs, h1, h2, h3, h4⟩ := h.ex
  exact ⟨dx, l, vg, vs, e _ _ h1, Dt.mono e _ h2, e _ _ h3, Dts.mono e _ h4⟩
/-- what the class Trail says -/
structure TrC (K : PySem.W.Frag) (mg : Str → Option Value) (C : Addr) : Prop where
  cl : Cls K C
  nG : NoAttr K C "grown"
  nP : NoAttr K C "past"
  g : mg "Trail" = some (.ref C)
  mks : PySem.W.makesIn K C = true
  kp : PySem.W.keepIn K (.ref C) = true
structure MDfn (K : PySem.W.Frag) (C : Addr) (m q : Str) (st : Stmt) (ps : List Str) : Prop where
  ex : ∃ f fd, L2.Fun K m q st f fd ∧ Meth K C m f ∧ Binds K fd ps []
structure MetX (P : Program) (w : World) (K : PySem.W.Frag) (mg : Str → Option Value) (base : Heap) (CX : CXT) (k : Nat) (C : Addr) (m : Str) (sp : Sp) : Prop where
  ex : ∃ f fd ps, FnOk P w K mg base CX k f fd ps sp ∧ Meth K C m f ∧ Binds K fd ps []
theorem met_sp {C : Addr} {m q : Str} {st : Stmt} {N ps : List Str} {k : Nat} {sp : Sp} (F : MDfn K C m q st ps) (S : FnScope N ps (defScope st)) (len : ∀ vs H Q E, sp vs H Q E → vs.length = ps.length)
    (hbody : ∀ (cdv : Value) (A : Around) (outer : List Env) (s : Shared) (f : Addr) (H : Hp) (vs : List V) (Q : VK) (E : XK), Room k (A.deeper (envOfC q (defScope st) s.heap.objs.size f cdv)) → sp vs H Q E →
      ∃ t, PSs (cxOf CX0 P w K mg base N q (defScope st) f cdv A outer s H E0).nox (defBody st) t ∧ t { nx := fun _ H' => Q .non H', rt := Q } (start N vs) H) : MetX P w K mg base CX0 (k + 1) C m sp := by
  obtain ⟨f, fd, F, m, b⟩ := F.ex
  refine ⟨f, fd, ps, F.ok S len fun cdv A outer s H vs Q E hr h => ?_, m, b⟩
  obtain ⟨t, ht, hq⟩ := hbody cdv A outer s f H vs Q E hr h
  exact ⟨t, ht, hq⟩
theorem met_spX {C : Addr} {m q : Str} {st : Stmt} {N ps : List Str} {k : Nat} {sp : Sp} (F : MDfn K C m q st ps) (S : FnScope N ps (defScope st)) (len : ∀ vs H Q E, sp vs H Q E → vs.length = ps.length)
    (hbody : ∀ (cdv : Value) (A : Around) (outer : List Env) (s : Shared) (f : Addr) (H : Hp) (vs : List V) (Q : VK) (E : XK), Room k (A.deeper (envOfC q (defScope st) s.heap.objs.size f cdv)) → sp vs H Q E →
      ∃ t, PSs (cxOf (L2.CX P w) P w K mg base N q (defScope st) f cdv A outer s H E) (defBody st) t ∧ t { nx := fun _ H' => Q .non H', rt := Q } (start N vs) H) : MetX P w K mg base (L2.CX P w) (k + 1) C m sp := by
  obtain ⟨f, fd, F, m, b⟩ := F.ex
  exact ⟨f, fd, ps, F.okX S len fun cdv A outer s H vs Q E hr h => hbody cdv A outer s f H vs Q E hr h, m, b⟩
section
variable {X : Cx} {CX : CXT} {k j : Nat} {C : Addr} {x m : Str} {sp : Sp} {p pos apos : Pos} {o e : Expr} {es : List Expr} {ta : TE} {t : TA}
theorem pe_mt {E : XK} {pl : Sem Bool} (c : MetX X.prog X.w X.K X.mg X.base CX k C m sp) (cl : Cls X.K C) (hr : Room j X.A) (hk : k ≤ j) (hx : Passes CX X E) (he : PE X o ta) (ha : PA X (e :: es) t)
    (hst : starEach (e :: es) X.env = (false, eval e X.env) :: starEach es X.env := by rfl) (hpl : (backTo pos (starEach es X.env)).any (·.1) = false := by rfl)
    (ht : eval (.Call (.Attribute o m apos) (e :: es) [] pos) X.env = (do
      let v ← eval o X.env
      standAt apos.atName
      let (f, first) ← holding [v] (getMethod v m pl)
      callWith pos f first (backTo pos (starEach (e :: es) X.env)) (backToKw pos (keywordEach [] X.env))) := by rfl) :
    PE X (.Call (.Attribute o m apos) (e :: es) [] pos) (tMeth C m sp [] E ta t) := by
  obtain ⟨f, fd, ps, F, hm, b⟩ := c.ex
  exact pe_meth he cl hm F (hr.mono hk) b .nil hx ha hst hpl ht
theorem pe_mt0 {E : XK} {pl : Sem Bool} (c : MetX X.prog X.w X.K X.mg X.base CX k C m sp) (cl : Cls X.K C) (hr : Room j X.A) (hk : k ≤ j) (hx : Passes CX X E) (he : PE X o ta)
    (ht : eval (.Call (.Attribute o m apos) [] [] pos) X.env = (do
      let v ← eval o X.env
      standAt apos.atName
      let (f, first) ← holding [v] (getMethod v m pl)
      callWith pos f first (backTo pos (starEach [] X.env)) (backToKw pos (keywordEach [] X.env))) := by rfl) :
    PE X (.Call (.Attribute o m apos) [] [] pos) (tMeth C m sp [] E ta tNil) := by
  obtain ⟨f, fd, ps, F, hm, b⟩ := c.ex
  exact pe_meth0 he cl hm F (hr.mono hk) b .nil hx ht
/-- a method's call in a try -/
def tMethS (C : Addr) (m : Str) (sp : Sp) (E : L2.St → XK) (ta : TE) (t : TA) : TE := fun σ H Q => ta σ H fun x H1 => ∃ a dx fs, x = .ref a ∧ H1 a = some (.ins C dx fs) ∧ fs.lookup m = none ∧ t σ H1 fun vs H2 => sp (x :: vs) H2 Q (E σ)
theorem pe_mtS {E : L2.St → XK} {pl : Sem Bool} (c : MetX X.prog X.w X.K X.mg X.base CX k C m sp) (cl : Cls X.K C) (hr : Room j X.A) (hk : k ≤ j) (hx : ∀ σ, PassesAt CX X σ (E σ)) (he : PE X o ta) (ha : PA X (e :: es) t)
    (hst : starEach (e :: es) X.env = (false, eval e X.env) :: starEach es X.env := by rfl) (hpl : (backTo pos (starEach es X.env)).any (·.1) = false := by rfl)
    (ht : eval (.Call (.Attribute o m apos) (e :: es) [] pos) X.env = (do
      let v ← eval o X.env
      standAt apos.atName
      let (f, first) ← holding [v] (getMethod v m pl)
      callWith pos f first (backTo pos (starEach (e :: es) X.env)) (backToKw pos (keywordEach [] X.env))) := by rfl) :
    PE X (.Call (.Attribute o m apos) (e :: es) [] pos) (tMethS C m sp E ta t) := by
  obtain ⟨f, fd, ps, F, hm, b⟩ := c.ex
  refine ⟨fun pins s σ H Q I h => PySem.W.methodCall_KW (pl := pl) (thn (he.run pins s σ H _ I h) fun u s1 ⟨y, H1, I1, ry, a, dx, fs, ey, ea, nl, q⟩ => ?_) ht⟩
  subst ey
  obtain rfl : u = Value.ref a := ry
  refine getmeth_ok I1 ea cl hm nl (PySem.W.callWith_K (first := [.ref a]) (h₀ := X.base) I.ok.mod.kin hm.kp (thn (ha.run pos pins s1 σ H1 _ I1 q) fun us s2 ⟨vs, H2, I2, r, q2⟩ => ⟨I2.kIn, ?_⟩) hst hpl)
  exact run_fnS (us := .ref a :: us) (vs := .ref a :: vs) F (hr.mono hk) b (hx σ) I2 (.cons rfl r) q2
theorem pe_mt0S {E : L2.St → XK} {pl : Sem Bool} (c : MetX X.prog X.w X.K X.mg X.base CX k C m sp) (cl : Cls X.K C) (hr : Room j X.A) (hk : k ≤ j) (hx : ∀ σ, PassesAt CX X σ (E σ)) (he : PE X o ta)
    (ht : eval (.Call (.Attribute o m apos) [] [] pos) X.env = (do
      let v ← eval o X.env
      standAt apos.atName
      let (f, first) ← holding [v] (getMethod v m pl)
      callWith pos f first (backTo pos (starEach [] X.env)) (backToKw pos (keywordEach [] X.env))) := by rfl) :
    PE X (.Call (.Attribute o m apos) [] [] pos) (tMethS C m sp E ta tNil) := by
  obtain ⟨f, fd, ps, F, hm, b⟩ := c.ex
  refine ⟨fun pins s σ H Q I h => PySem.W.methodCall_KW (pl := pl) (thn (he.run pins s σ H _ I h) fun u s1 ⟨y, H1, I1, ry, a, dx, fs, ey, ea, nl, q⟩ => ?_) ht⟩
  subst ey
  obtain rfl : u = Value.ref a := ry
  refine getmeth_ok I1 ea cl hm nl (PySem.W.callWith_K0 (first := [.ref a]) I1.kIn hm.kp ?_)
  exact run_fnS (us := [.ref a]) (vs := [.ref a]) F (hr.mono hk) b (hx σ) I1 (.cons rfl .nil) q
/-- Trail() -/
theorem pe_mk {E : XK} (c : MetX X.prog X.w X.K X.mg X.base CX k C "__init__" sp) (hr : Room j X.A) (hk : k + 1 ≤ j) (hx : Passes CX X E) (T : TrC X.K X.mg C) (hg : Gl X "Trail") : PE X (.Call (.Name "Trail" p) [] [] pos) (tMake C sp [] E tNil) := by
  obtain ⟨f, fd, ps, F, hm, b⟩ := c.ex
  exact pe_make0 ⟨T.mks, hm.at_, hm.fn, T.kp⟩ F (hr.mono hk) hg T.g b .nil hx
end
/-- an expression that gives a trail -/
def EvTr (K : PySem.W.Frag) (C : Addr) (te : TE) (σ : L2.St) (H : Hp) (g : OT) (past : List OT) : Prop := EvP te σ H fun v H' => ∃ p, v = .ref p ∧ TrailAt K C H' p g past
theorem ev_fldG {σ : L2.St} {H : Hp} {ta : TE} {C p : Addr} {g : OT} {past : List OT} (T : TrC K mg C) (ha : Ev K ta σ H (.raw (.ref p))) (h : TrailAt K C H p g past) : Ev K (tFld K ta "grown") σ H (OT.d g) := fun H1 a Q q =>
  ha H1 a _ fun x H2 s2 hx => by
    obtain ⟨dx, l, vg, vs, h1, h2, h3, h4⟩ := (h.mono (a.trans s2)).ex
    exact ⟨p, C, dx, _, vg, hx, h1, T.cl, T.nG, tf_grown _ _, q _ _ s2 h2⟩
/-! the maker -/
def SpInit (C : Addr) : Sp := fun vs H Q _ => ∃ p dx, vs = [.ref p] ∧ H p = some (.ins C dx []) ∧ ∀ H' l, H l = none → (∀ b o, b ≠ p → H b = some o → H' b = some o) → H' p = some (.ins C dx (tf .non l)) → H' l = some (.lst []) → Q .non H'
theorem ev_mk {σ : L2.St} {H : Hp} {C : Addr} {E : XK} : EvTr K C (tMake C (SpInit C) [] E tNil) σ H none [] := fun H1 s1 Q q => by
  intro x dx nx ndx ne
  refine ⟨x, dx, rfl, upd_same, fun H2 l hl hk hp hL => ⟨rfl, ?_⟩⟩
  refine q _ _ (fun b o e => ?_) ⟨x, rfl, dx, l, .non, [], hp, rfl, hL, rfl⟩
  have nb : b ≠ x := ne_of_none e nx
  refine hk b o nb ?_
  rw [upd_ne nb, upd_ne (ne_of_none e ndx)]
  exact e
theorem tbz : Tb 42 none := ⟨trivial, by decide, Nat.zero_le _⟩
end
end Rt

namespace Rt
open PySem L2
mutual
def T.knots : T → Rows
  | .leaf r _ => [(r, 0)]
  | .fork s b => (s, (b.list.length : Int)) :: b.knots s
def B.knots (s : Tx) : B → Rows
  | .nil => []
  | .cons c t r => t.knots.map (fun p => (s ++ c ++ p.1, p.2)) ++ r.knots s
end
def OT.knots : OT → Rows
  | none => []
  | some t => t.knots
def knotsL (s : Tx) (l : List (Tx × T)) : Rows := l.flatMap fun p => p.2.knots.map fun q => (s ++ p.1 ++ q.1, q.2)
theorem B.knots_flat (s : Tx) : ∀ b : B, b.knots s = knotsL s b.list
  | .nil => rfl
  | .cons c t r => by rw [B.knots, B.knots_flat s r]; rfl
theorem knotsL_app (s : Tx) (l m : List (Tx × T)) : knotsL s (l ++ m) = knotsL s l ++ knotsL s m := List.flatMap_append ..
mutual
theorem T.klen_h : ∀ (t : T) (x : Tx) (n : Int), (x, n) ∈ t.knots → x.length ≤ t.h
  | .leaf r m, x, n, h => by
    have e := List.mem_singleton.mp h
    injection e with e1 e2
    rw [e1]; exact Nat.le_refl _
  | .fork s b, x, n, h => by
    rcases List.mem_cons.mp h with e | h
    · injection e with e1 e2
      rw [e1]; show s.length ≤ s.length + b.h; omega
    · exact B.klen_h s b x n h
theorem B.klen_h (s : Tx) : ∀ (b : B) (x : Tx) (n : Int), (x, n) ∈ b.knots s → x.length ≤ s.length + b.h
  | .nil, x, n, h => by cases h
  | .cons c t r, x, n, h => by
    rcases List.mem_append.mp h with h | h
    · obtain ⟨q, hq, e⟩ := List.mem_map.mp h
      injection e with e1 e2
      have := T.klen_h t q.1 q.2 hq
      rw [← e1, List.length_append, List.length_append]
      show s.length + c.length + q.1.length ≤ s.length + max (c.length + t.h) r.h
      omega
    · have := B.klen_h s r x n h
      show _ ≤ s.length + max (c.length + t.h) r.h
      omega
end
mutual
theorem T.kcnt : ∀ (t : T), t.ok → t.knots.length + 1 ≤ 2 * t.names.length
  | .leaf r m, _ => Nat.le_refl _
  | .fork s b, h => by
    have := B.kcnt s b h.2
    have h2 := h.1
    show (b.knots s).length + 1 + 1 ≤ 2 * (b.names s).length
    omega
theorem B.kcnt (s : Tx) : ∀ (b : B), b.ok → (b.knots s).length + b.list.length ≤ 2 * (b.names s).length
  | .nil, _ => Nat.le_refl _
  | .cons c t r, h => by
    have h1 := T.kcnt t h.2.1
    have h2 := B.kcnt s r h.2.2.2.2
    unfold B.knots B.names B.list
    rw [List.length_append, List.length_append, List.length_map, List.length_map, List.length_cons]
    omega
end
end Rt

namespace Rt
open PySem L2
def OT.pre (x : Tx) : OT → OT
  | none => none
  | some t => some (t.pre x)
theorem T.pre_h (x : Tx) (t : T) : (t.pre x).h = x.length + t.h := by
  cases t with
  | leaf r n => show (x ++ r).length = x.length + r.length; rw [List.length_append]
  | fork s b => show (x ++ s).length + b.h = x.length + (s.length + b.h); rw [List.length_append]; omega
theorem B.names_pre (x s : Tx) : ∀ b : B, b.names (x ++ s) = (b.names s).map fun p => (x ++ p.1, p.2)
  | .nil => rfl
  | .cons c t r => by
    unfold B.names
    rw [B.names_pre x s r, List.map_append, List.map_map]
    congr 1
    exact List.map_congr_left fun p _ => by show (x ++ s ++ c ++ p.1, p.2) = (x ++ (s ++ c ++ p.1), p.2); simp
theorem T.names_pre (x : Tx) (t : T) : (t.pre x).names = t.names.map fun p => (x ++ p.1, p.2) := by
  cases t with
  | leaf r n => rfl
  | fork s b => exact B.names_pre x s b
theorem OT.pre_ok {t : OT} (h : OT.ok t) (x : Tx) : OT.ok (OT.pre x t) := by
  cases t with
  | none => trivial
  | some t => exact T.pre_ok h x
theorem OT.names_pre (x : Tx) (t : OT) : OT.names (OT.pre x t) = (OT.names t).map fun p => (x ++ p.1, p.2) := by
  cases t with
  | none => rfl
  | some t => exact T.names_pre x t
theorem Tb.pre {N : Nat} {t : OT} (h : Tb N t) (x : Tx) : Tb (N + x.length) (OT.pre x t) := by
  refine ⟨OT.pre_ok h.ok x, ?_, by rw [OT.names_pre, List.length_map]; exact h.cnt⟩
  have hh := h.h
  cases t with
  | none => show 0 < N + x.length; have : 0 < N := hh; omega
  | some t =>
    have h2 : t.h + 1 < N := hh
    show (t.pre x).h + 1 < N + x.length
    rw [T.pre_h]; omega
mutual
theorem T.ends : ∀ (t : T), t.ok → t.knots.filter (fun p => decide (p.2 < 2)) = t.names.map fun p => (p.1, 0)
  | .leaf r n, _ => rfl
  | .fork s b, h => by
    have h2 := h.1
    show ((s, (b.list.length : Int)) :: b.knots s).filter _ = (b.names s).map _
    rw [List.filter_cons_of_neg (by show ¬ decide ((b.list.length : Int) < 2) = true; rw [decide_eq_true_eq]; omega), B.ends s b h.2]
theorem B.ends (s : Tx) : ∀ (b : B), b.ok → (b.knots s).filter (fun p => decide (p.2 < 2)) = (b.names s).map fun p => (p.1, 0)
  | .nil, _ => rfl
  | .cons c t r, h => by
    unfold B.knots B.names
    rw [List.filter_append, List.map_append, B.ends s r h.2.2.2.2, List.filter_map, List.map_map]
    congr 1
    have e : (t.knots.filter ((fun p => decide (p.2 < 2)) ∘ fun p => (s ++ c ++ p.1, p.2))) = t.knots.filter (fun p => decide (p.2 < 2)) := rfl
    rw [e, T.ends t h.2.1, List.map_map]
    rfl
end
theorem OT.ends {t : OT} (h : OT.ok t) : (OT.knots t).filter (fun p => decide (p.2 < 2)) = (OT.names t).map fun p => (p.1, 0) := by
  cases t with
  | none => rfl
  | some t => exact T.ends t h
end Rt

namespace Rt
open PySem L2
structure JoinR (a b r : OT) : Prop where
  ok : OT.ok r
  f : ∀ y, OT.find r y = (OT.find a y).or (OT.find b y)
def Disj (a b : OT) : Prop := ∀ y, OT.find a y = none ∨ OT.find b y = none
theorem JoinR.ex {a b : OT} (ha : OT.ok a) (hb : OT.ok b) : ∃ r, JoinR a b r := by
  obtain ⟨r, h1, h2⟩ := ex_union ha hb
  exact ⟨r, h1, h2⟩
theorem JoinR.uniq {a b r r' : OT} (h : JoinR a b r) (h' : JoinR a b r') : r = r' := OT.ext h.ok h'.ok fun y => by rw [h.f, h'.f]
theorem join_none {b : OT} (h : OT.ok b) : JoinR none b b := ⟨h, fun y => by show _ = (none : Option Int).or _; rfl⟩
theorem join_none2 {a : OT} (h : OT.ok a) : JoinR a none a := ⟨h, fun y => by show _ = (OT.find a y).or none; rw [Option.or_none]⟩
theorem disj_none (b : OT) : Disj none b := fun _ => .inl rfl
theorem disj_none2 (a : OT) : Disj a none := fun _ => .inr rfl
theorem join_some {a : OT} {t : T} {r : OT} (h : JoinR a (some t) r) (ht : t.ok) : ∃ u, r = some u := by
  cases r with
  | some u => exact ⟨u, rfl⟩
  | none =>
    obtain ⟨x, n, hx⟩ := T.some_name t ht
    have := h.f x
    rw [show OT.find (some t) x = some n from hx] at this
    cases q : OT.find a x with
    | none => rw [q] at this; cases this
    | some m => rw [q] at this; cases this
theorem B.look_ok {b : B} (h : b.ok) (z : Tx) : OT.ok (b.look z) := by
  cases e : b.look z with
  | none => trivial
  | some t => exact (B.ok_sub h (B.look_mem e)).2.1
/-- where the walk over the other one's branches stands -/
structure JI (A : B) (L : List (Tx × T)) (i : Nat) (M : B) : Prop where
  ok : M.ok
  f : ∀ z m, OT.find (M.look z) m = (OT.find (A.look z) m).or (OT.find (lookL (L.take i) z) m)
  dj : ∀ z m, OT.find (A.look z) m = none ∨ OT.find (lookL (L.take i) z) m = none
  len : M.list.length ≤ A.list.length + i
theorem JI.start {A : B} (h : A.ok) (L : List (Tx × T)) : JI A L 0 A := ⟨h, fun z m => by
  rw [List.take_zero]; show _ = (OT.find (A.look z) m).or none; rw [Option.or_none], fun z m => .inr (by rw [List.take_zero]; rfl), Nat.le_refl _⟩
theorem lookL_new {L : List (Tx × T)} {i : Nat} {p : Tx × T} (hp : L[i]? = some p) (hd : L.Pairwise fun p q => p.1 < q.1) : lookL (L.take i) p.1 = none := lookL_none fun q hq e => by
  obtain ⟨j, hj⟩ := List.mem_iff_getElem?.mp hq
  have hj1 : j < i := by
    have := (List.getElem?_eq_some_iff.mp hj).1
    rw [List.length_take] at this; omega
  rw [List.getElem?_take_of_lt hj1] at hj
  obtain ⟨h1, h2⟩ := List.getElem?_eq_some_iff.mp hj
  obtain ⟨h3, h4⟩ := List.getElem?_eq_some_iff.mp hp
  have := List.pairwise_iff_getElem.mp hd j i h1 h3 hj1
  rw [h2, h4, e] at this
  exact lt_irr _ this
theorem lookL_more {L : List (Tx × T)} {i : Nat} {p : Tx × T} (hp : L[i]? = some p) (hd : L.Pairwise fun p q => p.1 < q.1) (z : Tx) : lookL (L.take (i + 1)) z = if z = p.1 then some p.2 else lookL (L.take i) z := by
  have e : L.take (i + 1) = L.take i ++ [p] := by rw [List.take_add_one, hp]; rfl
  rw [e, lookL_app]
  by_cases c : z = p.1
  · rw [if_pos c, c, lookL_new hp hd]
    show (none : OT).or (if p.1 = p.1 then some p.2 else none) = _
    rw [if_pos rfl]; rfl
  · rw [if_neg c, show lookL [p] z = none from lookL_none fun q hq e => c (by rw [← e, List.mem_singleton.mp hq]), Option.or_none]
theorem JI.held {A M : B} {L : List (Tx × T)} {i : Nat} {p : Tx × T} (j : JI A L i M) (hA : A.ok) (hp : L[i]? = some p) (hd : L.Pairwise fun p q => p.1 < q.1) : M.look p.1 = A.look p.1 := OT.ext (B.look_ok j.ok _) (B.look_ok hA _) fun m => by
  rw [j.f, lookL_new hp hd]; show (OT.find (A.look p.1) m).or none = _; rw [Option.or_none]
theorem withB_len (b : B) (y : Tx) (t : OT) : (withB b y t).list.length ≤ b.list.length + 1 := by
  rw [withB_list, List.length_append, List.length_append]
  have h : ∀ l : List (Tx × T), (l.filter (fun p => decide (p.1 < y))).length + (l.filter (fun p => decide (y < p.1))).length ≤ l.length := fun l => by
    induction l with
    | nil => exact Nat.le_refl _
    | cons p l ih =>
      rw [List.filter_cons, List.filter_cons, List.length_cons]
      by_cases c : p.1 < y
      · rw [if_pos (decide_eq_true c), if_neg (by rw [decide_eq_false (lt_as c)]; decide), List.length_cons]; omega
      · rw [if_neg (by rw [decide_eq_false c]; decide)]
        split
        · rw [List.length_cons]; omega
        · omega
  have h1 := h b.list
  have h2 : (optL y t).length ≤ 1 := by cases t <;> simp [optL]
  omega
theorem JI.next {A M : B} {L : List (Tx × T)} {i : Nat} {p : Tx × T} {u : T} (j : JI A L i M) (hA : A.ok) (hp : L[i]? = some p) (hd : L.Pairwise fun p q => p.1 < q.1) (h1 : p.1.length ≤ 1) (h2 : p.2.ok) (h3 : p.1 = [] → ∃ n, p.2 = .leaf [] n)
    (hr : JoinR (A.look p.1) (some p.2) (some u)) (dj : Disj (A.look p.1) (some p.2)) (hn : p.1 = [] → A.look p.1 = none) : JI A L (i + 1) (withB M p.1 (some u)) := by
  refine ⟨withB_ok j.ok h1 fun v hv => ?_, fun z m => ?_, fun z m => ?_, ?_⟩
  · cases hv
    refine ⟨hr.ok, fun e => ?_⟩
    have := hn e
    rw [this] at hr
    obtain ⟨n, hn⟩ := h3 e
    have e2 := hr.uniq (join_none (b := some p.2) h2)
    exact ⟨n, by rw [← hn]; exact Option.some.inj e2⟩
  · rw [withB_look, lookL_more hp hd]
    by_cases c : z = p.1
    · rw [if_pos c, if_pos c, c]; exact hr.f m
    · rw [if_neg c, if_neg c]; exact j.f z m
  · rw [lookL_more hp hd]
    by_cases c : z = p.1
    · rw [if_pos c, c]; exact dj m
    · rw [if_neg c]; exact j.dj z m
  · have := withB_len M p.1 (some u)
    have := j.len
    omega
theorem brB_list_ne {k : Nat} {t : T} (h : t.ok) : (brB k t).list ≠ [] := by
  cases t with
  | leaf r n => intro z; cases z
  | fork s b =>
    unfold brB
    by_cases e : s.length = k
    · simp only [e, if_true]
      intro z
      have := h.1
      rw [z] at this
      exact absurd this (by simp)
    · simp only [e, if_false]; intro z; cases z
/-- few branches: the one behind the text's first signs -/
theorem brB_few {k : Nat} {t : T} (h : t.ok) (h2 : (brB k t).list.length < 2) : (brB k t).list = [behT k t] ∧ ¬ (∃ s b, t = .fork s b ∧ s.length = k) := by
  cases t with
  | leaf r n => exact ⟨rfl, fun ⟨_, _, e, _⟩ => by cases e⟩
  | fork s b =>
    unfold brB at h2 ⊢
    by_cases e : s.length = k
    · simp only [e, if_true] at h2
      have := h.1
      omega
    · simp only [e, if_false]
      exact ⟨rfl, fun ⟨s', b', e1, e2⟩ => by cases e1; exact e e2⟩
theorem com_at2 {a b : Tx} : b.take (comL a b).length = comL a b := by rw [comL_comm]; exact comL_take b a
/-- two unlike signs, but where both keep the text itself -/
theorem beh_signs {t u : T} (ht : t.ok) (hu : u.ok) (h1 : (brB (comL t.text u.text).length t).list.length < 2) (h2 : (brB (comL t.text u.text).length u).list.length < 2) :
    (behT (comL t.text u.text).length t).1 ≠ (behT (comL t.text u.text).length u).1 ∨ ((behT (comL t.text u.text).length t).1 = [] ∧ (behT (comL t.text u.text).length u).1 = []) := by
  have l1 := comL_len1 t.text u.text
  have l2 := comL_len2 t.text u.text
  show (t.text.drop _).take 1 ≠ (u.text.drop _).take 1 ∨ ((t.text.drop _).take 1 = [] ∧ (u.text.drop _).take 1 = [])
  by_cases c1 : (comL t.text u.text).length < t.text.length
  · refine .inl ?_
    rw [drop_head c1]
    by_cases c2 : (comL t.text u.text).length < u.text.length
    · rw [drop_head c2]
      intro e
      have n := com_next t.text u.text c1 c2
      rw [List.getElem?_eq_getElem c1, List.getElem?_eq_getElem c2] at n
      exact n (congrArg some (List.head_eq_of_cons_eq e))
    · rw [List.drop_eq_nil_of_le (by omega)]; intro z; cases z
  · by_cases c2 : (comL t.text u.text).length < u.text.length
    · refine .inl ?_
      rw [drop_head c2, List.drop_eq_nil_of_le (by omega)]; intro z; cases z
    · exact .inr ⟨by rw [List.drop_eq_nil_of_le (by omega)]; rfl, by rw [List.drop_eq_nil_of_le (by omega)]; rfl⟩
theorem look_some {b : B} (h : b.ok) {p : Tx × T} (hp : p ∈ b.list) : b.look p.1 = some p.2 := (B.ok_sub h hp).2.2.2
theorem mem_of_look {M : B} {z : Tx} {u : T} (h : M.look z = some u) : ∃ p ∈ M.list, p.1 = z := ⟨(z, u), B.look_mem h, rfl⟩
section
variable {t u : T} {M : B}
/-- behind the walk -/
theorem JI.done (ht : t.ok) (hu : u.ok) (j : JI (brB (comL t.text u.text).length t) (brB (comL t.text u.text).length u).list (brB (comL t.text u.text).length u).list.length M) :
    JoinR (some t) (some u) (some (.fork (comL t.text u.text) M)) ∧ Disj (some t) (some u) := by
  have k1 := comL_len1 t.text u.text
  have k2 := comL_len2 t.text u.text
  have oA := brB_ok ht k1
  have oU := brB_ok hu k2
  have f1 := find_brB ht k1
  have f2 := find_brB hu k2
  rw [comL_take] at f1
  rw [com_at2] at f2
  have jf := j.f
  have jd := j.dj
  rw [List.take_of_length_le (Nat.le_refl _)] at jf jd
  have jf' : ∀ z m, OT.find (M.look z) m = (OT.find ((brB (comL t.text u.text).length t).look z) m).or (OT.find ((brB (comL t.text u.text).length u).look z) m) := fun z m => by rw [jf, B.look_list (brB (comL t.text u.text).length u)]
  have jd' : ∀ z m, OT.find ((brB (comL t.text u.text).length t).look z) m = none ∨ OT.find ((brB (comL t.text u.text).length u).look z) m = none := fun z m => by rw [B.look_list (brB (comL t.text u.text).length u)]; exact jd z m
  have inA : ∀ p ∈ (brB (comL t.text u.text).length t).list, ∃ q ∈ M.list, q.1 = p.1 := fun p hp => by
    obtain ⟨x, n, hx⟩ := T.some_name p.2 (B.ok_sub (y := p.1) (t := p.2) oA hp).2.1
    have := jf' p.1 x
    rw [look_some oA hp, show OT.find (some p.2) x = some n from hx] at this
    cases e : M.look p.1 with
    | none => rw [e] at this; cases this
    | some v => exact mem_of_look e
  have inU : ∀ p ∈ (brB (comL t.text u.text).length u).list, ∃ q ∈ M.list, q.1 = p.1 := fun p hp => by
    obtain ⟨x, n, hx⟩ := T.some_name p.2 (B.ok_sub (y := p.1) (t := p.2) oU hp).2.1
    have := jf' p.1 x
    rw [look_some oU hp, show OT.find (some p.2) x = some n from hx] at this
    cases e : M.look p.1 with
    | none =>
      rw [e] at this
      cases q : OT.find ((brB (comL t.text u.text).length t).look p.1) x with
      | none => rw [q] at this; cases this
      | some v => rw [q] at this; cases this
    | some v => exact mem_of_look e
  have two : 2 ≤ M.list.length := by
    have pick : ∀ {l : List (Tx × T)}, l.Pairwise (fun p q => p.1 < q.1) → 2 ≤ l.length → (∀ p ∈ l, ∃ q ∈ M.list, q.1 = p.1) → 2 ≤ M.list.length := fun {l} hd h2 hin => by
      obtain ⟨p, hp⟩ : ∃ p, p ∈ l := by
        cases l with
        | nil => exact absurd h2 (by simp)
        | cons p l => exact ⟨p, List.mem_cons_self⟩
      obtain ⟨q, hq, hne⟩ := len_two h2 hd p.1
      obtain ⟨p', h3, e3⟩ := hin p hp
      obtain ⟨q', h4, e4⟩ := hin q hq
      exact two_len h3 h4 (by rw [e3, e4]; exact fun z => hne z.symm)
    rcases Nat.lt_or_ge (brB (comL t.text u.text).length t).list.length 2 with c1 | c1
    · rcases Nat.lt_or_ge (brB (comL t.text u.text).length u).list.length 2 with c2 | c2
      · have a1 := (brB_few ht c1).1
        have a2 := (brB_few hu c2).1
        rcases beh_signs ht hu c1 c2 with q | ⟨q1, q2⟩
        · obtain ⟨p', h3, e3⟩ := inA (behT (comL t.text u.text).length t) (by rw [a1]; exact List.mem_cons_self)
          obtain ⟨q', h4, e4⟩ := inU (behT (comL t.text u.text).length u) (by rw [a2]; exact List.mem_cons_self)
          exact two_len h3 h4 (by rw [e3, e4]; exact q)
        · exfalso
          have m1 : behT (comL t.text u.text).length t ∈ (brB (comL t.text u.text).length t).list := by rw [a1]; exact List.mem_cons_self
          have m2 : behT (comL t.text u.text).length u ∈ (brB (comL t.text u.text).length u).list := by rw [a2]; exact List.mem_cons_self
          obtain ⟨_, _, g1, g2⟩ := B.ok_sub (y := (behT (comL t.text u.text).length t).1) (t := (behT (comL t.text u.text).length t).2) oA m1
          obtain ⟨_, _, g3, g4⟩ := B.ok_sub (y := (behT (comL t.text u.text).length u).1) (t := (behT (comL t.text u.text).length u).2) oU m2
          obtain ⟨n1, n1e⟩ := g1 q1
          obtain ⟨n2, n2e⟩ := g3 q2
          rw [q1, n1e] at g2
          rw [q2, n2e] at g4
          have := jd' [] []
          rw [g2, g4] at this
          rcases this with z | z <;> cases z
      · exact pick ((B.ok_iff _).mp oU).2 c2 inU
    · exact pick ((B.ok_iff _).mp oA).2 c1 inA
  refine ⟨⟨⟨two, j.ok⟩, fun y => ?_⟩, fun y => ?_⟩
  · show (T.fork _ M).find y = (t.find y).or (u.find y)
    rw [← f1, ← f2, T.find_fl, T.find_fl, T.find_fl]
    by_cases c : comL t.text u.text <+: y
    · rw [if_pos c, if_pos c, if_pos c]; exact jf' _ _
    · rw [if_neg c, if_neg c, if_neg c]; rfl
  · show t.find y = none ∨ u.find y = none
    rw [← f1, ← f2, T.find_fl, T.find_fl]
    by_cases c : comL t.text u.text <+: y
    · rw [if_pos c, if_pos c]; exact jd' _ _
    · rw [if_neg c, if_neg c]; exact .inl rfl
/-- a name that both keep -/
theorem join_hit (ht : t.ok) (hu : u.ok) {p : Tx × T} (hp : p ∈ (brB (comL t.text u.text).length u).list) (h : ¬ Disj ((brB (comL t.text u.text).length t).look p.1) (some p.2)) : ¬ Disj (some t) (some u) := fun d => by
  refine h fun m => ?_
  have k1 := comL_len1 t.text u.text
  have k2 := comL_len2 t.text u.text
  have oU := brB_ok hu k2
  have f1 := find_brB ht k1
  have f2 := find_brB hu k2
  rw [comL_take] at f1
  rw [com_at2] at f2
  obtain ⟨g1, g2, g3, g4⟩ := B.ok_sub (y := p.1) (t := p.2) oU hp
  by_cases c : p.1 = [] → m = []
  · have d' := d (comL t.text u.text ++ (p.1 ++ m))
    rw [show OT.find (some t) _ = t.find _ from rfl, show OT.find (some u) _ = u.find _ from rfl, ← f1, ← f2, T.find_at oU (c := p.1) (t := p.2) hp c, T.find_fl, if_pos (List.prefix_append _ _), List.drop_left] at d'
    have e1 : (p.1 ++ m).take 1 = p.1 ∧ (p.1 ++ m).drop 1 = m := by
      cases hq : p.1 with
      | nil => rw [c hq]; exact ⟨rfl, rfl⟩
      | cons a r =>
        rw [hq] at g1
        cases r with
        | nil => exact ⟨rfl, rfl⟩
        | cons _ _ => exact absurd g1 (by simp)
    rw [e1.1, e1.2] at d'
    exact d'
  · refine .inr ?_
    have c1 : p.1 = [] := Classical.byContradiction fun z => c fun q => absurd q z
    have c2 : m ≠ [] := fun z => c fun _ => z
    obtain ⟨n, hn⟩ := g3 c1
    rw [hn]
    show (T.leaf [] n).find m = none
    rw [T.find_l, if_neg fun z => c2 z.symm]
end
/-- what stands behind the first signs is not larger -/
theorem B.names_len (s s' : Tx) : ∀ b : B, (b.names s).length = (b.names s').length
  | .nil => rfl
  | .cons c t r => by
    unfold B.names
    rw [List.length_append, List.length_append, List.length_map, List.length_map, B.names_len s s' r]
theorem cutT_cnt (k : Nat) (t : T) : (t.cutT k).names.length = t.names.length := by
  cases t with
  | leaf r n => rfl
  | fork s b => exact B.names_len _ _ b
theorem cutT_h {k : Nat} {t : T} : (t.cutT k).h + t.text.length = (t.text.length - k) + t.h := by
  cases t with
  | leaf r n =>
    show (r.drop k).length + r.length = (r.length - k) + r.length
    rw [List.length_drop]
  | fork s b =>
    show (s.drop k).length + b.h + s.length = (s.length - k) + (s.length + b.h)
    rw [List.length_drop]; omega
theorem brB_sub {k : Nat} {t : T} (h : t.ok) (hk : k ≤ t.text.length) {c : Tx} {u : T} (hm : (c, u) ∈ (brB k t).list) : u.names.length ≤ t.names.length ∧ u.h ≤ t.h ∧ (c ≠ [] → u.h < t.h) := by
  have single : (c, u) = behT k t → u.names.length ≤ t.names.length ∧ u.h ≤ t.h ∧ (c ≠ [] → u.h < t.h) := fun e => by
    injection e with e1 e2
    have h1 := cutT_cnt (k + 1) t
    have h2 := cutT_h (k := k + 1) (t := t)
    have h3 := T.text_h t
    rw [← e2] at h1 h2
    refine ⟨by omega, by omega, fun hc => ?_⟩
    have : k < t.text.length := by
      rcases Nat.lt_or_ge k t.text.length with q | q
      · exact q
      · exact absurd (by rw [e1, List.drop_eq_nil_of_le q]; rfl) hc
    omega
  cases t with
  | leaf r n => exact single (List.mem_singleton.mp hm)
  | fork s b =>
    unfold brB at hm
    by_cases e : s.length = k
    · simp only [e, if_true] at hm
      have h1 := T.h_sub h hm
      exact ⟨B.cnt_mem hm, Nat.le_of_lt h1, fun _ => h1⟩
    · simp only [e, if_false] at hm
      exact single (List.mem_singleton.mp hm)
theorem brB_len {k : Nat} {t : T} (h : t.ok) : (brB k t).list.length ≤ t.names.length := by
  cases t with
  | leaf r n => exact Nat.le_refl _
  | fork s b =>
    unfold brB
    by_cases e : s.length = k
    · simp only [e, if_true]; exact B.cnt_len h.2
    · simp only [e, if_false]
      have := h.1
      have h2 : b.list.length ≤ (b.names s).length := B.cnt_len h.2
      show 1 ≤ (b.names s).length
      omega
end Rt

namespace Rt
open PySem L2
structure Fine (l : Rows) : Prop where
  srt : Srt l
  ok : ∀ p ∈ l, okT p.1
  len : ∀ p ∈ l, p.1.length ≤ 40
  cnt : l.length ≤ 400
theorem Good.fine {l : Rows} (g : Good l) : Fine l := ⟨g.srt, g.ok, g.len, Nat.le_trans g.cnt (by decide)⟩
theorem Fine.tb {l : Rows} {t : OT} (g : Fine l) (r : Rep l t) : Tb 42 t :=
  Tb.of r.1 (fun x n h => g.len (x, n) ((r.find x n).mp h)) (by rw [r.2]; exact Nat.le_trans g.cnt (by decide))
theorem Fine.al {l : Rows} {t : OT} (g : Fine l) (r : Rep l t) : D.al 128 (OT.d t) := OT.al (g.tb r) (by rw [r.2]; exact g.ok)
theorem Fine.tree {l : Rows} (g : Fine l) : ∃ t, Rep l t ∧ Tb 42 t ∧ D.al 128 (OT.d t) := by
  obtain ⟨t, r⟩ := ex_rows g.srt
  exact ⟨t, r, g.tb r, g.al r⟩
theorem Fine.filter {l : Rows} (g : Fine l) (f : Tx × Int → Bool) : Fine (l.filter f) :=
  ⟨List.Pairwise.filter _ g.srt, fun p hp => g.ok p (List.mem_filter.mp hp).1, fun p hp => g.len p (List.mem_filter.mp hp).1, Nat.le_trans (List.length_filter_le _ _) g.cnt⟩
def nms (l : Rows) : List Tx := l.map (·.1)
theorem mem_nms {l : Rows} {x : Tx} : x ∈ nms l ↔ ∃ n, (x, n) ∈ l := by
  unfold nms
  rw [List.mem_map]
  exact ⟨fun ⟨p, hp, e⟩ => ⟨p.2, by rw [← e]; exact hp⟩, fun ⟨n, h⟩ => ⟨(x, n), h, rfl⟩⟩
theorem nms_find {l : Rows} {t : OT} (r : Rep l t) {x : Tx} : x ∈ nms l ↔ OT.find t x ≠ none := by
  rw [mem_nms]
  constructor
  · rintro ⟨n, h⟩ e
    have := (r.find x n).mpr h
    rw [e] at this; cases this
  · intro h
    obtain ⟨n, hn⟩ := Option.ne_none_iff_exists'.mp h
    exact ⟨n, (r.find x n).mp hn⟩
theorem disj_rows {l m : Rows} {t u : OT} (r1 : Rep l t) (r2 : Rep m u) : Disj t u ↔ ∀ p ∈ m, p.1 ∉ nms l := by
  constructor
  · intro d p hp z
    have h1 := (nms_find r1).mp z
    have h2 := (r2.find p.1 p.2).mpr hp
    rcases d p.1 with q | q
    · exact h1 q
    · rw [q] at h2; cases h2
  · intro h y
    cases e : OT.find u y with
    | none => exact .inr rfl
    | some n =>
      refine .inl ?_
      have := h (y, n) ((r2.find y n).mp e)
      rw [nms_find r1] at this
      exact Classical.byContradiction this
theorem Fine.dis2 {l m : Rows} (g : Srt l) (g2 : Srt m) (h : ∀ p ∈ m, p.1 ∉ nms l) : Dis (l ++ m) :=
  List.pairwise_append.mpr ⟨g.dis, g2.dis, fun p hp q hq e => h q hq (mem_nms.mpr ⟨p.2, by rw [← e]; exact hp⟩)⟩
theorem Fine.join {l m : Rows} (g : Fine l) (g2 : Fine m) (h : ∀ p ∈ m, p.1 ∉ nms l) (hc : l.length + m.length ≤ 400) : Fine (srtR (l ++ m)) := by
  have mem : ∀ p ∈ srtR (l ++ m), p ∈ l ∨ p ∈ m := fun p hp => List.mem_append.mp ((srtR_perm _).mem_iff.mp hp)
  refine ⟨srtR_srt (Fine.dis2 g.srt g2.srt h), fun p hp => ?_, fun p hp => ?_, ?_⟩
  · rcases mem p hp with q | q
    · exact g.ok p q
    · exact g2.ok p q
  · rcases mem p hp with q | q
    · exact g.len p q
    · exact g2.len p q
  · rw [(srtR_perm _).length_eq, List.length_append]; exact hc
theorem join_rows {l m : Rows} {t u r : OT} (r1 : Rep l t) (r2 : Rep m u) (hs : Srt l) (hs2 : Srt m) (d : Disj t u) (j : JoinR t u r) : Rep (srtR (l ++ m)) r := by
  have h := (disj_rows r1 r2).mp d
  refine Rep.of j.ok (srtR_srt (Fine.dis2 hs hs2 h)) fun x n => ?_
  rw [(srtR_perm _).mem_iff, List.mem_append, j.f]
  constructor
  · intro e
    cases q : OT.find t x with
    | some k => rw [q] at e; exact .inl ((r1.find x n).mp (by rw [q]; exact e))
    | none => rw [q] at e; exact .inr ((r2.find x n).mp e)
  · rintro (e | e)
    · rw [(r1.find x n).mpr e]; rfl
    · have h1 := h (x, n) e
      rw [nms_find r1] at h1
      rw [Classical.not_not.mp h1, (r2.find x n).mpr e]; rfl
theorem Disj.symm {t u : OT} (d : Disj t u) : Disj u t := fun y => (d y).symm
theorem JoinR.symm {t u r : OT} (d : Disj t u) (j : JoinR t u r) : JoinR u t r := ⟨j.ok, fun y => by
  rw [j.f]
  rcases d y with q | q
  · rw [q]; cases OT.find u y <;> rfl
  · rw [q]; cases OT.find t y <;> rfl⟩
theorem self_not {t : T} (h : t.ok) : ¬ Disj (some t) (some t) := fun d => by
  obtain ⟨x, n, hx⟩ := T.some_name t h
  rcases d x with q | q <;> · rw [show OT.find (some t) x = some n from hx] at q; cases q
end Rt

namespace Rt
open PySem L2
structure FineL (L : Nat) (l : Rows) : Prop where
  srt : Srt l
  ok : ∀ p ∈ l, okT p.1
  len : ∀ p ∈ l, p.1.length ≤ L
  cnt : l.length ≤ 400
theorem FineL.mono {L M : Nat} {l : Rows} (g : FineL L l) (h : L ≤ M) : FineL M l := ⟨g.srt, g.ok, fun p hp => Nat.le_trans (g.len p hp) h, g.cnt⟩
theorem Good.fineL {l : Rows} (g : Good l) : FineL 40 l := ⟨g.srt, g.ok, g.len, Nat.le_trans g.cnt (by decide)⟩
theorem FineL.tb {L : Nat} {l : Rows} {t : OT} (g : FineL L l) (r : Rep l t) : Tb (L + 2) t :=
  Tb.of r.1 (fun x n h => g.len (x, n) ((r.find x n).mp h)) (by rw [r.2]; exact Nat.le_trans g.cnt (by decide))
theorem FineL.al {L : Nat} {l : Rows} {t : OT} (g : FineL L l) (r : Rep l t) : D.al (3 * (L + 2) + 2) (OT.d t) := OT.al (g.tb r) (by rw [r.2]; exact g.ok)
theorem FineL.filter {L : Nat} {l : Rows} (g : FineL L l) (f : Tx × Int → Bool) : FineL L (l.filter f) :=
  ⟨List.Pairwise.filter _ g.srt, fun p hp => g.ok p (List.mem_filter.mp hp).1, fun p hp => g.len p (List.mem_filter.mp hp).1, Nat.le_trans (List.length_filter_le _ _) g.cnt⟩
theorem FineL.join {L : Nat} {l m : Rows} (g : FineL L l) (g2 : FineL L m) (h : ∀ p ∈ m, p.1 ∉ nms l) (hc : l.length + m.length ≤ 400) : FineL L (srtR (l ++ m)) := by
  have mem : ∀ p ∈ srtR (l ++ m), p ∈ l ∨ p ∈ m := fun p hp => List.mem_append.mp ((srtR_perm _).mem_iff.mp hp)
  refine ⟨srtR_srt (Fine.dis2 g.srt g2.srt h), fun p hp => ?_, fun p hp => ?_, ?_⟩
  · rcases mem p hp with q | q
    · exact g.ok p q
    · exact g2.ok p q
  · rcases mem p hp with q | q
    · exact g.len p q
    · exact g2.len p q
  · rw [(srtR_perm _).length_eq, List.length_append]; exact hc
/-- the rows that begin so, under another text -/
def freshR (rows : Rows) (x z : Tx) : Rows := (rows.filter (fun p => decide (p.1.take x.length = x))).map (fun p => (z ++ p.1.drop x.length, p.2))
theorem freshR_gone (rows : Rows) (x z : Tx) : freshR rows x z = (goneR rows x).map fun p => (z ++ p.1, p.2) := by
  unfold freshR goneR; rw [List.map_map]; rfl
theorem fresh_rep {rows : Rows} {x z : Tx} {b : OT} (rb : Rep (goneR rows x) b) : Rep (freshR rows x z) (OT.pre z b) :=
  ⟨OT.pre_ok rb.1 z, by rw [OT.names_pre, rb.2, freshR_gone]⟩
theorem freshR_len (rows : Rows) (x z : Tx) : (freshR rows x z).length ≤ rows.length := by
  rw [freshR_gone, List.length_map]; exact goneR_len rows x
theorem fresh_fine {rows : Rows} {x z : Tx} {L M : Nat} (g : FineL L rows) (hz : okT z) (hl : z.length ≤ M) : FineL (M + L) (freshR rows x z) := by
  refine ⟨?_, fun p hp => ?_, fun p hp => ?_, Nat.le_trans (freshR_len rows x z) g.cnt⟩
  · rw [freshR_gone]
    exact List.pairwise_map.mpr ((goneR_srt g.srt x).imp fun h => (lt_app z).mpr h)
  · obtain ⟨q, hq, rfl⟩ := List.mem_map.mp hp
    exact okT_app hz (okT_drop _ (g.ok q (List.mem_filter.mp hq).1))
  · obtain ⟨q, hq, rfl⟩ := List.mem_map.mp hp
    have := g.len q (List.mem_filter.mp hq).1
    show (z ++ q.1.drop x.length).length ≤ M + L
    rw [List.length_append, List.length_drop]; omega
theorem fresh_nil {rows : Rows} {x z : Tx} {b : OT} (rb : Rep (goneR rows x) b) : freshR rows x z = [] ↔ b = none := by
  rw [freshR_gone, List.map_eq_nil_iff, ← rb.2]
  constructor
  · intro h
    cases b with
    | none => rfl
    | some u => exact absurd h (T.names_ne rb.1)
  · rintro rfl; rfl
end Rt

namespace Rt
open PySem PySem.Spec PyProof.Rows L2
section
variable {P : Program} {w : World} {K : PySem.W.Frag} {mg : Str → Option Value} {base : Heap}
theorem tf_eq (vg : V) (l : Addr) : tf vg l = [(("grown" : Str), vg), (("past" : Str), .ref l)] := by
  show (if ("grown" : Str) = "past" then [(("grown" : Str), V.ref l)] else (("grown" : Str), vg) :: putF "past" (V.ref l) []) = _
  rw [if_neg gp_ne]; rfl
theorem tf_put (vg v : V) (l : Addr) : putF "grown" v (tf vg l) = tf v l := by
  rw [tf_eq, tf_eq]
  show (if ("grown" : Str) = "grown" then _ else _) = _
  rw [if_pos rfl]
/-- a trail stands at p, its past at l -/
structure TrAt (K : PySem.W.Frag) (C : Addr) (H : Hp) (p l : Addr) (g : OT) (past : List OT) : Prop where
  ex : ∃ dx vg vs, H p = some (.ins C dx (tf vg l)) ∧ Dt K H (OT.d g) vg ∧ H l = some (.lst vs) ∧ Dts K H (past.map OT.d) vs
theorem TrAt.tr {C : Addr} {H : Hp} {p l : Addr} {g : OT} {past : List OT} (h : TrAt K C H p l g past) : TrailAt K C H p g past := by
  obtain ⟨dx, vg, vs, h1, h2, h3, h4⟩ := h.ex
  exact ⟨dx, l, vg, vs, h1, h2, h3, h4⟩
theorem TrAt.mono {C : Addr} {H H' : Hp} {p l : Addr} {g : OT} {past : List OT} (e : Same H H') (h : TrAt K C H p l g past) : TrAt K C H' p l g past := by
  obtain ⟨dx, vg, vs, h1, h2, h3, h4⟩ := h.ex
  exact ⟨dx, vg, vs, e _ _ h1, Dt.mono e _ h2, e _ _ h3, Dts.mono e _ h4⟩
/-- all but p and l stands -/
def Keep2 (p l : Addr) (H H' : Hp) : Prop := ∀ b o, b ≠ p → b ≠ l → H b = some o → H' b = some o
theorem Keep2.trans {p l : Addr} {H H1 H2 : Hp} (a : Keep2 p l H H1) (b : Keep2 p l H1 H2) : Keep2 p l H H2 := fun c o n1 n2 h => b c o n1 n2 (a c o n1 n2 h)
theorem Same.keep2 {p l : Addr} {H H' : Hp} (e : Same H H') : Keep2 p l H H' := fun b o _ _ h => e b o h
/-- tuples and locked things stand -/
structure TupK (H H' : Hp) : Prop where
  t : ∀ a xs, H a = some (.tup xs) → H' a = some (.tup xs)
  f : ∀ a o u, H a = some (.frz o u) → H' a = some (.frz o u)
theorem TupK.fz {H H' : Hp} (k : TupK H H') {a : Addr} {xs : List V} (h : Fz K H a xs) : Fz K H' a xs := by
  rcases h with ⟨o, h⟩ | h
  · exact .inl ⟨o, k.f _ _ _ h⟩
  · exact .inr h
mutual
theorem Dt.tupK {H H' : Hp} (k : TupK H H') : ∀ (d : D) {v : V}, d.imm = true → Dt K H d v → Dt K H' d v
  | .non, _, _, h => h
  | .bl _, _, _, h => h
  | .int _, _, _, h => h
  | .str _, _, _, h => h
  | .raw _, _, _, h => h
  | .scr _, _, _, ⟨a, h1, h2⟩ => ⟨a, h1, k.fz h2⟩
  | .tup ds, _, i, ⟨a, vs, h1, h2, h3⟩ => ⟨a, vs, h1, k.t _ _ h2, Dts.tupK k ds i h3⟩
  | .lst ds, _, i, _ => by cases i
theorem Dts.tupK {H H' : Hp} (k : TupK H H') : ∀ (ds : List D) {vs : List V}, D.imms ds = true → Dts K H ds vs → Dts K H' ds vs
  | [], _, _, h => h
  | d :: ds, _, i, ⟨v, r, h1, h2, h3⟩ => by
    have i' : (d.imm && D.imms ds) = true := i
    rw [Bool.and_eq_true] at i'
    exact ⟨v, r, h1, Dt.tupK k d i'.1 h2, Dts.tupK k ds i'.2 h3⟩
end
theorem TrAt.tupK {C : Addr} {H H' : Hp} {p l : Addr} {g : OT} {past : List OT} (h : TrAt K C H p l g past) (k : Keep2 p l H H') : TupK H H' := by
  obtain ⟨dx, vg, vs, h1, h2, h3, h4⟩ := h.ex
  exact ⟨fun a xs e => k a _ (ne_of e h1 (by intro q; cases q)) (ne_of e h3 (by intro q; cases q)) e, fun a o u e => k a _ (ne_of e h1 (by intro q; cases q)) (ne_of e h3 (by intro q; cases q)) e⟩
theorem past_imm (past : List OT) : D.imms (past.map OT.d) = true := D.imms_map fun t _ => OT.imm t
theorem ev_fldG2 {σ : L2.St} {H : Hp} {ta : TE} {C p l : Addr} {g : OT} {past : List OT} (T : TrC K mg C) (ha : Ev K ta σ H (.raw (.ref p))) (h : TrAt K C H p l g past) : Ev K (tFld K ta "grown") σ H (OT.d g) := ev_fldG T ha h.tr
theorem ev_fldP {σ : L2.St} {H : Hp} {ta : TE} {C p l : Addr} {g : OT} {past : List OT} (T : TrC K mg C) (ha : Ev K ta σ H (.raw (.ref p))) (h : TrAt K C H p l g past) : Ev K (tFld K ta "past") σ H (.raw (.ref l)) := fun H1 a Q q =>
  ha H1 a _ fun x H2 s2 hx => by
    obtain ⟨dx, vg, vs, h1, h2, h3, h4⟩ := (h.mono (a.trans s2)).ex
    exact ⟨p, C, dx, _, .ref l, hx, h1, T.cl, T.nP, tf_past _ _, q _ _ s2 rfl⟩
/-- self.grown = e -/
theorem s_setG {σ : L2.St} {H : Hp} {ta tv : TE} {E : Ends} {C p l : Addr} {g t : OT} {past : List OT} (T : TrC K mg C) (hv : Ev K tv σ H (OT.d t)) (ha : Ev K ta σ H (.raw (.ref p))) (h : TrAt K C H p l g past) (k : ∀ H', Keep2 p l H H' → TrAt K C H' p l t past → E.nx σ H') : sFld K ta tv "grown" E σ H :=
  hv H (Same.refl H) _ fun y H1 e1 hy => ha H1 e1 _ fun x H2 e2 hx => by
    have h' := h.mono (e1.trans e2)
    obtain ⟨dx, vg, vs, h1, h2, h3, h4⟩ := h'.ex
    refine ⟨p, C, dx, _, hx, h1, T.cl, T.nG, by rw [tf_eq]; show 2 < 1000; decide, ?_⟩
    have npl : l ≠ p := ne_of h3 h1 (by intro q; cases q)
    have kp : Keep2 p l H2 (upd H2 p (.ins C dx (putF "grown" y (tf vg l)))) := fun b o n1 _ e => by rw [upd_ne n1]; exact e
    have tk := h'.tupK kp
    exact k _ ((Same.keep2 (e1.trans e2)).trans kp) ⟨dx, y, vs, by rw [upd_same, tf_put], Dt.tupK tk _ (OT.imm t) (Dt.mono e2 _ hy), by rw [upd_ne npl]; exact h3, Dts.tupK tk _ (past_imm past) h4⟩
/-- the trail's names -/
structure TrOk (g : OT) (rows : Rows) : Prop where
  rep : Rep rows g
  fine : FineL 40 rows
  cnt : rows.length ≤ 100
theorem TrOk.tb {g : OT} {rows : Rows} (h : TrOk g rows) : Tb 42 g := h.fine.tb h.rep
theorem TrOk.nil : TrOk none [] := ⟨⟨trivial, rfl⟩, ⟨List.Pairwise.nil, fun p h => (by cases h), fun p h => (by cases h), Nat.zero_le _⟩, Nat.zero_le _⟩
end
end Rt

namespace Rt
open PySem L2
structure ThinR (t : OT) (x : Tx) (r : OT) : Prop where
  ok : OT.ok r
  f : ∀ y, OT.find r y = if y = x then none else OT.find t y
theorem ThinR.ex {t : OT} (h : OT.ok t) (x : Tx) : ∃ r, ThinR t x r := by
  obtain ⟨r, h1, h2⟩ := ex_only h (fun y => !decide (y = x))
  refine ⟨r, h1, fun y => ?_⟩
  rw [h2]
  by_cases c : y = x
  · rw [if_pos c, decide_eq_true c]; rfl
  · rw [if_neg c, decide_eq_false c]; rfl
theorem ThinR.uniq {t : OT} {x : Tx} {r r' : OT} (h : ThinR t x r) (h' : ThinR t x r') : r = r' := OT.ext h.ok h'.ok fun y => by rw [h.f, h'.f]
theorem thin_leaf (x : Tx) (n : Int) : ThinR (some (.leaf x n)) x none := ⟨trivial, fun y => by
  show none = if y = x then none else (T.leaf x n).find y
  rw [T.find_l]
  by_cases c : y = x
  · rw [if_pos c]
  · rw [if_neg c, if_neg fun z => c z.symm]⟩
theorem thin_fork {s x : Tx} {b : B} {u : T} {left : OT} (h : (T.fork s b).ok) (hp : s <+: x) (hu : b.look ((x.drop s.length).take 1) = some u) (c : ThinR (some u) ((x.drop s.length).drop 1) left) :
    ThinR (some (.fork s b)) x (some (knotB s (withB b ((x.drop s.length).take 1) left))) ∧ (withB b ((x.drop s.length).take 1) left).ok := by
  have w1 := withB_one (y := (x.drop s.length).take 1) (t := left) h.2 h.1
  have wok : (withB b ((x.drop s.length).take 1) left).ok := withB_ok h.2 (by rw [List.length_take]; omega) fun v hv => by
    have ok := c.ok
    rw [hv] at ok
    refine ⟨ok, fun z => ?_⟩
    exfalso
    obtain ⟨_, _, l3, _⟩ := B.ok_sub h.2 (B.look_mem hu)
    obtain ⟨n, rfl⟩ := l3 z
    have xd : (x.drop s.length).drop 1 = [] := by
      cases q : x.drop s.length with
      | nil => rfl
      | cons a r => rw [q] at z; cases z
    obtain ⟨y, m, hy⟩ := T.some_name v ok
    have := c.f y
    rw [hv, show OT.find (some v) y = v.find y from rfl, hy, xd] at this
    by_cases e : y = []
    · rw [if_pos e] at this; cases this
    · rw [if_neg e, show OT.find (some (T.leaf [] n)) y = (T.leaf [] n).find y from rfl, T.find_l, if_neg fun q => e q.symm] at this; cases this
  refine ⟨⟨knotB_ok wok w1, fun y => ?_⟩, wok⟩
  show (knotB s _).find y = if y = x then none else (T.fork s b).find y
  rw [find_knotB wok w1, find_withB]
  by_cases q : s <+: y ∧ (y.drop s.length).take 1 = (x.drop s.length).take 1
  · rw [if_pos q, c.f, T.find_fl, if_pos q.1, q.2, hu]
    have sn := split_name hp y q
    by_cases e : y = x
    · rw [if_pos e, if_pos (sn.mpr e)]
    · rw [if_neg e, if_neg fun z => e (sn.mp z)]
  · rw [if_neg q]
    have : y ≠ x := fun e => q (by rw [e]; exact ⟨hp, rfl⟩)
    rw [if_neg this]
theorem ThinR.h1 {t : OT} {x : Tx} {r : OT} (c : ThinR t x r) (h : OT.ok t) : OT.h r ≤ OT.h t := OT.h_le c.ok fun y n e => by
  rw [c.f] at e
  split at e
  · cases e
  · exact OT.len_h h e
theorem withB_text {s y : Tx} {b : B} {a : OT} (h : (T.fork s b).ok) (wok : (withB b y a).ok) {N : Nat} (hn : (T.fork s b).h ≤ N) (ha : OT.h a ≤ N) (h1 : 1 ≤ N) : ∀ p ∈ (withB b y a).list, p.1.length ≤ N ∧ p.2.text.length ≤ N := fun p hpm => by
  refine ⟨Nat.le_trans (B.ok_sub (y := p.1) (t := p.2) wok hpm).1 h1, ?_⟩
  have h2 := T.text_h p.2
  rcases withB_mem.mp hpm with q | q
  · have h1 : p.2.h < (T.fork s b).h := T.h_sub (s := s) (b := b) (c := p.1) (t := p.2) h q.1
    omega
  · rw [q.1] at ha
    have h5 : p.2.h ≤ N := ha
    omega
end Rt

namespace Rt
open PySem PySem.Spec PyProof.Rows L2
section
variable {P : Program} {w : World} {K : PySem.W.Frag} {mg : Str → Option Value} {base : Heap}
def SpDo (K : PySem.W.Frag) (C : Addr) : Sp := fun vs H Q _ => ∃ p l g past t v, vs = [.ref p, v] ∧ TrAt K C H p l g past ∧ Dt K H (OT.d t) v ∧ past.length ≤ 10000 ∧ ∀ H', Keep2 p l H H' → TrAt K C H' p l t (past ++ [g]) → Q .non H'
theorem met_do {CTrail : Addr} (F : MDfn K CTrail "do" "Trail.do" s_Trail_do ["self", "tree"]) (BU : Bl mg) (x_Trail : TrC K mg CTrail) : MetX P w K mg base CX0 1 CTrail "do" (SpDo K CTrail) := by
  refine met_sp F sc_Trail_do (fun vs H Q E h => by obtain ⟨p, l, g, past, t, v, rfl, _⟩ := h; rfl) fun cdv A outer s f H vs Q E hr h => ?_
  obtain ⟨p, l, g, past, t, v, rfl, ht, hv, hz, k⟩ := h
  have S0 : Sl K H [some (.raw (.ref p)), some (OT.d t)] (start ["self", "tree"] [.ref p, v]) := ⟨_, _, rfl, rfl, _, _, rfl, hv, rfl⟩
  refine ⟨_, (pss_cons (ps_expr (pe_bm PySem.F.plainAttrs_list PySem.F.slot_list_append PySem.F.type_list_append mt_append (pe_fld (pv 0) rfl) (pa_cons (pe_fld (pv 0) rfl) pa_nil))) (pss_one (ps_fld (pv 0) (pv 1) rfl))), ?_⟩
  try dsimp only [cxOf]
  generalize start _ [V.ref p, v] = σ at *
  obtain ⟨dx, vg, vs, h1, h2, h3, h4⟩ := ht.ex
  have npl : p ≠ l := ne_of h1 h3 (by intro q; cases q)
  refine q_app (l := l) h3 h4 (past_imm past) (ev_fldP x_Trail (ev_var S0 (by rfl)) ht) (ev_fldG2 x_Trail (ev_var S0 (by rfl)) ht) (OT.imm g) (by rw [List.length_map]; omega) fun ws H1 c1 hl1 hd1 => ?_
  have t1 : TrAt K CTrail H1 p l g (past ++ [g]) := ⟨dx, vg, ws, c1.keep npl h1, c1.dt (OT.imm g) h2, hl1, by rw [List.map_append]; exact hd1⟩
  have S1 : Sl K H1 [some (.raw (.ref p)), some (OT.d t)] σ := c1.sl (immS_of (by show (true && ((OT.d t).imm && true)) = true; rw [OT.imm]; rfl)) S0
  exact s_setG x_Trail (t := t) (ev_var S1 (by rfl)) (ev_var S1 (by rfl)) t1 fun H2 k2 t2 => k H2 (fun b o n1 n2 e => k2 b o n1 n2 (c1.keep n2 e)) t2
end
end Rt

namespace Rt
open PySem PySem.Spec PyProof.Rows L2
section
variable {P : Program} {w : World} {K : PySem.W.Frag} {mg : Str → Option Value} {base : Heap}
def Rnames (N : Nat) : List D → List D → Prop := fun ds es => ∃ t : OT, ds = [OT.d t] ∧ Tb N t ∧ es = (OT.names t).map rowD
theorem cal_names (F : Dfn K mg "names" s_names ["tree"]) (BU : Bl mg) : ∀ N, N ≤ 900 → Cal P w K mg base CX0 (N + 1) "names" (FnN K (Rnames N))
  | 0, _ => cal_none F fun vs H Q E h => by
    obtain ⟨_, _, _, ⟨t, _, ht, _⟩, _⟩ := h
    exact absurd ht.h (by omega)
  | N + 1, hN => by
    have c_names := cal_names F BU N (by omega)
    refine cal_fnN F sc_names (fun ds d h => by obtain ⟨a, rfl, _⟩ := h; rfl) fun cdv A outer s f H vs ds es hr hR S0 => ?_
    obtain ⟨t, rfl, ht, rfl⟩ := hR
    refine ⟨_, (pss_cons (ps_if (pt_cmpR op_isN (pv 0) pe_non (nomark _)) (pss_one (ps_ret (pe_lst pa_nil))) pss_nil) (pss_cons (ps_if (pt_cmpR op_eq (pe_ix ix_tup (pv 0) pe_int (fun _ _ => rfl)) pe_str (nomark _)) (pss_one (ps_ret (pe_lst (pa_cons (pe_tup (pa_cons (pe_ix ix_tup (pv 0) pe_int (fun _ _ => rfl)) (pa_cons (pe_ix ix_tup (pv 0) pe_int (fun _ _ => rfl)) pa_nil))) pa_nil)))) pss_nil) (pss_cons (ps_set (i := 1) sc_names.nd rfl (Or.inl rfl) (pe_lst pa_nil)) (pss_cons (ps_for PassesOwn.never rfl (pi_tup (pe_ix ix_tup (pv 0) pe_int (fun _ _ => rfl))) (pg_name (i := 2) sc_names.nd rfl (Or.inl rfl)) (pss_one (ps_for PassesOwn.never rfl (pi_list (pe_c c_names hr (by omega) (by rfl) (pa_cons (pe_ix ix_tup (pv 2) pe_int (fun _ _ => rfl)) pa_nil))) (pg_name (i := 3) sc_names.nd rfl (Or.inl rfl)) (pss_one (ps_expr (pe_bm PySem.F.plainAttrs_list PySem.F.slot_list_append PySem.F.type_list_append mt_append (pv 1) (pa_cons (pe_tup (pa_cons (pe_op op_add_str (pe_op op_add_str (pe_ix ix_tup (pv 0) pe_int (fun _ _ => rfl)) (pe_ix ix_tup (pv 2) pe_int (fun _ _ => rfl))) (pe_ix ix_tup (pv 3) pe_int (fun _ _ => rfl))) (pa_cons (pe_ix ix_tup (pv 3) pe_int (fun _ _ => rfl)) pa_nil))) pa_nil))))))) (pss_one (ps_ret (pv 1))))))), fun nx Q kr => ?_⟩
    try dsimp only [cxOf]
    generalize start _ vs = σ at *
    cases t with
    | none =>
      refine q_ifT (by walk_at "etq") fun H1 e1 => ?_
      exact s_retN (K := K) (en_lst ea_nil (by decide)) fun p vs H2 hp e2 h1 h2 => kr p vs H2 (e1.free hp) (e1.trans e2) h1 h2
    | some t =>
      refine q_ifF0 (EvT.to (by walk_at "ev") (by exact T.not_non t)) fun H1 e1 => ?_
      have S1 := S0.mono e1
      cases t with
      | leaf r n =>
        refine q_ifT (by walk_at "etq") fun H2 e2 => ?_
        have S2 := S1.mono e2
        refine s_retN (es := [rowD (r, n)]) (en_lst (ea_cons (ds := []) (d := rowD (r, n)) (by walk_at "evq") ea_nil) (by show 1 ≤ 100000; decide)) fun p vs H3 hp e3 h1 h2 => kr p vs H3 (e1.free (e2.free hp)) ((e1.trans e2).trans e3) h1 h2
      | fork s0 b =>
        refine q_ifF0 (EvT.to (by walk_at "ev") (by exact decide_eq_false fork_leaf)) fun H2 e2 => ?_
        have S2 : Sl K H2 [some (.tup [.str tFork, .str s0, .tup (b.list.map brD)]), none, none, none] σ := by rw [← B.d_list]; exact S1.mono e2
        have hb := ht.len
        have hcnt : (b.names s0).length ≤ 1000 := ht.cnt
        have hh : (T.fork s0 b).h + 1 < N + 1 := ht.h
        have ltx : s0.length < N + 1 := ht.text
        refine q_asgN S2 (en_lst ea_nil (by decide)) fun l ls σ3 H3 l0 e3 hl hd S3 => ?_
        refine q_forTB (xs := b.list) (enc := brD) (by walk_at "ev") (fun a _ => brD_imm a) (fun i ds es => ∃ x y, ds = [some (.tup [.str tFork, .str s0, .tup (b.list.map brD)]), some (.raw (.ref l)), x, y] ∧ es = (namesL s0 (b.list.take i)).map rowD) S3 ⟨none, none, rfl, by rw [List.take_zero]; rfl⟩ hl hd ?_ ?_
        · rintro i p hp ds es vs σ4 H4 N4 ⟨x, y, rfl, rfl⟩ sm4 S4 hl4 hd4 kN
          have hpm := List.mem_of_getElem? hp
          have hpl : (p.1, p.2) ∈ b.list := hpm
          have hok := B.ok_sub ht.ok.2 hpl
          have h1 : p.2.h < (T.fork s0 b).h := T.h_sub (s := s0) (b := b) (c := p.1) (t := p.2) ht.ok hpl
          have hc1 : p.2.names.length ≤ (b.names s0).length := B.cnt_mem hpl
          have tbp : Tb N (some p.2) := ⟨hok.2.1, by show p.2.h + 1 < N; omega, by show p.2.names.length ≤ 1000; omega⟩
          have lc := hok.1
          have et : b.list.take (i + 1) = b.list.take i ++ [p] := by rw [List.take_add_one, hp]; rfl
          have hlen : (namesL s0 (b.list.take i) ++ p.2.names.map fun q => (s0 ++ p.1 ++ q.1, q.2)).length ≤ 2000 := by
            have h5 : (namesL s0 (b.list.take i) ++ p.2.names.map fun q => (s0 ++ p.1 ++ q.1, q.2)).length ≤ (b.names s0).length := by
              have e9 : namesL s0 (b.list.take i) ++ (p.2.names.map fun q => (s0 ++ p.1 ++ q.1, q.2)) = namesL s0 (b.list.take (i + 1)) := by rw [et, namesL_app]; simp [namesL]
              rw [e9, B.names_flat]
              have e8 : namesL s0 b.list = namesL s0 (b.list.take (i + 1)) ++ namesL s0 (b.list.drop (i + 1)) := by rw [← namesL_app, List.take_append_drop]
              rw [e8, List.length_append]; omega
            omega
          refine s_forLB (xs := p.2.names) (enc := rowD) ((en_call (ds := [p.2.d]) (es := p.2.names.map rowD) (by walk_at "ev") ⟨some p.2, rfl, tbp, rfl⟩).apart hl4) (fun a _ => rowD_imm a)
            (fun j ds es => ∃ y, ds = [some (.tup [.str tFork, .str s0, .tup (b.list.map brD)]), some (.raw (.ref l)), some (brD p), y] ∧ es = (namesL s0 (b.list.take i) ++ (p.2.names.take j).map fun q => (s0 ++ p.1 ++ q.1, q.2)).map rowD) S4 ⟨y, rfl, by rw [List.take_zero, List.map_nil, List.append_nil]⟩ hl4 hd4 ?_ ?_
          · rintro j q hq ds es vs σ5 H5 N5 ⟨y, rfl, rfl⟩ sm5 S5 hl5 hd5 kN5
            have hqm : (q.1, q.2) ∈ p.2.names := List.mem_of_getElem? hq
            have lq := T.len_h p.2 q.1 q.2 hqm
            have et2 : p.2.names.take (j + 1) = p.2.names.take j ++ [q] := by rw [List.take_add_one, hq]; rfl
            have lj : (p.2.names.take j).length ≤ p.2.names.length := by rw [List.length_take]; omega
            have i1 : D.imms (b.list.map brD) = true := D.imms_map fun p _ => brD_imm p
            have S5' : Sl K H5 [some (.tup [.str tFork, .str s0, .tup (b.list.map brD)]), some (.raw (.ref l)), some (.tup [.str p.1, p.2.d]), some (.tup [.str q.1, .int q.2])] σ5 := S5
            refine s_app hl5 hd5 (D.imms_map fun p _ => rowD_imm p) (by walk_at "ev") (d := rowD (s0 ++ p.1 ++ q.1, q.2)) (by walk_at "evq") (rowD_imm _) ?_ fun ws H6 c6 hl6 hd6 => kN5 _ _ _ _ _ ⟨some (rowD q), rfl, ?_⟩ c6.sm (c6.sl (immS_of ?_) S5) hl6 hd6
            · simp only [List.length_map, List.length_append] at hlen ⊢
              omega
            · rw [et2, List.map_append]
              simp only [List.map_append, List.map_cons, List.map_nil, List.append_assoc]
            · have i2 := brD_imm p
              have i3 := rowD_imm q
              simp [immS, D.imm, D.imms, i1, i2, i3]
          · rintro ds es vs σ5 H5 ⟨y, rfl, rfl⟩ sm5 S5 hl5 hd5
            refine kN _ _ _ _ _ ⟨some (brD p), y, rfl, ?_⟩ sm5 S5 hl5 hd5
            rw [et, namesL_app, List.take_of_length_le (Nat.le_refl _)]
            simp [namesL]
        · rintro ds es vs σ4 H4 ⟨x, y, rfl, rfl⟩ sm4 S4 hl4 hd4
          rw [List.take_of_length_le (Nat.le_refl _), ← B.names_flat] at hd4
          have e14 := sm4.same0 (e1.free (e2.free l0)) ((e1.trans e2).trans e3)
          exact s_ret (d := .raw (.ref l)) (by walk_at "ev") fun v H5 e5 hv => by
            rw [show v = .ref l from hv]
            exact kr l vs H5 (e1.free (e2.free l0)) (e14.trans e5) (e5 _ _ hl4) (Dts.mono e5 _ hd4)
end
end Rt

namespace Rt
open PySem PySem.Spec PyProof.Rows L2
section
variable {P : Program} {w : World} {K : PySem.W.Frag} {mg : Str → Option Value} {base : Heap}
def Rcommon : List D → D → Prop := fun ds d => ∃ a b : Tx, ds = [.str a, .str b] ∧ a.length ≤ 100000 ∧ b.length ≤ 100000 ∧ d = .str (comL a b)
theorem Rcommon_mk {a b : Tx} (ha : a.length ≤ 100000) (hb : b.length ≤ 100000) : Rcommon [.str a, .str b] (.str (comL a b)) := ⟨a, b, rfl, ha, hb, rfl⟩
local macro_rules | `(tactic| walk_at "call") => `(tactic| (with_reducible refine Rt.Rcommon_mk ?_ ?_ <;> walk_at "side"))
theorem cal_common (F : Dfn K mg "common" s_common ["one", "other"]) (BU : Bl mg) : Cal P w K mg base CX0 1 "common" (Fn K Rcommon) := by
  refine cal_fn F sc_common (fun ds d h => by obtain ⟨a, b, rfl, _⟩ := h; rfl) fun cdv A outer s f H vs ds d hr hR S0 => ?_
  obtain ⟨a, b, rfl, ha, hb, rfl⟩ := hR
  refine ⟨_, (pss_cons (ps_set (i := 2) sc_common.nd rfl (Or.inl rfl) pe_int) (pss_cons (ps_while PassesOwn.never (PW.pt (pw_and (pt_cmpR op_lt (pv 2) (pe_callB call_len_str (by rfl) BU.len_ PySem.boot_len (pa_cons (pv 0) pa_nil)) (nomark _)) (pw_and (pt_cmpR op_lt (pv 2) (pe_callB call_len_str (by rfl) BU.len_ PySem.boot_len (pa_cons (pv 1) pa_nil)) (nomark _)) (pw_and1 (pt_cmpR op_eq (pe_ix ix_str (pv 0) (pv 2) (fun _ _ => rfl)) (pe_ix ix_str (pv 1) (pv 2) (fun _ _ => rfl)) (nomark _)))))) (pss_one (ps_set (i := 2) sc_common.nd rfl (Or.inl rfl) (pe_op op_add (pv 2) pe_int)))) (pss_one (ps_ret (pe_slice sl_str (pv 0) po_none (po_some (pv 2))))))), fun nx Q kn kr => ?_⟩
  try dsimp only [cxOf]
  generalize start _ vs = σ at *
  refine q_asg S0 (by walk_at "ev") fun σ1 H1 e1 S1 => ?_
  refine q_while (fun m ds => ∃ k : Nat, ds = [some (.str a), some (.str b), some (.int (k : Int))] ∧ a.take k = b.take k ∧ k ≤ a.length ∧ k ≤ b.length ∧ m = a.length - k) a.length S1 ⟨0, rfl, by simp, by simp, by simp, by simp⟩ ?_
  rintro m ds σ2 H2 ⟨k, rfl, h1, h2, h3, rfl⟩ e2 S2
  have cs := com_step k a b h1 h2 h3
  refine ⟨_, et_and (b := decide ((k : Int) < (b.length : Int)) && decide ([a.getD k 0] = [b.getD k 0])) (by walk_at "ev") fun c1 => et_and (by walk_at "ev") fun c2 => ?_, fun c H3 N e3 kN => ?_, fun c H3 e3 => ?_⟩
  · have i1 := atI_some (l := a) (k := k) (by have := of_decide_eq_true c1; omega)
    have i2 := atI_some (l := b) (k := k) (by have := of_decide_eq_true c2; omega)
    walk_at "ev"
  · rw [Bool.and_eq_true, Bool.and_eq_true, decide_eq_true_eq, decide_eq_true_eq, decide_eq_true_eq] at c
    obtain ⟨c1, c2, c3⟩ := c
    have S3 := S2.mono e3
    have c3' := (getD_eq (by omega) (by omega)).mp c3
    exact s_asg S3 (by walk_at "evq") fun σ4 H4 e4 S4 => kN _ _ _ _ (by omega) ⟨k + 1, rfl, take_succ_eq h1 c3', by omega, by omega, rfl⟩ e4 S4
  · have S3 := S2.mono e3
    have ek : (comL a b).length = k := cs.2.2 (fun z => by
      have z3 := (getD_eq z.1 z.2.1).mpr z.2.2
      have : (decide ((k : Int) < (a.length : Int)) && (decide ((k : Int) < (b.length : Int)) && decide ([a.getD k 0] = [b.getD k 0]))) = true := by
        rw [decide_eq_true (by omega), decide_eq_true (by omega), decide_eq_true z3]; rfl
      rw [this] at c; cases c)
    refine s_ret (d := .str (comL a b)) (Ev.to (by walk_at "ev") ?_) fun v H4 e4 hv => kr v H4 (((e1.trans e2).trans e3).trans e4) hv
    rw [cutL_to, ← ek, comL_take]
end
end Rt
local macro_rules | `(tactic| walk_at "call") => `(tactic| (with_reducible refine Rt.Rcommon_mk ?_ ?_ <;> walk_at "side"))
namespace Rt
open PySem PySem.Spec PyProof.Rows L2
section
variable {P : Program} {w : World} {K : PySem.W.Frag} {mg : Str → Option Value} {base : Heap}
def Rbranch_of : List D → D → Prop := fun ds d => ∃ (b : B) (y : Tx), ds = [.tup b.d, .str y] ∧ d = OT.d (b.look y)
theorem Rbranch_of_mk {b : B} {y : Tx} : Rbranch_of [.tup b.d, .str y] (OT.d (b.look y)) := ⟨b, y, rfl, rfl⟩
local macro_rules | `(tactic| walk_at "call") => `(tactic| with_reducible exact Rt.Rbranch_of_mk)
theorem cal_branch_of (F : Dfn K mg "branch_of" s_branch_of ["branches", "sign"]) (BU : Bl mg) : Cal P w K mg base CX0 1 "branch_of" (Fn K Rbranch_of) := by
  refine cal_fn F sc_branch_of (fun ds d h => by obtain ⟨a, b, rfl, _⟩ := h; rfl) fun cdv A outer s f H vs ds d hr hR S0 => ?_
  obtain ⟨b, y, rfl, rfl⟩ := hR
  refine ⟨_, (pss_cons (ps_for PassesOwn.never rfl (pi_tup (pv 0)) (pg_name (i := 2) sc_branch_of.nd rfl (Or.inl rfl)) (pss_one (ps_if (pt_cmpR op_eq (pe_ix ix_tup (pv 2) pe_int (fun _ _ => rfl)) (pv 1) (nomark _)) (pss_one (ps_ret (pe_ix ix_tup (pv 2) pe_int (fun _ _ => rfl)))) pss_nil))) (pss_one (ps_ret pe_non))), fun nx Q kn kr => ?_⟩
  try dsimp only [cxOf]
  generalize start _ vs = σ at *
  rw [B.d_list] at S0
  refine q_forT (l := b.list) (enc := brD) (by walk_at "ev") (fun i ds => ∃ x, ds = [some (.tup (b.list.map brD)), some (.str y), x] ∧ b.look y = lookL (b.list.drop i) y) S0 ⟨none, rfl, by rw [List.drop_zero, B.look_list]⟩ ?_ ?_
  · rintro i p hp ds σ1 H1 N ⟨x, rfl, hl⟩ e1 S1 kN
    have hd : b.list.drop i = p :: b.list.drop (i + 1) := by
      obtain ⟨h1, h2⟩ := List.getElem?_eq_some_iff.mp hp
      rw [List.drop_eq_getElem_cons h1, h2]
    rw [hd] at hl
    refine s_if (b := decide (p.1 = y)) (by walk_at "ev") (fun c H2 e2 => ?_) (fun c H2 e2 => ?_)
    · have c' := of_decide_eq_true c
      have S2 := S1.mono e2
      have hl' : b.look y = some p.2 := by rw [hl]; unfold lookL; rw [if_pos c']
      rw [hl'] at kr
      exact s_ret (d := p.2.d) (by walk_at "ev") fun v H3 e3 hv => kr v H3 ((e1.trans e2).trans e3) hv
    · have c' := of_decide_eq_false c
      exact kN _ _ _ ⟨_, rfl, by rw [hl]; show (if p.1 = y then _ else _) = _; rw [if_neg c']⟩ e2 (S1.mono e2)
  · rintro ds σ1 H1 ⟨x, rfl, hl⟩ e1 S1
    have hl' : b.look y = none := by rw [hl, List.drop_length]; rfl
    rw [hl'] at kr
    exact s_ret (K := K) ev_non fun v H3 e3 hv => kr v H3 (e1.trans e3) hv
end
end Rt
local macro_rules | `(tactic| walk_at "call") => `(tactic| with_reducible exact Rt.Rbranch_of_mk)
namespace Rt
open PySem PySem.Spec PyProof.Rows L2
section
variable {P : Program} {w : World} {K : PySem.W.Frag} {mg : Str → Option Value} {base : Heap}
def Rwith : List D → D → Prop := fun ds d => ∃ (b : B) (y : Tx) (t : OT), ds = [.tup b.d, .str y, OT.d t] ∧ b.list.length ≤ 3000 ∧ d = .tup (withB b y t).d
theorem Rwith_mk {b : B} {y : Tx} {t : OT} (h : b.list.length ≤ 1000) : Rwith [.tup b.d, .str y, OT.d t] (.tup (withB b y t).d) := ⟨b, y, t, rfl, Nat.le_trans h (by decide), rfl⟩
theorem OT.isNon (t : OT) : (OT.d t).isNon = t.isNone := by
  cases t with
  | none => rfl
  | some t => exact T.not_non t
theorem cal_with_branch (F : Dfn K mg "with_branch" s_with_branch ["branches", "sign", "tree"]) (BU : Bl mg) : Cal P w K mg base CX0 1 "with_branch" (Fn K Rwith) := by
  refine cal_fn F sc_with_branch (fun ds d h => by obtain ⟨a, b, t, rfl, _⟩ := h; rfl) fun cdv A outer s f H vs ds d hr hR S0 => ?_
  obtain ⟨b, y, t, rfl, hz, rfl⟩ := hR
  refine ⟨_, (pss_cons (ps_setLc (i := 3) (own := [("branch", 4)]) (g := gName 4) (by rfl) sc_with_branch.nd rfl rfl (sw_true rfl rfl rfl (by decide +kernel)) (pi_tup (pv 0)) (blkOk_by (own := [("branch", 4)]) (N := N_with_branch) (sc := defScope s_with_branch) (by decide +kernel)) (fun _ _ _ _ _ => pg_name (i := 4) sc_with_branch.nd rfl (Or.inl rfl)) (fun _ _ _ _ _ => (pts_one (pt_cmpR op_lt_str (pe_ix (r := rIxT K) ix_tup (pv 4) pe_int (fun _ _ => rfl)) (pv 1) (nomark _)))) (fun _ _ _ _ _ => (pv 4))) (pss_cons (ps_if (pt_cmpR op_notN (pv 2) pe_non (nomark _)) (pss_one (ps_expr (pe_bm PySem.F.plainAttrs_list PySem.F.slot_list_append PySem.F.type_list_append mt_append (pv 3) (pa_cons (pe_tup (pa_cons (pv 1) (pa_cons (pv 2) pa_nil))) pa_nil)))) pss_nil) (pss_one (ps_ret (pe_callTy call_tuple_of (by rfl) BU.tuple_ (by decide +kernel) (pa_cons (pe_op op_cat (pv 3) (pe_lc (own := [("branch", 4)]) (g := gName 4) (by rfl) sc_with_branch.nd (pi_tup (pv 0)) (blkOk_by (own := [("branch", 4)]) (N := N_with_branch) (sc := defScope s_with_branch) (by decide +kernel)) (fun _ _ _ _ _ => pg_name (i := 4) sc_with_branch.nd rfl (Or.inl rfl)) (fun _ _ _ _ _ => (pts_one (pt_cmpR op_gt_str (pe_ix (r := rIxT K) ix_tup (pv 4) pe_int (fun _ _ => rfl)) (pv 1) (nomark _)))) (fun _ _ _ _ _ => (pv 4)))) pa_nil)))))), fun nx Q kn kr => ?_⟩
  try dsimp only [cxOf]
  generalize start _ vs = σ at *
  rw [B.d_list] at S0
  have lf := fun f => List.length_filter_le f b.list
  have n1 : EvN K (tLc (iTup K (tVar 0)) (gName 4) (tTest (tOp (fun x y H Q => ∃ i j, x = .str i ∧ y = .str j ∧ Q (.bl (decide (i.cps.toList < j.cps.toList))) H) (tOp (rIxT K) (tVar 4) (tC (.int 0))) (tVar 1))) (tVar 4) [4]) σ H ((b.list.filter (fun p => decide (p.1 < y))).map brD) :=
    en_lcT (fun p => decide (p.1 < y)) brD (by walk_at "ev") S0 (by omega) (fun p hp σ' H' e S' => by walk_at "ev") (fun p hp c σ' H' e S' => by walk_at "ev") (fun p _ _ => brD_imm p)
  refine q_asgN S0 n1 fun l ls σ1 H1 l0 e1 hl hd S1 => ?_
  have fin : ∀ (zs : List (Tx × T)) ws σ2 H2, zs.length ≤ 4000 → Same H H2 → Sl K H2 [some (.tup (b.list.map brD)), some (.str y), some (OT.d t), some (.raw (.ref l)), none] σ2 → H2 l = some (.lst ws) → Dts K H2 (zs.map brD) ws →
      withB b y t = B.of (zs ++ b.list.filter (fun p => decide (y < p.1))) → ∀ te, te = tRet (tCB (fun xs H Q => ∃ p ys, xs = [.ref p] ∧ ((SqL K H p ys ∧ ∀ l, H l = none → Q (.ref l) (upd H l (.tup ys))) ∨ (SqT K H p ys ∧ Q (.ref p) H))) (tCons (tOp rCat (tVar 3) (tLc (iTup K (tVar 0)) (gName 4) (tTest (tOp (fun x y H Q => ∃ i j, x = .str i ∧ y = .str j ∧ Q (.bl (decide (j.cps.toList < i.cps.toList))) H) (tOp (rIxT K) (tVar 4) (tC (.int 0))) (tVar 1))) (tVar 4) [4])) tNil)) → te { nx := nx, rt := Q } σ2 H2 := by
    rintro zs ws σ2 H2 zl e2 S2 hl2 hd2 hw te rfl
    have n2 : EvN K (tLc (iTup K (tVar 0)) (gName 4) (tTest (tOp (fun x y H Q => ∃ i j, x = .str i ∧ y = .str j ∧ Q (.bl (decide (j.cps.toList < i.cps.toList))) H) (tOp (rIxT K) (tVar 4) (tC (.int 0))) (tVar 1))) (tVar 4) [4]) σ2 H2 ((b.list.filter (fun p => decide (y < p.1))).map brD) :=
      en_lcT (fun p => decide (y < p.1)) brD (by walk_at "ev") S2 (by omega) (fun p hp σ' H' e S' => by walk_at "ev") (fun p hp c σ' H' e S' => by walk_at "ev") (fun p _ _ => brD_imm p)
    have q2 := lf (fun p => decide (y < p.1))
    refine s_ret (d := .tup (withB b y t).d) (Ev.to (ev_tuple (en_cat (by walk_at "ev") n2.ev (by rw [List.length_map, List.length_map]; omega)).ev) ?_) fun v H3 e3 hv => kr v H3 (e2.trans e3) hv
    rw [← List.map_append, hw, B.d_list, B.list_of]
  have q1 := lf (fun p => decide (p.1 < y))
  cases t with
  | none =>
    refine q_ifF0 (EvT.to (by walk_at "ev") (by rfl)) fun H2 e2 => ?_
    exact fin _ ls σ1 H2 (by omega) (e1.trans e2) ((S1.mono e2).fit (by exact ⟨rfl, rfl, rfl, rfl, trivial⟩)) (e2 _ _ hl) (Dts.mono e2 _ hd) (by show B.of (_ ++ [] ++ _) = _; rw [List.append_nil]) _ rfl
  | some t =>
    refine q_ifT (EvT.to (by walk_at "ev") (by rw [OT.isNon]; rfl)) fun H2 e2 => ?_
    have S2 := S1.mono e2
    have hd2 := Dts.mono e2 _ hd
    refine s_app (e2 _ _ hl) hd2 (D.imms_map fun p _ => brD_imm p) (by walk_at "ev") (d := brD (y, t)) (by walk_at "evq") (brD_imm _) (by rw [List.length_map]; omega) fun ws H3 c3 hl3 hd3 => ?_
    have e3 := c3.same0 l0 (e1.trans e2)
    refine fin (b.list.filter (fun p => decide (p.1 < y)) ++ [(y, t)]) ws σ1 H3 (by rw [List.length_append]; simp; omega) e3 ((c3.sl (immS_of ?_) S2).fit (by exact ⟨rfl, rfl, rfl, rfl, trivial⟩)) hl3 (by rw [List.map_append]; exact hd3) rfl _ rfl
    have i1 : D.imms (b.list.map brD) = true := D.imms_map fun p _ => brD_imm p
    have i2 := T.imm t
    simp [immS, D.imm, i1, i2, OT.d]
end
end Rt

namespace Rt
open PySem PySem.Spec PyProof.Rows L2
section
variable {P : Program} {w : World} {K : PySem.W.Frag} {mg : Str → Option Value} {base : Heap}
def Rknot : List D → D → Prop := fun ds d => ∃ (s : Tx) (b : B), ds = [.str s, .tup b.d] ∧ 1 ≤ b.list.length ∧ s.length ≤ 1000 ∧ (∀ p ∈ b.list, p.1.length ≤ 1000 ∧ p.2.text.length ≤ 1000) ∧ d = (knotB s b).d
theorem Rknot_mk {s : Tx} {b : B} (h : 1 ≤ b.list.length) (h2 : s.length ≤ 1000) (h3 : ∀ p ∈ b.list, p.1.length ≤ 1000 ∧ p.2.text.length ≤ 1000) : Rknot [.str s, .tup b.d] (knotB s b).d := ⟨s, b, rfl, h, h2, h3, rfl⟩
theorem q_par {i j : Nat} {ta : TA} {ds : List (Option D)} {a b : D} {E : Ends} {tu : TS} {σ : L2.St} {H : Hp} (s : Sl K H ds σ) (h : EvA K ta σ H [a, b]) (k : ∀ σ' H', Same H H' → Sl K H' ((ds.set i (some a)).set j (some b)) σ' → tu E σ' H') : tSeq (tPar i j ta) tu E σ H :=
  h H (Same.refl H) _ fun vs H1 e ⟨v, r, h1, hv, w, r2, h3, hw, h5⟩ => ⟨v, w, by rw [h1, h3, show r2 = [] from h5], k _ _ e (((s.mono e).set i hv).set j hw)⟩
theorem cal_knot_of (F : Dfn K mg "knot_of" s_knot_of ["shared", "branches"]) (BU : Bl mg) : Cal P w K mg base CX0 1 "knot_of" (Fn K Rknot) := by
  refine cal_fn F sc_knot_of (fun ds d h => by obtain ⟨a, b, rfl, _⟩ := h; rfl) fun cdv A outer s f H vs ds d hr hR S0 => ?_
  obtain ⟨s0, b, rfl, hz, hs, hp, rfl⟩ := hR
  refine ⟨_, (pss_cons (ps_if (pt_cmpR op_gt (pe_callB call_len_seq (by rfl) BU.len_ PySem.boot_len (pa_cons (pv 1) pa_nil)) pe_int (nomark _)) (pss_one (ps_ret (pe_tup (pa_cons pe_str (pa_cons (pv 0) (pa_cons (pv 1) pa_nil)))))) pss_nil) (pss_cons (ps_par (i := 2) (j := 3) (by rfl) sc_knot_of.nd rfl rfl (by decide) rfl rfl (pa_cons (pe_ix ix_tup (pe_ix ix_tup (pv 1) pe_int (fun _ _ => rfl)) pe_int (fun _ _ => rfl)) (pa_cons (pe_ix ix_tup (pe_ix ix_tup (pv 1) pe_int (fun _ _ => rfl)) pe_int (fun _ _ => rfl)) pa_nil)) (by rfl)) (pss_one (ps_ret (pe_tup (pa_cons (pe_ix ix_tup (pv 3) pe_int (fun _ _ => rfl)) (pa_cons (pe_op op_add_str (pe_op op_add_str (pv 0) (pv 2)) (pe_ix ix_tup (pv 3) pe_int (fun _ _ => rfl))) (pa_cons (pe_ix ix_tup (pv 3) pe_int (fun _ _ => rfl)) pa_nil)))))))), fun nx Q kn kr => ?_⟩
  try dsimp only [cxOf]
  generalize start _ vs = σ at *
  rw [B.d_list] at S0
  by_cases h2 : 2 ≤ b.list.length
  · refine q_ifT (EvT.to (by walk_at "ev") (decide_eq_true (by rw [List.length_map]; omega))) fun H1 e1 => ?_
    have S1 := S0.mono e1
    refine s_ret (d := (knotB s0 b).d) (Ev.to (by walk_at "ev") ?_) fun v H3 e3 hv => kr v H3 (e1.trans e3) hv
    rw [knotB_two h2, T.d, B.d_list]; rfl
  · refine q_ifF0 (EvT.to (by walk_at "ev") (decide_eq_false (by rw [List.length_map]; omega))) fun H1 e1 => ?_
    have S1 := S0.mono e1
    match b, hz, h2, hp, kr, S1 with
    | .cons c t .nil, _, _, hp, kr, S1 =>
      obtain ⟨l1, l2⟩ := hp (c, t) List.mem_cons_self
      have l1' : c.length ≤ 1000 := l1
      have l2' : t.text.length ≤ 1000 := l2
      have S1' : Sl K H1 [some (.str s0), some (.tup [.tup [.str c, .tup [.str t.kind, .str t.text, t.last]]]), none, none] σ := by rw [← T.d_eq]; exact S1
      refine q_par S1' (a := .str c) (b := .tup [.str t.kind, .str t.text, t.last]) (by walk_at "ev") fun σ2 H2 e2 S2 => ?_
      refine s_ret (d := (knotB s0 (.cons c t .nil)).d) (Ev.to (by walk_at "ev") ?_) fun v H3 e3 hv => kr v H3 ((e1.trans e2).trans e3) hv
      rw [knotB_one]
      show _ = (t.re (s0 ++ c ++ t.text)).d
      rw [T.re_d]
    | .nil, hz, _, _, _, _ => exact absurd hz (by simp [B.list])
    | .cons _ _ (.cons _ _ _), _, h2, _, _, _ => exact absurd (by simp [B.list]) h2
end
end Rt

namespace Rt
open PySem PySem.Spec PyProof.Rows L2
section
variable {P : Program} {w : World} {K : PySem.W.Frag} {mg : Str → Option Value} {base : Heap}
def Rcut (N : Nat) : List D → D → Prop := fun ds d => ∃ (t : OT) (x : Tx) (a b : OT), ds = [OT.d t, .str x] ∧ Tb N t ∧ x.length ≤ 1000 ∧ CutR t x a b ∧ d = .tup [OT.d a, OT.d b]
theorem cal_cut (F : Dfn K mg "cut" s_cut ["tree", "beginning"]) (BU : Bl mg) (c_common : Cal P w K mg base CX0 1 "common" (Fn K Rcommon)) (c_branch_of : Cal P w K mg base CX0 1 "branch_of" (Fn K Rbranch_of)) (c_with_branch : Cal P w K mg base CX0 1 "with_branch" (Fn K Rwith))
    (c_knot_of : Cal P w K mg base CX0 1 "knot_of" (Fn K Rknot)) : ∀ N, N ≤ 900 → Cal P w K mg base CX0 (N + 1) "cut" (Fn K (Rcut N))
  | 0, _ => cal_none F fun vs H Q E h => by
    obtain ⟨_, _, _, ⟨t, x, a, b, _, ht, _⟩, _⟩ := h
    exact absurd ht.h (by omega)
  | N + 1, hN => by
    have c_cut := cal_cut F BU c_common c_branch_of c_with_branch c_knot_of N (by omega)
    refine cal_fn F sc_cut (fun ds d h => by obtain ⟨a, b, c, e, rfl, _⟩ := h; rfl) fun cdv A outer s f H vs ds d hr hR S0 => ?_
    obtain ⟨t, x, a, b, rfl, ht, hx, hc, rfl⟩ := hR
    refine ⟨_, (pss_cons (ps_if (pt_cmpR op_isN (pv 0) pe_non (nomark _)) (pss_one (ps_ret (pe_tup (pa_cons pe_non (pa_cons pe_non pa_nil))))) pss_nil) (pss_cons (ps_set (i := 2) sc_cut.nd rfl (Or.inl rfl) (pe_callB call_len_str (by rfl) BU.len_ PySem.boot_len (pa_cons (pe_c c_common hr (by omega) (by rfl) (pa_cons (pe_ix ix_tup (pv 0) pe_int (fun _ _ => rfl)) (pa_cons (pv 1) pa_nil))) pa_nil))) (pss_cons (ps_if (pt_cmpR op_eq (pv 2) (pe_callB call_len_str (by rfl) BU.len_ PySem.boot_len (pa_cons (pv 1) pa_nil)) (nomark _)) (pss_one (ps_ret (pe_tup (pa_cons pe_non (pa_cons (pe_tup (pa_cons (pe_ix ix_tup (pv 0) pe_int (fun _ _ => rfl)) (pa_cons (pe_slice sl_str (pe_ix ix_tup (pv 0) pe_int (fun _ _ => rfl)) (po_some (pv 2)) po_none) (pa_cons (pe_ix ix_tup (pv 0) pe_int (fun _ _ => rfl)) pa_nil)))) pa_nil))))) pss_nil) (pss_cons (ps_if (PW.pt (pw_or (pt_cmpR op_eq (pe_ix ix_tup (pv 0) pe_int (fun _ _ => rfl)) pe_str (nomark _)) (pw_or1 (pt_cmpR op_lt (pv 2) (pe_callB call_len_str (by rfl) BU.len_ PySem.boot_len (pa_cons (pe_ix ix_tup (pv 0) pe_int (fun _ _ => rfl)) pa_nil)) (nomark _))))) (pss_one (ps_ret (pe_tup (pa_cons (pv 0) (pa_cons pe_non pa_nil))))) pss_nil) (pss_cons (ps_set (i := 3) sc_cut.nd rfl (Or.inl rfl) (pe_slice sl_str (pv 1) (po_some (pv 2)) (po_some (pe_op op_add (pv 2) pe_int)))) (pss_cons (ps_set (i := 4) sc_cut.nd rfl (Or.inl rfl) (pe_c c_cut hr (by omega) (by rfl) (pa_cons (pe_c c_branch_of hr (by omega) (by rfl) (pa_cons (pe_ix ix_tup (pv 0) pe_int (fun _ _ => rfl)) (pa_cons (pv 3) pa_nil))) (pa_cons (pe_slice sl_str (pv 1) (po_some (pe_op op_add (pv 2) pe_int)) po_none) pa_nil)))) (pss_cons (ps_if (pt_cmpR op_isN (pe_ix ix_tup (pv 4) pe_int (fun _ _ => rfl)) pe_non (nomark _)) (pss_one (ps_ret (pe_tup (pa_cons (pv 0) (pa_cons pe_non pa_nil))))) pss_nil) (pss_one (ps_ret (pe_tup (pa_cons (pe_c c_knot_of hr (by omega) (by rfl) (pa_cons (pe_ix ix_tup (pv 0) pe_int (fun _ _ => rfl)) (pa_cons (pe_c c_with_branch hr (by omega) (by rfl) (pa_cons (pe_ix ix_tup (pv 0) pe_int (fun _ _ => rfl)) (pa_cons (pv 3) (pa_cons (pe_ix ix_tup (pv 4) pe_int (fun _ _ => rfl)) pa_nil)))) pa_nil))) (pa_cons (pe_ix ix_tup (pv 4) pe_int (fun _ _ => rfl)) pa_nil)))))))))))), fun nx Q kn kr => ?_⟩
    try dsimp only [cxOf]
    generalize start _ vs = σ at *
    cases t with
    | none =>
      obtain ⟨rfl, rfl⟩ := hc.uniq (cut_none x)
      refine q_ifT (by walk_at "etq") fun H1 e1 => ?_
      have S1 := S0.mono e1
      exact s_ret (d := .tup [.non, .non]) (by walk_at "ev") fun v H2 e2 hv => kr v H2 (e1.trans e2) hv
    | some t =>
      have hN' : N + 1 ≤ 1000 := by omega
      have ltx : t.text.length ≤ 1000 := Nat.le_trans (Nat.le_of_lt ht.text) hN'
      have cl := comL_len1 t.text x
      have cl2 := comL_len2 t.text x
      refine q_ifF0 (EvT.to (by walk_at "ev") (by exact T.not_non t)) fun H1 e1 => ?_
      have S1' := S0.mono e1
      have S1 : Sl K H1 [some (.tup [.str t.kind, .str t.text, t.last]), some (.str x), none, none, none] σ := by rw [← T.d_eq]; exact S1'
      refine q_asg S1 (d := .int ((comL t.text x).length : Int)) (by walk_at "ev") fun σ2 H2 e2 S2 => ?_
      have S2t : Sl K H2 [some t.d, some (.str x), some (.int ((comL t.text x).length : Int)), none, none] σ2 := by rw [T.d_eq]; exact S2
      have e02 := e1.trans e2
      by_cases hA : (comL t.text x).length = x.length
      · have hp := comL_full t.text x hA
        obtain ⟨rfl, rfl⟩ := hc.uniq (cut_all ht.ok hp)
        refine q_ifT (EvT.to (by walk_at "ev") (decide_eq_true (by omega))) fun H3 e3 => ?_
        have S3 := S2.mono e3
        refine s_ret (K := K) (d := .tup [.non, (t.cutT x.length).d]) (Ev.to (by walk_at "ev") ?_) fun v H4 e4 hv => kr v H4 ((e02.trans e3).trans e4) hv
        rw [hA, cutL_from, T.cutT, T.re_d]
      have hnp : ¬ x <+: t.text := fun z => hA (by rw [comL_of_pre z])
      refine q_ifF0 (EvT.to (by walk_at "ev") (decide_eq_false (by omega))) fun H3 e3 => ?_
      have S3 := S2t.mono e3
      have e03 := e02.trans e3
      cases t with
      | leaf r n =>
        obtain ⟨rfl, rfl⟩ := hc.uniq (cut_leaf (n := n) hnp)
        refine q_ifT (et_orT (by walk_at "etq")) fun H4 e4 => ?_
        have S4 := S3.mono e4
        exact s_ret (K := K) (d := .tup [OT.d (some (.leaf r n)), .non]) (by walk_at "ev") fun v H5 e5 hv => kr v H5 ((e03.trans e4).trans e5) hv
      | fork s0 b0 =>
        have ltx' : s0.length ≤ 1000 := ltx
        have hnp' : ¬ x <+: s0 := hnp
        have hA' : ¬ (comL s0 x).length = x.length := hA
        have cl' : (comL s0 x).length ≤ s0.length := cl
        have cl2' : (comL s0 x).length ≤ x.length := cl2
        have S3f : Sl K H3 [some (.tup [.str tFork, .str s0, .tup b0.d]), some (.str x), some (.int ((comL s0 x).length : Int)), none, none] σ2 := S3
        by_cases hk : (comL s0 x).length < s0.length
        · obtain ⟨rfl, rfl⟩ := hc.uniq (cut_off ht.ok hnp' (not_pre_of_short hk))
          refine q_ifT (et_orF (EvT.to (by walk_at "ev") (by exact decide_eq_false fork_leaf)) (EvT.to (by walk_at "ev") (by exact decide_eq_true (by omega)))) fun H4 e4 => ?_
          have S4 := S3.mono e4
          exact s_ret (K := K) (d := .tup [OT.d (some (.fork s0 b0)), .non]) (by walk_at "ev") fun v H5 e5 hv => kr v H5 ((e03.trans e4).trans e5) hv
        · refine q_ifF0 (et_orF (EvT.to (by walk_at "ev") (by exact decide_eq_false fork_leaf)) (EvT.to (by walk_at "ev") (by exact decide_eq_false (by omega)))) fun H4 e4 => ?_
          have S4 := S3f.mono e4
          have e04 := e03.trans e4
          have hk' : (comL s0 x).length = s0.length := by omega
          have es : comL s0 x = s0 := (comL_pre1 s0 x).eq_of_length hk'
          have hp : s0 <+: x := by rw [← es]; exact comL_pre2 s0 x
          have hl : s0.length < x.length := by omega
          rw [es] at S4
          have hsub := ht.sub ((x.drop s0.length).take 1)
          obtain ⟨a', b', hc'⟩ := CutR.ex hsub.ok ((x.drop s0.length).drop 1)
          refine q_asg S4 (d := .str ((x.drop s0.length).take 1)) (by walk_at "evq") fun σ5 H5 e5 S5 => ?_
          refine q_asg S5 (d := .tup [OT.d a', OT.d b']) (ev_call (by walk_at "ev") ⟨b0.look ((x.drop s0.length).take 1), (x.drop s0.length).drop 1, a', b', by rw [cutL_behind, List.drop_drop], hsub, by rw [List.length_drop, List.length_drop]; omega, hc', rfl⟩) fun σ6 H6 e6 S6 => ?_
          have e06 := (e04.trans e5).trans e6
          cases b' with
          | none =>
            obtain ⟨rfl, rfl⟩ := hc.uniq (cut_in0 ht.ok hp hl hc')
            refine q_ifT (by walk_at "etq") fun H7 e7 => ?_
            have S7 := S6.mono e7
            exact s_ret (K := K) (d := .tup [OT.d (some (.fork s0 b0)), .non]) (by walk_at "ev") fun v H8 e8 hv => kr v H8 ((e06.trans e7).trans e8) hv
          | some b' =>
            obtain ⟨hc2, wok⟩ := cut_in1 ht.ok hp hl hc'
            obtain ⟨rfl, rfl⟩ := hc.uniq hc2
            refine q_ifF0 (EvT.to (by walk_at "ev") (by exact T.not_non b')) fun H7 e7 => ?_
            have S7 := S6.mono e7
            have bl := ht.len
            have w1 := withB_one (y := (x.drop s0.length).take 1) (t := a') ht.ok.2 ht.ok.1
            have hh := ht.h
            have hh2 : (T.fork s0 b0).h + 1 < N + 1 := hh
            have htx : ∀ p ∈ (withB b0 ((x.drop s0.length).take 1) a').list, p.1.length ≤ 1000 ∧ p.2.text.length ≤ 1000 := fun p hpm => by
              refine ⟨Nat.le_trans (B.ok_sub (y := p.1) (t := p.2) wok hpm).1 (by decide), ?_⟩
              rcases withB_mem.mp hpm with q | q
              · have h1 : p.2.h < (T.fork s0 b0).h := T.h_sub (s := s0) (b := b0) (c := p.1) (t := p.2) ht.ok q.1
                have h2 := T.text_h p.2
                omega
              · have h1 := hc'.h1 hsub.ok
                rw [q.1] at h1
                have h2 := T.text_h p.2
                have h3 := hsub.h
                have h4 : OT.h (b0.look ((x.drop s0.length).take 1)) ≤ OT.hs (b0.look ((x.drop s0.length).take 1)) := by
                  cases b0.look ((x.drop s0.length).take 1) with
                  | none => exact Nat.le_refl _
                  | some u => exact Nat.le_succ _
                have h5 : p.2.h ≤ OT.h (b0.look ((x.drop s0.length).take 1)) := h1
                omega
            exact s_ret (K := K) (d := .tup [(knotB s0 (withB b0 ((x.drop s0.length).take 1) a')).d, b'.d]) (ev_tup (ea_cons (ev_call (ea_cons (by walk_at "ev") (ea_cons (ev_call (by walk_at "ev") (Rwith_mk bl)) ea_nil)) (Rknot_mk w1 ltx' htx)) (ea_cons (by walk_at "ev") ea_nil)) (by show 2 ≤ 100000; decide)) fun v H8 e8 hv => kr v H8 ((e06.trans e7).trans e8) hv
end
end Rt

namespace Rt
open PySem PySem.Spec PyProof.Rows L2
section
variable {P : Program} {w : World} {K : PySem.W.Frag} {mg : Str → Option Value} {base : Heap}
def Runder : List D → List D → Prop := fun ds es => ∃ (rows : Rows) (t : OT) (x : Tx), ds = [OT.d t, .str x] ∧ Rep rows t ∧ Tb 42 t ∧ x.length ≤ 1000 ∧ es = (belowR rows x).map rowD
theorem cal_under (F : Dfn K mg "under" s_under ["tree", "beginning"]) (BU : Bl mg) (c_cut : ∀ N, N ≤ 900 → Cal P w K mg base CX0 (N + 1) "cut" (Fn K (Rcut N))) (c_names : ∀ N, N ≤ 900 → Cal P w K mg base CX0 (N + 1) "names" (FnN K (Rnames N))) : Cal P w K mg base CX0 44 "under" (FnN K Runder) := by
  have c_cut := c_cut 42 (by decide)
  have c_names := c_names 42 (by decide)
  refine cal_fnN F sc_under (fun ds d h => by obtain ⟨a, b, c, rfl, _⟩ := h; rfl) fun cdv A outer s f H vs ds es hr hR S0 => ?_
  obtain ⟨rows, t, x, rfl, rep, ht, hx, rfl⟩ := hR
  refine ⟨_, (pss_one (ps_ret (pe_lc (own := [("pair", 2)]) (g := gName 2) (by rfl) sc_under.nd (pi_list (pe_c c_names hr (by omega) (by rfl) (pa_cons (pe_ix ix_tup (pe_c c_cut hr (by omega) (by rfl) (pa_cons (pv 0) (pa_cons (pv 1) pa_nil))) pe_int (fun _ _ => rfl)) pa_nil))) (blkOk_by (own := [("pair", 2)]) (N := N_under) (sc := defScope s_under) (by decide +kernel)) (fun _ _ _ _ _ => pg_name (i := 2) sc_under.nd rfl (Or.inl rfl)) (fun _ _ _ _ _ => pts_nil) (fun _ _ _ _ _ => (pe_tup (pa_cons (pe_op op_add_str (pv 1) (pe_ix (r := rIxT K) ix_tup (pv 2) pe_int (fun _ _ => rfl))) (pa_cons (pe_ix (r := rIxT K) ix_tup (pv 2) pe_int (fun _ _ => rfl)) pa_nil))))))), fun nx Q kr => ?_⟩
  try dsimp only [cxOf]
  generalize start _ vs = σ at *
  obtain ⟨a, b, hc⟩ := CutR.ex ht.ok x
  obtain ⟨ra, rb⟩ := hc.reps rep
  obtain ⟨ha, hb⟩ := hc.tb ht
  have hcn := hb.cnt
  have hlen : ∀ p ∈ OT.names b, p.1.length ≤ 42 := fun p hp => by
    have h1 := OT.len_h hb.ok ((rb.find p.1 p.2).mpr (by rw [← rb.2]; exact hp))
    have h2 := hb.h
    have h3 : OT.h b ≤ OT.hs b := by cases b with
      | none => exact Nat.le_refl _
      | some u => exact Nat.le_succ _
    omega
  refine s_retN (EvN.to (en_lcL (enc := rowD) (es := OT.names b) (fun _ => true) (fun p => rowD (x ++ p.1, p.2)) (ev_callN (ea_cons (ev_ixT (d := OT.d b) (ev_call (by walk_at "ev") ⟨t, x, a, b, rfl, ht, hx, hc, rfl⟩) ev_int rfl) ea_nil) ⟨b, rfl, hb, rfl⟩) S0 (by omega)
    (fun p hp σ' H' e S' => et_yes) (fun p hp c σ' H' e S' => by have := hlen p hp; walk_at "evq") (fun p _ _ => rowD_imm _)) ?_) kr
  rw [filt_all, rb.2, ← gone_back, List.map_map]; rfl
end
end Rt

namespace Rt
open PySem PySem.Spec PyProof.Rows L2
section
variable {P : Program} {w : World} {K : PySem.W.Frag} {mg : Str → Option Value} {base : Heap}
def Rmany : List D → D → Prop := fun ds d => ∃ (rows : Rows) (t : OT) (x : Tx), ds = [OT.d t, .str x] ∧ Rep rows t ∧ Tb 42 t ∧ x.length ≤ 1000 ∧ d = .int ((belowR rows x).length : Int)
theorem cal_many (F : Dfn K mg "many" s_many ["tree", "beginning"]) (BU : Bl mg) (c_under : Cal P w K mg base CX0 44 "under" (FnN K Runder)) : Cal P w K mg base CX0 45 "many" (Fn K Rmany) := by
  refine cal_fn F sc_many (fun ds d h => by obtain ⟨a, b, c, rfl, _⟩ := h; rfl) fun cdv A outer s f H vs ds es hr hR S0 => ?_
  obtain ⟨rows, t, x, rfl, rep, ht, hx, rfl⟩ := hR
  refine ⟨_, (pss_one (ps_ret (pe_callB call_len_seq (by rfl) BU.len_ PySem.boot_len (pa_cons (pe_c c_under hr (by omega) (by rfl) (pa_cons (pv 0) (pa_cons (pv 1) pa_nil))) pa_nil)))), fun nx Q kn kr => ?_⟩
  try dsimp only [cxOf]
  generalize start _ vs = σ at *
  exact s_ret (Ev.to (ev_lenL (ev_callN (by walk_at "ev") ⟨rows, t, x, rfl, rep, ht, hx, rfl⟩)) (by rw [List.length_map])) kr
end
end Rt

namespace Rt
open PySem PySem.Spec PyProof.Rows L2
section
variable {P : Program} {w : World} {K : PySem.W.Frag} {mg : Str → Option Value} {base : Heap}
def SpSize (K : PySem.W.Frag) (C : Addr) : Sp := fun vs H Q _ => ∃ p g past rows, vs = [.ref p] ∧ TrailAt K C H p g past ∧ TrOk g rows ∧ ∀ H', Same H H' → Q (.int (rows.length : Int)) H'
theorem below_nil (rows : Rows) : belowR rows [] = rows := List.filter_eq_self.mpr fun p _ => decide_eq_true rfl
theorem met_size {CTrail : Addr} (F : MDfn K CTrail "size" "Trail.size" s_Trail_size ["self"]) (BU : Bl mg) (x_Trail : TrC K mg CTrail) (c_many : Cal P w K mg base CX0 45 "many" (Fn K Rmany)) : MetX P w K mg base CX0 46 CTrail "size" (SpSize K CTrail) := by
  refine met_sp F sc_Trail_size (fun vs H Q E h => by obtain ⟨p, g, past, rows, rfl, _⟩ := h; rfl) fun cdv A outer s f H vs Q E hr h => ?_
  obtain ⟨p, g, past, rows, rfl, ht, ok, k⟩ := h
  have S0 : Sl K H [some (.raw (.ref p))] (start ["self"] [.ref p]) := ⟨_, _, rfl, rfl, rfl⟩
  refine ⟨_, (pss_one (ps_ret (pe_c c_many hr (by omega) (by rfl) (pa_cons (pe_fld (pv 0) rfl) (pa_cons pe_str pa_nil))))), ?_⟩
  try dsimp only [cxOf]
  generalize start _ [V.ref p] = σ at *
  refine s_ret (d := .int (rows.length : Int)) (ev_call (ds := [OT.d g, .str []]) (ea_cons (ev_fldG x_Trail (ev_var S0 (by rfl)) ht) (ea_cons (Ev.to ev_str rfl) ea_nil)) ⟨rows, g, [], rfl, ok.rep, ok.tb, by decide, by rw [below_nil]⟩) fun v H1 e1 hv => ?_
  rw [show v = .int (rows.length : Int) from hv]
  exact k H1 e1
end
end Rt

namespace Rt
open PySem PySem.Spec PyProof.Rows L2
section
variable {P : Program} {w : World} {K : PySem.W.Frag} {mg : Str → Option Value} {base : Heap}
def SpNeed (K : PySem.W.Frag) (C : Addr) : Sp := fun vs H Q E => ∃ v b, vs = [v] ∧ Thing K H v b ∧ (b = true → ∀ H', Same H H' → Q .non H') ∧ (b = false → ∀ H', Same H H' → E (.ref C) none H')
theorem cal_need_name {CNoName CTrailError : Addr} (F : Dfn K mg "need_name" s_need_name ["thing"]) (BU : Bl mg) (c_is_name : Cal P w K mg base CX0 2 "is_name" (SpName K)) (x_NoName : Xc K mg "NoName" CNoName CTrailError) : Cal P w K mg base (L2.CX P w) 3 "need_name" (SpNeed K CNoName) := by
  refine cal_spX F sc_need_name (fun vs H Q E h => by obtain ⟨v, b, rfl, _⟩ := h; rfl) fun cdv A outer s f H vs Q E hr h => ?_
  obtain ⟨v, b, rfl, hth, k1, k2⟩ := h
  have S0 : Sl K H [some (.raw v)] (start ["thing"] [v]) := ⟨v, _, rfl, rfl, rfl⟩
  refine ⟨_, (pss_one (ps_if (pt_not (pt_val (pe_c c_is_name hr (by omega) (by rfl) (pa_cons (pv 0) pa_nil)))) (pss_one (ps_raise rfl (takes_of rfl rfl rfl rfl) (pmk_own PySem.F.excBase_ValueError x_NoName.ex x_NoName.g x_NoName.kp (raises_own x_NoName.sub x_NoName.ty) (by rfl)))) pss_nil)), ?_⟩
  try dsimp only [cxOf]
  generalize start _ [v] = σ at *
  refine s_if (b := !b) (et_not (et_B (ev_name (ev_var S0 (by rfl)) hth))) (fun c H1 e1 => ?_) (fun c H1 e1 => ?_)
  · have : b = false := by cases b with
      | false => rfl
      | true => cases c
    exact k2 this H1 e1
  · have : b = true := by cases b with
      | true => rfl
      | false => cases c
    exact k1 this H1 e1
theorem en_needOk {σ : L2.St} {H : Hp} {ta : TE} {C : Addr} {E : XK} {v : V} (ha : Ev K ta σ H (.raw v)) (h : Thing K H v true) : Ev K (tCall (SpNeed K C) [] E (tCons ta tNil)) σ H .non := fun H1 a Q q =>
  ha H1 a _ fun x H2 s2 hx => ⟨v, true, by rw [show x = v from hx]; rfl, h.mono (a.trans s2), fun _ H3 s3 => q _ H3 (s2.trans s3) rfl, (fun z => by cases z)⟩
theorem er_need {σ : L2.St} {H : Hp} {ta : TE} {C : Addr} {E : XK} {v : V} (ha : Ev K ta σ H (.raw v)) (h : Thing K H v false) (hE : ∀ H', Same H H' → E (.ref C) none H') : EvR (tCall (SpNeed K C) [] E (tCons ta tNil)) σ H := fun H1 a Q =>
  ha H1 a _ fun x H2 s2 hx => ⟨v, false, by rw [show x = v from hx]; rfl, h.mono (a.trans s2), (fun z => by cases z), fun _ H3 s3 => hE H3 ((a.trans s2).trans s3)⟩
end
end Rt

namespace Rt
open PySem PySem.Spec PyProof.Rows L2
section
variable {P : Program} {w : World} {K : PySem.W.Frag} {mg : Str → Option Value} {base : Heap}
section
variable {σ : L2.St} {H : Hp} {ta te : TE} {C p l : Addr} {g : OT} {past : List OT} {rows : Rows}
theorem nm_do : ∀ (vg : V) (l : Addr), (tf vg l).lookup ("do" : Str) = none := fun vg l => tf_no _ _ (by decide +kernel) (by decide +kernel)
theorem nm_size : ∀ (vg : V) (l : Addr), (tf vg l).lookup ("size" : Str) = none := fun vg l => tf_no _ _ (by decide +kernel) (by decide +kernel)
theorem ev_size {E : XK} (ha : Ev K ta σ H (.raw (.ref p))) (ht : TrAt K C H p l g past) (ok : TrOk g rows) : Ev K (tMeth C "size" (SpSize K C) [] E ta tNil) σ H (.int (rows.length : Int)) := fun H1 a Q q =>
  ha H1 a _ fun x H2 s2 hx => by
    have t2 := (ht.mono (a.trans s2))
    obtain ⟨dx, vg, vs, h1, h2, h3, h4⟩ := t2.ex
    exact ⟨p, dx, _, hx, h1, nm_size _ _, p, g, past, rows, by rw [show x = .ref p from hx]; rfl, t2.tr, ok, fun H3 s3 => q _ H3 (s2.trans s3) rfl⟩
/-- self.do(e), e evaluated -/
theorem q_do {E : Ends} {E' : XK} {tv : TS} {t : OT} (ha : Ev K ta σ H (.raw (.ref p))) (he : Ev K te σ H (OT.d t)) (ht : TrAt K C H p l g past) (hz : past.length ≤ 10000) (k : ∀ H', Keep2 p l H H' → TrAt K C H' p l t (past ++ [g]) → tv E σ H') : tSeq (tDrop (tMeth C "do" (SpDo K C) [] E' ta (tCons te tNil))) tv E σ H :=
  ha H (Same.refl H) _ fun x H1 e1 hx => by
    have t1 := ht.mono e1
    obtain ⟨dx, vg, vs, h1, h2, h3, h4⟩ := t1.ex
    refine ⟨p, dx, _, hx, h1, nm_do _ _, he H1 e1 _ fun y H2 e2 hy => ⟨p, l, g, past, t, y, by rw [show x = .ref p from hx]; rfl, t1.mono e2, hy, hz, fun H3 k3 t3 => k H3 (fun b o n1 n2 e => k3 b o n1 n2 (e2 _ _ (e1 _ _ e))) t3⟩⟩
/-- .. where e raises -/
theorem q_doR {E : Ends} {E' : XK} {tv : TS} (ha : Ev K ta σ H (.raw (.ref p))) (he : EvR te σ H) (ht : TrAt K C H p l g past) : tSeq (tDrop (tMeth C "do" (SpDo K C) [] E' ta (tCons te tNil))) tv E σ H :=
  ha H (Same.refl H) _ fun x H1 e1 hx => by
    obtain ⟨dx, vg, vs, h1, h2, h3, h4⟩ := (ht.mono e1).ex
    exact ⟨p, dx, _, hx, h1, nm_do _ _, he H1 e1 _⟩
theorem Sl.tupK {H H' : Hp} (k : TupK H H') : ∀ {ds : List (Option D)} {σ : L2.St}, (∀ d, some d ∈ ds → d.imm = true) → Sl K H ds σ → Sl K H' ds σ
  | [], _, _, h => h
  | none :: ds, _, i, ⟨x, r, h1, h2⟩ => ⟨x, r, h1, Sl.tupK k (fun d hd => i d (List.mem_cons_of_mem _ hd)) h2⟩
  | some d :: ds, _, i, ⟨v, r, h1, h2, h3⟩ => ⟨v, r, h1, Dt.tupK k d (i d List.mem_cons_self) h2, Sl.tupK k (fun d hd => i d (List.mem_cons_of_mem _ hd)) h3⟩
end
theorem thing_okT {H : Hp} {v : V} (h : Thing K H v true) : ∃ x : Tx, v = .str (S x) ∧ x.length ≤ 40 ∧ okT x := by
  obtain ⟨x, h1, _, h3⟩ := (show ∃ x : Tx, v = .str (S x) ∧ x.length ≤ 1000 ∧ nameB x = true by
    rcases h H (Same.refl H) with ⟨l, h1, h2, h3⟩ | ⟨n, _, _, h3⟩
    · exact ⟨l, h1, h2, h3.symm⟩
    · cases h3)
  exact ⟨x, h1, nameB_iff.mp h3⟩
/-! what the deeds tell: the outcome of a deed at a tree -/
inductive Out where
  | err (c : Addr)
  | did (t : OT) (d : D)
def Out.Q (K : PySem.W.Frag) (C p l : Addr) (g : OT) (past : List OT) (H : Hp) (Q : VK) (E : XK) : Out → Prop
  | .err c => ∀ H', Same H H' → E (.ref c) none H'
  | .did t d => ∀ v H', Keep2 p l H H' → TrAt K C H' p l t (past ++ [g]) → Dt K H' d v → Q v H'
end
end Rt

namespace Rt
open PySem PySem.Spec PyProof.Rows L2
section
variable {P : Program} {w : World} {K : PySem.W.Frag} {mg : Str → Option Value} {base : Heap}
def restL (n b : Tx) : D := if b <+: n then .str (n.drop b.length) else .non
def Rrest : List D → D → Prop := fun ds d => ∃ n b : Tx, ds = [.str n, .str b] ∧ n.length ≤ 100000 ∧ b.length ≤ 100000 ∧ d = restL n b
theorem Rrest_mk {n b : Tx} (ha : n.length ≤ 100000) (hb : b.length ≤ 100000) : Rrest [.str n, .str b] (restL n b) := ⟨n, b, rfl, ha, hb, rfl⟩
local macro_rules | `(tactic| walk_at "call") => `(tactic| (with_reducible refine Rt.Rrest_mk ?_ ?_ <;> walk_at "side"))
theorem cal_rest (F : Dfn K mg "rest" s_rest ["name", "beginning"]) (BU : Bl mg) : Cal P w K mg base CX0 1 "rest" (Fn K Rrest) := by
  refine cal_fn F sc_rest (fun ds d h => by obtain ⟨a, b, rfl, _⟩ := h; rfl) fun cdv A outer s f H vs ds d hr hR S0 => ?_
  obtain ⟨n, b, rfl, ha, hb, rfl⟩ := hR
  refine ⟨_, (pss_cons (ps_if (pt_cmpR op_ne (pe_slice sl_str (pv 0) po_none (po_some (pe_callB call_len_str (by rfl) BU.len_ PySem.boot_len (pa_cons (pv 1) pa_nil)))) (pv 1) (nomark _)) (pss_one (ps_ret pe_non)) pss_nil) (pss_one (ps_ret (pe_slice sl_str (pv 0) (po_some (pe_callB call_len_str (by rfl) BU.len_ PySem.boot_len (pa_cons (pv 1) pa_nil))) po_none)))), fun nx Q kn kr => ?_⟩
  try dsimp only [cxOf]
  generalize start _ vs = σ at *
  refine q_if0 (b := !decide (n.take b.length = b)) (EvT.to (by walk_at "ev") (by rw [cutL_to])) (fun c H1 e1 => ?_) (fun c H1 e1 => ?_)
  · have hp : ¬ b <+: n := fun h => by
      rw [List.prefix_iff_eq_take] at h
      rw [decide_eq_true h.symm] at c; cases c
    exact s_ret ev_non fun v H2 e2 hv => kr v H2 (e1.trans e2) (by unfold restL; rw [if_neg hp]; exact hv)
  · have hp : b <+: n := by
      rw [List.prefix_iff_eq_take]
      by_cases h : n.take b.length = b
      · exact h.symm
      · rw [decide_eq_false h] at c; cases c
    have S1 := S0.mono e1
    refine s_ret (d := .str (n.drop b.length)) (Ev.to (by walk_at "ev") (by rw [cutL_from])) fun v H2 e2 hv => kr v H2 (e1.trans e2) (by unfold restL; rw [if_pos hp]; exact hv)
end
end Rt
local macro_rules | `(tactic| walk_at "call") => `(tactic| (with_reducible refine Rt.Rrest_mk ?_ ?_ <;> walk_at "side"))
namespace Rt
open PySem PySem.Spec PyProof.Rows L2
section
variable {P : Program} {w : World} {K : PySem.W.Frag} {mg : Str → Option Value} {base : Heap}
def optD : Option Int → D
  | none => .non
  | some n => .int n
def Rfound : List D → D → Prop := fun ds d => ∃ (t : OT) (x : Tx), ds = [OT.d t, .str x] ∧ Tb 1000 t ∧ x.length ≤ 1000 ∧ d = optD (OT.find t x)
theorem Rfound_mk {t : OT} {x : Tx} (h : Tb 1000 t) (hx : x.length ≤ 1000) : Rfound [OT.d t, .str x] (optD (OT.find t x)) := ⟨t, x, rfl, h, hx, rfl⟩
local macro_rules | `(tactic| walk_at "call") => `(tactic| (with_reducible refine Rt.Rfound_mk ?_ ?_ <;> walk_at "side"))
theorem cal_found (F : Dfn K mg "found" s_found ["tree", "name"]) (BU : Bl mg) (c_rest : Cal P w K mg base CX0 1 "rest" (Fn K Rrest)) (c_branch_of : Cal P w K mg base CX0 1 "branch_of" (Fn K Rbranch_of)) : Cal P w K mg base CX0 2 "found" (Fn K Rfound) := by
  refine cal_fn F sc_found (fun ds d h => by obtain ⟨a, b, rfl, _⟩ := h; rfl) fun cdv A outer s f H vs ds d hr hR S0 => ?_
  obtain ⟨t0, x0, rfl, ht0, hx0, rfl⟩ := hR
  refine ⟨_, (pss_cons (ps_while PassesOwn.never (pt_cmpR op_notN (pv 0) pe_non (nomark _)) (pss_cons (ps_if (pt_cmpR op_eq (pe_ix ix_tup (pv 0) pe_int (fun _ _ => rfl)) pe_str (nomark _)) (pss_cons (ps_if (pt_cmpR op_eq (pe_ix ix_tup (pv 0) pe_int (fun _ _ => rfl)) (pv 1) (nomark _)) (pss_one (ps_ret (pe_ix ix_tup (pv 0) pe_int (fun _ _ => rfl)))) pss_nil) (pss_one (ps_ret pe_non))) pss_nil) (pss_cons (ps_set (i := 2) sc_found.nd rfl (Or.inl rfl) (pe_c c_rest hr (by omega) (by rfl) (pa_cons (pv 1) (pa_cons (pe_ix ix_tup (pv 0) pe_int (fun _ _ => rfl)) pa_nil)))) (pss_cons (ps_if (pt_cmpR op_isN (pv 2) pe_non (nomark _)) (pss_one (ps_ret pe_non)) pss_nil) (pss_cons (ps_set (i := 0) sc_found.nd rfl (Or.inl rfl) (pe_c c_branch_of hr (by omega) (by rfl) (pa_cons (pe_ix ix_tup (pv 0) pe_int (fun _ _ => rfl)) (pa_cons (pe_slice sl_str (pv 2) po_none (po_some pe_int)) pa_nil)))) (pss_one (ps_set (i := 1) sc_found.nd rfl (Or.inl rfl) (pe_slice sl_str (pv 2) (po_some pe_int) po_none)))))))) (pss_one (ps_ret pe_non))), fun nx Q kn kr => ?_⟩
  try dsimp only [cxOf]
  generalize start _ vs = σ at *
  refine q_while (fun m ds => ∃ (t : OT) (x : Tx) (z : Option D), ds = [some (OT.d t), some (.str x), z] ∧ Tb 1000 t ∧ x.length ≤ 1000 ∧ OT.find t x = OT.find t0 x0 ∧ m = OT.hs t) (OT.hs t0) S0 ⟨t0, x0, none, rfl, ht0, hx0, rfl, rfl⟩ ?_
  rintro m ds σ1 H1 ⟨t, x, z, rfl, ht, hx, hf, rfl⟩ e1 S1
  cases t with
  | none =>
    refine ⟨false, (by walk_at "etq"), fun c => (by cases c), fun _ H2 e2 => ?_⟩
    rw [← hf] at kr
    exact s_ret (K := K) ev_non fun v H3 e3 hv => kr v H3 ((e1.trans e2).trans e3) hv
  | some t =>
    refine ⟨true, EvT.to (by walk_at "ev") (by rw [show (OT.d (some t)).isNon = false from T.not_non t]; rfl), fun _ H2 N e2 kN => ?_, fun c => (by cases c)⟩
    have S2 := S1.mono e2
    cases t with
    | leaf r n =>
      refine q_ifT (by walk_at "etq") fun H3 e3 => ?_
      have S3 := S2.mono e3
      refine q_if0 (b := decide (r = x)) (by walk_at "ev") (fun c H4 e4 => ?_) (fun c H4 e4 => ?_)
      · have c' := of_decide_eq_true c
        have S4 := S3.mono e4
        rw [← hf, show OT.find (some (.leaf r n)) x = some n from by show T.find _ _ = _; rw [T.find_l, if_pos c']] at kr
        exact s_ret (d := .int n) (by walk_at "ev") fun v H5 e5 hv => kr v H5 ((((e1.trans e2).trans e3).trans e4).trans e5) hv
      · have c' := of_decide_eq_false c
        rw [← hf, show OT.find (some (.leaf r n)) x = none from by show T.find _ _ = _; rw [T.find_l, if_neg c']] at kr
        exact s_ret (K := K) ev_non fun v H5 e5 hv => kr v H5 ((((e1.trans e2).trans e3).trans e4).trans e5) hv
    | fork s0 b =>
      refine q_ifF0 (EvT.to (by walk_at "ev") (by exact decide_eq_false fork_leaf)) fun H3 e3 => ?_
      have S3 := S2.mono e3
      have hs := ht.text
      have hs' : s0.length < 1000 := hs
      have ff : OT.find (some (.fork s0 b)) x = _ := T.find_fl s0 b x
      refine q_asg S3 (by walk_at "ev") fun σ4 H4 e4 S4 => ?_
      by_cases hp : s0 <+: x
      · rw [show restL x s0 = .str (x.drop s0.length) from if_pos hp] at S4
        rw [if_pos hp] at ff
        have ld : (x.drop s0.length).length ≤ 1000 := by rw [List.length_drop]; omega
        refine q_ifF0 (by walk_at "etq") fun H5 e5 => ?_
        have S5 := S4.mono e5
        refine q_asg S5 (d := OT.d (b.look ((x.drop s0.length).take 1))) (by walk_at "evq") fun σ6 H6 e6 S6 => ?_
        refine s_asg S6 (d := .str ((x.drop s0.length).drop 1)) (by walk_at "evq") fun σ7 H7 e7 S7 => kN _ _ _ _ ?_ ⟨_, _, _, rfl, (ht.mono (by decide : 1000 ≤ 999 + 1)).sub _ |>.mono (by decide), by rw [List.length_drop]; omega, by rw [← hf, ff], rfl⟩ ((((e3.trans e4).trans e5).trans e6).trans e7) S7
        have := ((ht.mono (by decide : 1000 ≤ 999 + 1)).sub ((x.drop s0.length).take 1))
        cases e : b.look ((x.drop s0.length).take 1) with
        | none => exact Nat.zero_lt_succ _
        | some u =>
          have := (B.look_h (s := s0) ht.ok e).1
          show u.h + 1 < (T.fork s0 b).h + 1
          omega
      · rw [show restL x s0 = .non from if_neg hp] at S4
        rw [if_neg hp] at ff
        rw [← hf, ff] at kr
        refine q_ifT (by walk_at "etq") fun H5 e5 => ?_
        exact s_ret (K := K) ev_non fun v H6 e6 hv => kr v H6 (((((e1.trans e2).trans e3).trans e4).trans e5).trans e6) hv
end
end Rt
local macro_rules | `(tactic| walk_at "call") => `(tactic| (with_reducible refine Rt.Rfound_mk ?_ ?_ <;> walk_at "side"))
namespace Rt
open PySem PySem.Spec PyProof.Rows L2
section
variable {P : Program} {w : World} {K : PySem.W.Frag} {mg : Str → Option Value} {base : Heap}
def Rbehind : List D → D → Prop := fun ds d => ∃ (t : T) (k : Nat), ds = [t.d, .int (k : Int)] ∧ t.text.length ≤ 1000 ∧ d = brD (behT k t)
theorem Rbehind_mk {t : T} {i : Int} (k : Nat) (h : t.text.length ≤ 1000) (e : i = (k : Int)) : Rbehind [t.d, .int i] (brD (behT k t)) := ⟨t, k, by rw [e], h, rfl⟩
theorem cal_behind (F : Dfn K mg "behind" s_behind ["tree", "size"]) (BU : Bl mg) : Cal P w K mg base CX0 1 "behind" (Fn K Rbehind) := by
  refine cal_fn F sc_behind (fun ds d h => by obtain ⟨a, b, rfl, _⟩ := h; rfl) fun cdv A outer s f H vs ds d hr hR S0 => ?_
  obtain ⟨t, k, rfl, hz, rfl⟩ := hR
  refine ⟨_, (pss_one (ps_ret (pe_tup (pa_cons (pe_slice sl_str (pe_ix ix_tup (pv 0) pe_int (fun _ _ => rfl)) (po_some (pv 1)) (po_some (pe_op op_add (pv 1) pe_int))) (pa_cons (pe_tup (pa_cons (pe_ix ix_tup (pv 0) pe_int (fun _ _ => rfl)) (pa_cons (pe_slice sl_str (pe_ix ix_tup (pv 0) pe_int (fun _ _ => rfl)) (po_some (pe_op op_add (pv 1) pe_int)) po_none) (pa_cons (pe_ix ix_tup (pv 0) pe_int (fun _ _ => rfl)) pa_nil)))) pa_nil))))), fun nx Q kn kr => ?_⟩
  try dsimp only [cxOf]
  generalize start _ vs = σ at *
  have S1 : Sl K H [some (.tup [.str t.kind, .str t.text, t.last]), some (.int (k : Int))] σ := by rw [← T.d_eq]; exact S0
  refine s_ret (d := brD (behT k t)) (Ev.to (by walk_at "ev") ?_) fun v H3 e3 hv => kr v H3 e3 hv
  rw [show ((k : Int) + 1) = ((k + 1 : Nat) : Int) by omega, cutL_from, cutL_nn, Nat.add_sub_cancel_left]
  show _ = D.tup [.str ((t.text.drop k).take 1), (t.re (t.text.drop (k + 1))).d]
  rw [T.re_d]
end
end Rt

namespace Rt
open PySem PySem.Spec PyProof.Rows L2
section
variable {P : Program} {w : World} {K : PySem.W.Frag} {mg : Str → Option Value} {base : Heap}
def Rput (N : Nat) : List D → D → Prop := fun ds d => ∃ (t : OT) (x : Tx) (n : Int) (r : T), ds = [OT.d t, .str x, .int n] ∧ Tb N t ∧ x.length ≤ 1000 ∧ r.ok ∧ (∀ y, r.find y = if y = x then some n else OT.find t y) ∧ d = r.d
theorem cal_put (F : Dfn K mg "put" s_put ["tree", "name", "number"]) (BU : Bl mg) (c_common : Cal P w K mg base CX0 1 "common" (Fn K Rcommon)) (c_branch_of : Cal P w K mg base CX0 1 "branch_of" (Fn K Rbranch_of)) (c_with_branch : Cal P w K mg base CX0 1 "with_branch" (Fn K Rwith))
    (c_behind : Cal P w K mg base CX0 1 "behind" (Fn K Rbehind)) : ∀ N, N ≤ 900 → Cal P w K mg base CX0 (N + 1) "put" (Fn K (Rput N))
  | 0, _ => cal_none F fun vs H Q E h => by
    obtain ⟨_, _, _, ⟨t, x, n, r, _, ht, _⟩, _⟩ := h
    exact absurd ht.h (by omega)
  | N + 1, hN => by
    have c_put := cal_put F BU c_common c_branch_of c_with_branch c_behind N (by omega)
    refine cal_fn F sc_put (fun ds d h => by obtain ⟨a, b, c, e, rfl, _⟩ := h; rfl) fun cdv A outer s f H vs ds d hr hR S0 => ?_
    obtain ⟨t, x, n, r, rfl, ht, hx, hr0, hf, rfl⟩ := hR
    refine ⟨_, (pss_cons (ps_if (pt_cmpR op_isN (pv 0) pe_non (nomark _)) (pss_one (ps_ret (pe_tup (pa_cons pe_str (pa_cons (pv 1) (pa_cons (pv 2) pa_nil)))))) pss_nil) (pss_cons (ps_if (PW.pt (pw_and (pt_cmpR op_eq (pe_ix ix_tup (pv 0) pe_int (fun _ _ => rfl)) pe_str (nomark _)) (pw_and1 (pt_cmpR op_eq (pe_ix ix_tup (pv 0) pe_int (fun _ _ => rfl)) (pv 1) (nomark _))))) (pss_one (ps_ret (pe_tup (pa_cons pe_str (pa_cons (pv 1) (pa_cons (pv 2) pa_nil)))))) pss_nil) (pss_cons (ps_set (i := 3) sc_put.nd rfl (Or.inl rfl) (pe_c c_common hr (by omega) (by rfl) (pa_cons (pe_ix ix_tup (pv 0) pe_int (fun _ _ => rfl)) (pa_cons (pv 1) pa_nil)))) (pss_cons (ps_set (i := 4) sc_put.nd rfl (Or.inl rfl) (pe_callB call_len_str (by rfl) BU.len_ PySem.boot_len (pa_cons (pv 3) pa_nil))) (pss_cons (ps_if (PW.pt (pw_or (pt_cmpR op_eq (pe_ix ix_tup (pv 0) pe_int (fun _ _ => rfl)) pe_str (nomark _)) (pw_or1 (pt_cmpR op_lt (pv 4) (pe_callB call_len_str (by rfl) BU.len_ PySem.boot_len (pa_cons (pe_ix ix_tup (pv 0) pe_int (fun _ _ => rfl)) pa_nil)) (nomark _))))) (pss_cons (ps_set (i := 5) sc_put.nd rfl (Or.inl rfl) (pe_c c_behind hr (by omega) (by rfl) (pa_cons (pv 0) (pa_cons (pv 4) pa_nil)))) (pss_cons (ps_set (i := 6) sc_put.nd rfl (Or.inl rfl) (pe_c c_behind hr (by omega) (by rfl) (pa_cons (pe_tup (pa_cons pe_str (pa_cons (pv 1) (pa_cons (pv 2) pa_nil)))) (pa_cons (pv 4) pa_nil)))) (pss_cons (ps_if (pt_cmpR op_lt_str (pe_ix ix_tup (pv 5) pe_int (fun _ _ => rfl)) (pe_ix ix_tup (pv 6) pe_int (fun _ _ => rfl)) (nomark _)) (pss_one (ps_ret (pe_tup (pa_cons pe_str (pa_cons (pv 3) (pa_cons (pe_tup (pa_cons (pv 5) (pa_cons (pv 6) pa_nil))) pa_nil)))))) pss_nil) (pss_one (ps_ret (pe_tup (pa_cons pe_str (pa_cons (pv 3) (pa_cons (pe_tup (pa_cons (pv 6) (pa_cons (pv 5) pa_nil))) pa_nil))))))))) pss_nil) (pss_cons (ps_set (i := 7) sc_put.nd rfl (Or.inl rfl) (pe_slice sl_str (pv 1) (po_some (pv 4)) (po_some (pe_op op_add (pv 4) pe_int)))) (pss_cons (ps_set (i := 8) sc_put.nd rfl (Or.inl rfl) (pe_c c_put hr (by omega) (by rfl) (pa_cons (pe_c c_branch_of hr (by omega) (by rfl) (pa_cons (pe_ix ix_tup (pv 0) pe_int (fun _ _ => rfl)) (pa_cons (pv 7) pa_nil))) (pa_cons (pe_slice sl_str (pv 1) (po_some (pe_op op_add (pv 4) pe_int)) po_none) (pa_cons (pv 2) pa_nil))))) (pss_one (ps_ret (pe_tup (pa_cons pe_str (pa_cons (pv 3) (pa_cons (pe_c c_with_branch hr (by omega) (by rfl) (pa_cons (pe_ix ix_tup (pv 0) pe_int (fun _ _ => rfl)) (pa_cons (pv 7) (pa_cons (pv 8) pa_nil)))) pa_nil))))))))))))), fun nx Q kn kr => ?_⟩
    try dsimp only [cxOf]
    generalize start _ vs = σ at *
    cases t with
    | none =>
      have er : r = .leaf x n := T.ext _ _ hr0 trivial fun y => by
        rw [hf, T.find_l]
        by_cases q : y = x
        · rw [if_pos q, if_pos q.symm]
        · rw [if_neg q, if_neg (fun z => q z.symm)]; rfl
      subst er
      refine q_ifT (by walk_at "etq") fun H1 e1 => ?_
      have S1 := S0.mono e1
      exact s_ret (d := (T.leaf x n).d) (by walk_at "evq") fun v H2 e2 hv => kr v H2 (e1.trans e2) hv
    | some t =>
      have hN' : N + 1 ≤ 1000 := by omega
      have ltx : t.text.length ≤ 1000 := Nat.le_trans (Nat.le_of_lt ht.text) hN'
      -- the ways that part the knot
      have split : ∀ (σ1 : L2.St) (H1 : Hp), Same H H1 → Parts t x → Sl K H1 [some (.tup [.str t.kind, .str t.text, t.last]), some (.str x), some (.int n), some (.str (comL t.text x)), some (.int ((comL t.text x).length : Int)), none, none, none, none] σ1 →
          ∀ te, te = (tSeq (tAsg (tCall (Fn K Rbehind) [] E0 (tCons (tVar 0) (tCons (tVar 4) tNil))) (gName 5)) (tSeq (tAsg (tCall (Fn K Rbehind) [] E0 (tCons (tTup (tCons (tC (.str (Str.ofString "leaf"))) (tCons (tVar 1) (tCons (tVar 2) tNil)))) (tCons (tVar 4) tNil))) (gName 6))
            (tSeq (tIfS (tTest (tOp (fun x y H Q => ∃ i j, x = .str i ∧ y = .str j ∧ Q (.bl (decide (i.cps.toList < j.cps.toList))) H) (tOp (rIxT K) (tVar 5) (tC (.int 0))) (tOp (rIxT K) (tVar 6) (tC (.int 0)))))
              (tRet (tTup (tCons (tC (.str (Str.ofString "fork"))) (tCons (tVar 3) (tCons (tTup (tCons (tVar 5) (tCons (tVar 6) tNil))) tNil))))) tNext)
              (tRet (tTup (tCons (tC (.str (Str.ofString "fork"))) (tCons (tVar 3) (tCons (tTup (tCons (tVar 6) (tCons (tVar 5) tNil))) tNil)))))))) → ∀ E : Ends, E.rt = Q → te E σ1 H1 := by
        rintro σ1 H1 e1 hp S1 te rfl E hE
        have er : r = splitT t x n := T.ext _ _ hr0 (splitT_ok ht.ok hp) fun y => by rw [hf, splitT_find ht.ok hp]; rfl
        rw [er] at kr
        refine q_asg S1 (d := brD (behT (comL t.text x).length t)) (ev_call (by walk_at "ev") ⟨t, _, by rw [T.d_eq], ltx, rfl⟩) fun σ2 H2 e2 S2 => ?_
        refine q_asg S2 (d := brD (behT (comL t.text x).length (.leaf x n))) (ev_call (EvA.to (by walk_at "ev") (by rfl)) ⟨.leaf x n, _, rfl, hx, rfl⟩) fun σ3 H3 e3 S3 => ?_
        have e13 := (e1.trans e2).trans e3
        refine q_if0 (b := decide ((behT (comL t.text x).length t).1 < (behT (comL t.text x).length (.leaf x n)).1)) (by walk_at "ev") (fun c H4 e4 => ?_) (fun c H4 e4 => ?_)
        · have S4 := S3.mono e4
          refine s_ret (K := K) (d := (splitT t x n).d) (Ev.to (by walk_at "ev") ?_) fun v H5 e5 hv => by rw [show Ends.rt _ = Q from hE]; exact kr v H5 ((e13.trans e4).trans e5) hv
          unfold splitT
          simp only [of_decide_eq_true c, if_true]
          rfl
        · have S4 := S3.mono e4
          refine s_ret (K := K) (d := (splitT t x n).d) (Ev.to (by walk_at "ev") ?_) fun v H5 e5 hv => by rw [hE]; exact kr v H5 ((e13.trans e4).trans e5) hv
          unfold splitT
          simp only [of_decide_eq_false c, if_false]
          rfl
      refine q_ifF0 (EvT.to (by walk_at "ev") (by exact T.not_non t)) fun H1 e1 => ?_
      have S1 := S0.mono e1
      have cl := comL_len1 t.text x
      cases t with
      | leaf q m =>
        have cl' : (comL q x).length ≤ q.length := cl
        have ltx' : q.length ≤ 1000 := ltx
        by_cases hq : q = x
        · have er : r = .leaf x n := T.ext _ _ hr0 trivial fun y => by
            rw [hf, T.find_l]
            show (if y = x then _ else T.find _ y) = _
            rw [T.find_l, hq]
            by_cases z : y = x
            · rw [if_pos z, if_pos z.symm]
            · rw [if_neg z, if_neg (fun e => z e.symm), if_neg (fun e => z e.symm)]
          subst er
          refine q_ifT (et_andT (by walk_at "etq") (EvT.to (by walk_at "ev") (by exact decide_eq_true hq))) fun H2 e2 => ?_
          have S2 := S1.mono e2
          exact s_ret (d := (T.leaf x n).d) (by walk_at "evq") fun v H3 e3 hv => kr v H3 ((e1.trans e2).trans e3) hv
        · refine q_ifF0 (et_andT (by walk_at "etq") (EvT.to (by walk_at "ev") (by exact decide_eq_false hq))) fun H2 e2 => ?_
          have S2 := S1.mono e2
          refine q_asg S2 (d := .str (comL q x)) (by walk_at "ev") fun σ3 H3 e3 S3 => ?_
          refine q_asg S3 (by walk_at "ev") fun σ4 H4 e4 S4 => ?_
          refine q_ifT (et_orT (by walk_at "etq")) fun H5 e5 => ?_
          have S5 := S4.mono e5
          exact split σ4 H5 ((((e1.trans e2).trans e3).trans e4).trans e5) ⟨.inr ⟨⟨q, m, rfl⟩, hq⟩⟩ S5 _ rfl _ rfl
      | fork s0 b =>
        have cl' : (comL s0 x).length ≤ s0.length := cl
        have ltx' : s0.length ≤ 1000 := ltx
        refine q_ifF0 (et_andF (EvT.to (by walk_at "ev") (by exact decide_eq_false fork_leaf))) fun H2 e2 => ?_
        have S2 := S1.mono e2
        refine q_asg S2 (d := .str (comL s0 x)) (by walk_at "ev") fun σ3 H3 e3 S3 => ?_
        refine q_asg S3 (by walk_at "ev") fun σ4 H4 e4 S4 => ?_
        by_cases hk : (comL s0 x).length < s0.length
        · refine q_ifT (et_orF (EvT.to (by walk_at "ev") (by exact decide_eq_false fork_leaf)) (EvT.to (by walk_at "ev") (by exact decide_eq_true (by omega)))) fun H5 e5 => ?_
          have S5 := S4.mono e5
          exact split σ4 H5 ((((e1.trans e2).trans e3).trans e4).trans e5) ⟨.inl hk⟩ S5 _ rfl _ rfl
        · refine q_ifF0 (et_orF (EvT.to (by walk_at "ev") (by exact decide_eq_false fork_leaf)) (EvT.to (by walk_at "ev") (by exact decide_eq_false (by omega)))) fun H5 e5 => ?_
          have S5 := S4.mono e5
          have hk' : (comL s0 x).length = s0.length := by omega
          have es : comL s0 x = s0 := (comL_pre1 s0 x).eq_of_length hk'
          have hp : s0 <+: x := by rw [← es]; exact comL_pre2 s0 x
          obtain ⟨g, hg, hgf⟩ := B.put_ex b ht.ok.2 ((x.drop s0.length).take 1) ((x.drop s0.length).drop 1) n
          have er : r = .fork s0 (withB b ((x.drop s0.length).take 1) (some g)) := T.ext _ _ hr0 (put_fork_ok ht.ok hg hgf) fun y => by rw [hf, put_fork_find hp hgf]; rfl
          rw [er] at kr
          rw [es] at S5
          refine q_asg S5 (d := .str ((x.drop s0.length).take 1)) (by walk_at "evq") fun σ6 H6 e6 S6 => ?_
          refine q_asg S6 (d := g.d) (ev_call (by walk_at "ev") ⟨b.look ((x.drop s0.length).take 1), (x.drop s0.length).drop 1, n, g, by rw [cutL_behind, List.drop_drop], ht.sub _, by rw [List.length_drop, List.length_drop]; omega, hg, hgf, rfl⟩) fun σ7 H7 e7 S7 => ?_
          have bl := ht.len
          exact s_ret (d := (T.fork s0 (withB b ((x.drop s0.length).take 1) (some g))).d) (ev_tup (ea_cons ev_str (ea_cons (by walk_at "ev") (ea_cons (ev_call (by walk_at "ev") (Rwith_mk (t := some g) bl)) ea_nil))) (by show 3 ≤ 100000; decide)) fun v H8 e8 hv => kr v H8 (((((((e1.trans e2).trans e3).trans e4).trans e5).trans e6).trans e7).trans e8) hv
end
end Rt

namespace Rt
open PySem PySem.Spec PyProof.Rows L2
section
variable {P : Program} {w : World} {K : PySem.W.Frag} {mg : Str → Option Value} {base : Heap}
def Okeep (CNo CMany : Addr) (g : OT) (rows : Rows) (v : V) (b : Bool) (n : Int) (o : Out) : Prop :=
  (b = false → o = .err CNo) ∧ (b = true → ∀ x, v = .str (S x) → (OT.find g x = none ∧ rows.length = 100 → o = .err CMany) ∧ (¬ (OT.find g x = none ∧ rows.length = 100) → ∃ r : T, r.ok ∧ (∀ y, r.find y = if y = x then some n else OT.find g y) ∧ o = .did (some r) (optD (OT.find g x))))
def SpKeep (K : PySem.W.Frag) (C CNo CMany : Addr) : Sp := fun vs H Q E => ∃ p l g past rows v b n o, vs = [.ref p, v, .int n] ∧ TrAt K C H p l g past ∧ past.length ≤ 10000 ∧ TrOk g rows ∧ Thing K H v b ∧ Okeep CNo CMany g rows v b n o ∧ o.Q K C p l g past H Q E
theorem optD_non (o : Option Int) : (optD o).isNon = o.isNone := by cases o <;> rfl
theorem optD_imm (o : Option Int) : (optD o).imm = true := by cases o <;> rfl
theorem met_keep {CTrail CNoName CTooMany CTrailError : Addr} (F : MDfn K CTrail "keep" "Trail.keep" s_Trail_keep ["self", "name", "number"]) (BU : Bl mg) (m_MOST_NAMES : ∃ t, mg "MOST_NAMES" = some (.int 100 t)) (x_Trail : TrC K mg CTrail) (x_TooMany : Xc K mg "TooMany" CTooMany CTrailError)
    (c_need_name : Cal P w K mg base (L2.CX P w) 3 "need_name" (SpNeed K CNoName)) (c_found : Cal P w K mg base CX0 2 "found" (Fn K Rfound)) (c_put : ∀ N, N ≤ 900 → Cal P w K mg base CX0 (N + 1) "put" (Fn K (Rput N))) (c_Trail_size : MetX P w K mg base CX0 46 CTrail "size" (SpSize K CTrail)) (c_Trail_do : MetX P w K mg base CX0 1 CTrail "do" (SpDo K CTrail)) :
    MetX P w K mg base (L2.CX P w) 47 CTrail "keep" (SpKeep K CTrail CNoName CTooMany) := by
  obtain ⟨tkM, m_MOST_NAMES⟩ := m_MOST_NAMES
  have c_put := c_put 42 (by decide)
  refine met_spX F sc_Trail_keep (fun vs H Q E h => by obtain ⟨p, l, g, past, rows, v, b, n, o, rfl, _⟩ := h; rfl) fun cdv A outer s f H vs Q E hr h => ?_
  obtain ⟨p, l, g, past, rows, v, b, n, o, rfl, ht, hz, ok, hth, ho, k⟩ := h
  have S0 : Sl K H [some (.raw (.ref p)), some (.raw v), some (.int n), none] (start ["self", "name", "number", "had"] [.ref p, v, .int n]) := ⟨_, _, rfl, rfl, _, _, rfl, rfl, _, _, rfl, rfl, none, _, rfl, rfl⟩
  refine ⟨_, (pss_cons (ps_expr (pe_cX c_need_name hr (by omega) (by rfl) passX (pa_cons (pv 1) pa_nil))) (pss_cons (ps_set (i := 3) sc_Trail_keep.nd rfl (Or.inl rfl) (pe_c c_found hr (by omega) (by rfl) (pa_cons (pe_fld (pv 0) rfl) (pa_cons (pv 1) pa_nil)))) (pss_cons (ps_if (PW.pt (pw_and (pt_cmpR op_isN (pv 3) pe_non (nomark _)) (pw_and1 (pt_cmpR op_eq (pe_mt0 c_Trail_size x_Trail.cl hr (by omega) pass0 (pv 0)) (pe_glob (v := .int 100) (by rfl) m_MOST_NAMES ⟨_, rfl⟩) (nomark _))))) (pss_one (ps_raise rfl (takes_of rfl rfl rfl rfl) (pmk_own PySem.F.excBase_ValueError x_TooMany.ex x_TooMany.g x_TooMany.kp (raises_own x_TooMany.sub x_TooMany.ty) (by rfl)))) pss_nil) (pss_cons (ps_expr (pe_mt c_Trail_do x_Trail.cl hr (by omega) pass0 (pv 0) (pa_cons (pe_c c_put hr (by omega) (by rfl) (pa_cons (pe_fld (pv 0) rfl) (pa_cons (pv 1) (pa_cons (pv 2) pa_nil)))) pa_nil))) (pss_one (ps_ret (pv 3))))))), ?_⟩
  try dsimp only [cxOf]
  generalize start _ [V.ref p, v, V.int n] = σ at *
  cases b with
  | false =>
    have e := ho.1 rfl
    subst e
    exact s_seq (s_dropR (er_need (ev_var S0 (by rfl)) hth fun H1 e1 => k H1 e1))
  | true =>
    obtain ⟨x, rfl, hx, hxo⟩ := thing_okT hth
    obtain ⟨k1, k2⟩ := ho.2 rfl x rfl
    have tb := ok.tb
    refine q_drop (d := .non) (en_needOk (ev_var S0 (by rfl)) hth) fun H1 e1 => ?_
    have S1 : Sl K H1 [some (.raw (.ref p)), some (.str x), some (.int n), none] σ := S0.mono e1
    refine q_asg S1 (d := optD (OT.find g x)) (ev_call (ds := [OT.d g, .str x]) (ea_cons (ev_fldG2 x_Trail (ev_var S1 (by rfl)) (ht.mono e1)) (ea_cons (ev_var S1 (by rfl)) ea_nil)) ⟨g, x, rfl, tb.mono (by decide), by omega, rfl⟩) fun σ2 H2 e2 S2 => ?_
    have e02 := e1.trans e2
    have htest : EvT K (tAnd (tTest (tOp (fun x y H Q => y = .non ∧ Q (.bl (decide (x = .non))) H) (tVar 3) (tC .non))) (tTest (tOp rEq (tMeth CTrail "size" (SpSize K CTrail) [] E0 (tVar 0) tNil) (tC (.int 100))))) σ2 H2 ((OT.find g x).isNone && decide ((rows.length : Int) = 100)) :=
      et_and (EvT.to (et_test (ev_isN (ev_var S2 (by rfl)))) (optD_non _)) fun _ => et_test (ev_eqI (ev_size (ev_var S2 (by rfl)) (ht.mono e02) ok) ev_int)
    by_cases hc : OT.find g x = none ∧ rows.length = 100
    · have e := k1 hc
      subst e
      refine q_ifT (EvT.to htest (by rw [hc.1, hc.2]; rfl)) fun H3 e3 => k H3 (e02.trans e3)
    · obtain ⟨r, hr0, hrf, rfl⟩ := k2 hc
      refine q_ifF0 (EvT.to htest ?_) fun H3 e3 => ?_
      · cases q : OT.find g x with
        | some m => rfl
        | none =>
          have : ¬ (rows.length : Int) = 100 := fun z => hc ⟨q, by omega⟩
          rw [decide_eq_false this]; rfl
      have S3 := S2.mono e3
      have e03 := e02.trans e3
      refine q_do (t := some r) (ev_var S3 (by rfl)) (ev_call (ds := [OT.d g, .str x, .int n]) (ea_cons (ev_fldG2 x_Trail (ev_var S3 (by rfl)) (ht.mono e03)) (ea_cons (ev_var S3 (by rfl)) (ea_cons (ev_var S3 (by rfl)) ea_nil))) ⟨g, x, n, r, rfl, tb, by omega, hr0, hrf, rfl⟩) (ht.mono e03) hz fun H4 k4 t4 => ?_
      have tk := (ht.mono e03).tupK k4
      have S4 := Sl.tupK tk (immS_of (by show (true && (true && (true && ((optD (OT.find g x)).imm && true)))) = true; rw [optD_imm]; rfl)) S3
      exact s_ret (d := optD (OT.find g x)) (ev_var S4 (by rfl)) fun u H5 e5 hv => k u H5 (fun b o n1 n2 e => e5 _ _ (k4 b o n1 n2 (e03 _ _ e))) (t4.mono e5) hv
end
end Rt

namespace Rt
open PySem PySem.Spec PyProof.Rows L2
section
variable {P : Program} {w : World} {K : PySem.W.Frag} {mg : Str → Option Value} {base : Heap}
def Rthin (N : Nat) : List D → D → Prop := fun ds d => ∃ (t : T) (x : Tx) (r : OT), ds = [t.d, .str x] ∧ Tb N (some t) ∧ x.length ≤ 1000 ∧ t.find x ≠ none ∧ ThinR (some t) x r ∧ d = OT.d r
theorem cal_thinned (F : Dfn K mg "thinned" s_thinned ["tree", "name"]) (BU : Bl mg) (c_branch_of : Cal P w K mg base CX0 1 "branch_of" (Fn K Rbranch_of)) (c_with_branch : Cal P w K mg base CX0 1 "with_branch" (Fn K Rwith)) (c_knot_of : Cal P w K mg base CX0 1 "knot_of" (Fn K Rknot)) : ∀ N, N ≤ 900 → Cal P w K mg base CX0 (N + 1) "thinned" (Fn K (Rthin N))
  | 0, _ => cal_none F fun vs H Q E h => by
    obtain ⟨_, _, _, ⟨t, x, r, _, ht, _⟩, _⟩ := h
    exact absurd ht.h (by omega)
  | N + 1, hN => by
    have c_thinned := cal_thinned F BU c_branch_of c_with_branch c_knot_of N (by omega)
    refine cal_fn F sc_thinned (fun ds d h => by obtain ⟨a, b, c, rfl, _⟩ := h; rfl) fun cdv A outer s f H vs ds d hr hR S0 => ?_
    obtain ⟨t, x, r, rfl, ht, hx, hf, hc, rfl⟩ := hR
    refine ⟨_, (pss_cons (ps_if (pt_cmpR op_eq (pe_ix ix_tup (pv 0) pe_int (fun _ _ => rfl)) pe_str (nomark _)) (pss_one (ps_ret pe_non)) pss_nil) (pss_cons (ps_set (i := 2) sc_thinned.nd rfl (Or.inl rfl) (pe_callB call_len_str (by rfl) BU.len_ PySem.boot_len (pa_cons (pe_ix ix_tup (pv 0) pe_int (fun _ _ => rfl)) pa_nil))) (pss_cons (ps_set (i := 3) sc_thinned.nd rfl (Or.inl rfl) (pe_slice sl_str (pv 1) (po_some (pv 2)) (po_some (pe_op op_add (pv 2) pe_int)))) (pss_cons (ps_set (i := 4) sc_thinned.nd rfl (Or.inl rfl) (pe_c c_thinned hr (by omega) (by rfl) (pa_cons (pe_c c_branch_of hr (by omega) (by rfl) (pa_cons (pe_ix ix_tup (pv 0) pe_int (fun _ _ => rfl)) (pa_cons (pv 3) pa_nil))) (pa_cons (pe_slice sl_str (pv 1) (po_some (pe_op op_add (pv 2) pe_int)) po_none) pa_nil)))) (pss_one (ps_ret (pe_c c_knot_of hr (by omega) (by rfl) (pa_cons (pe_ix ix_tup (pv 0) pe_int (fun _ _ => rfl)) (pa_cons (pe_c c_with_branch hr (by omega) (by rfl) (pa_cons (pe_ix ix_tup (pv 0) pe_int (fun _ _ => rfl)) (pa_cons (pv 3) (pa_cons (pv 4) pa_nil)))) pa_nil))))))))), fun nx Q kn kr => ?_⟩
    try dsimp only [cxOf]
    generalize start _ vs = σ at *
    have ltx := ht.text
    have hh : t.h + 1 < N + 1 := ht.h
    cases t with
    | leaf q n =>
      have e : q = x := by
        rw [T.find_l] at hf
        by_cases z : q = x
        · exact z
        · rw [if_neg z] at hf; exact absurd rfl hf
      subst e
      have := hc.uniq (thin_leaf q n)
      subst this
      refine q_ifT (by walk_at "etq") fun H1 e1 => ?_
      exact s_ret (K := K) ev_non fun v H2 e2 hv => kr v H2 (e1.trans e2) hv
    | fork s0 b =>
      have ltx' : s0.length < N + 1 := ltx
      refine q_ifF0 (EvT.to (by walk_at "ev") (by exact decide_eq_false fork_leaf)) fun H1 e1 => ?_
      have S1 : Sl K H1 [some (.tup [.str tFork, .str s0, .tup b.d]), some (.str x), none, none, none] σ := S0.mono e1
      obtain ⟨m, hm⟩ : ∃ m, (T.fork s0 b).find x = some m := Option.ne_none_iff_exists'.mp hf
      have hp := fork_pre hm
      obtain ⟨u, hu⟩ : ∃ u, b.look ((x.drop s0.length).take 1) = some u := by
        rw [T.find_fl, if_pos hp] at hm
        cases e : b.look ((x.drop s0.length).take 1) with
        | none => rw [e] at hm; cases hm
        | some u => exact ⟨u, rfl⟩
      have hsub := ht.sub ((x.drop s0.length).take 1)
      rw [hu] at hsub
      have hfu : u.find ((x.drop s0.length).drop 1) ≠ none := fun z => by
        rw [T.find_fl, if_pos hp, hu] at hm
        rw [show OT.find (some u) ((x.drop s0.length).drop 1) = u.find ((x.drop s0.length).drop 1) from rfl, z] at hm
        cases hm
      obtain ⟨left, hl⟩ := ThinR.ex (t := some u) hsub.ok ((x.drop s0.length).drop 1)
      obtain ⟨hc2, wok⟩ := thin_fork ht.ok hp hu hl
      have := hc.uniq hc2
      subst this
      have bl := ht.len
      have w1 := withB_one (y := (x.drop s0.length).take 1) (t := left) ht.ok.2 ht.ok.1
      have hl1 : OT.h left ≤ u.h := hl.h1 hsub.ok
      have hu1 : u.h + 1 < N := hsub.h
      have htx := withB_text (s := s0) (b := b) (N := 1000) ht.ok wok (by omega) (by omega) (by decide)
      refine q_asg S1 (d := .int (s0.length : Int)) (by walk_at "ev") fun σ2 H2 e2 S2 => ?_
      refine q_asg S2 (d := .str ((x.drop s0.length).take 1)) (by walk_at "evq") fun σ3 H3 e3 S3 => ?_
      refine q_asg S3 (d := OT.d left) (ev_call (ea_cons (ev_call (ea_cons (by walk_at "ev") (ea_cons (by walk_at "ev") ea_nil)) Rbranch_of_mk) (ea_cons (by walk_at "ev") ea_nil)) ⟨u, (x.drop s0.length).drop 1, left, by rw [hu, cutL_behind, List.drop_drop]; rfl, hsub, by rw [List.length_drop, List.length_drop]; omega, hfu, hl, rfl⟩) fun σ4 H4 e4 S4 => ?_
      exact s_ret (K := K) (d := (knotB s0 (withB b ((x.drop s0.length).take 1) left)).d) (ev_call (ea_cons (by walk_at "ev") (ea_cons (ev_call (by walk_at "ev") (Rwith_mk bl)) ea_nil)) (Rknot_mk w1 (by omega) htx)) fun v H5 e5 hv => kr v H5 ((((e1.trans e2).trans e3).trans e4).trans e5) hv
end
end Rt

namespace Rt
open PySem PySem.Spec PyProof.Rows L2
section
variable {P : Program} {w : World} {K : PySem.W.Frag} {mg : Str → Option Value} {base : Heap}
def Rwithout (C : Addr) : List D → Res → Prop := fun ds r => ∃ (t : OT) (x : Tx), ds = [OT.d t, .str x] ∧ Tb 42 t ∧ x.length ≤ 1000 ∧ (OT.find t x = none → r = .ex C) ∧ (OT.find t x ≠ none → ∃ s, ThinR t x s ∧ r = .ok (OT.d s))
theorem cal_without {CNotThere CTrailError : Addr} (F : Dfn K mg "without" s_without ["tree", "name"]) (BU : Bl mg) (c_found : Cal P w K mg base CX0 2 "found" (Fn K Rfound)) (c_thinned : ∀ N, N ≤ 900 → Cal P w K mg base CX0 (N + 1) "thinned" (Fn K (Rthin N)))
    (x_NotThere : Xc K mg "NotThere" CNotThere CTrailError) : Cal P w K mg base (L2.CX P w) 44 "without" (FnX K (Rwithout CNotThere)) := by
  have c_thinned := c_thinned 42 (by decide)
  refine cal_fnX F sc_without (fun ds r h => by obtain ⟨a, b, rfl, _⟩ := h; rfl) fun cdv A outer s f H vs ds r E hr hR S0 => ?_
  obtain ⟨t, x, rfl, ht, hx, h0, h1⟩ := hR
  refine ⟨_, (pss_cons (ps_if (pt_cmpR op_isN (pe_c c_found hr (by omega) (by rfl) (pa_cons (pv 0) (pa_cons (pv 1) pa_nil))) pe_non (nomark _)) (pss_one (ps_raise rfl (takes_of rfl rfl rfl rfl) (pmk_own PySem.F.excBase_ValueError x_NotThere.ex x_NotThere.g x_NotThere.kp (raises_own x_NotThere.sub x_NotThere.ty) (by rfl)))) pss_nil) (pss_one (ps_ret (pe_c c_thinned hr (by omega) (by rfl) (pa_cons (pv 0) (pa_cons (pv 1) pa_nil)))))), fun nx Q k _ => ?_⟩
  try dsimp only [cxOf]
  generalize start _ vs = σ at *
  have hfd : Ev K (tCall (Fn K Rfound) [] E0 (tCons (tVar 0) (tCons (tVar 1) tNil))) σ H (optD (OT.find t x)) := ev_call (by walk_at "ev") (Rfound_mk (ht.mono (by decide)) hx)
  cases q : OT.find t x with
  | none =>
    rw [q] at hfd
    have hr0 := h0 q
    subst hr0
    refine q_ifT (EvT.to (et_test (ev_isN hfd)) (by rfl)) fun H1 e1 => ?_
    exact k _ e1
  | some n =>
    rw [q] at hfd
    obtain ⟨r0, hs, rfl⟩ := h1 (by rw [q]; intro z; cases z)
    refine q_ifF0 (EvT.to (et_test (ev_isN hfd)) (by rfl)) fun H1 e1 => ?_
    have S1 := S0.mono e1
    cases t with
    | none => cases q
    | some t => exact s_ret (d := OT.d r0) (ev_call (by walk_at "ev") ⟨t, x, r0, rfl, ht, hx, (by rw [show t.find x = OT.find (some t) x from rfl, q]; intro z; cases z), hs, rfl⟩) fun v H2 e2 hv => k v H2 (e1.trans e2) hv
end
end Rt

namespace Rt
open PySem PySem.Spec PyProof.Rows L2
section
variable {P : Program} {w : World} {K : PySem.W.Frag} {mg : Str → Option Value} {base : Heap}
def Odrop (CNo CNot : Addr) (g : OT) (v : V) (b : Bool) (o : Out) : Prop :=
  (b = false → o = .err CNo) ∧ (b = true → ∀ x, v = .str (S x) → (OT.find g x = none → o = .err CNot) ∧ (∀ n, OT.find g x = some n → ∃ r : OT, ThinR g x r ∧ o = .did r (.int n)))
def SpDrop (K : PySem.W.Frag) (C CNo CNot : Addr) : Sp := fun vs H Q E => ∃ p l g past rows v b o, vs = [.ref p, v] ∧ TrAt K C H p l g past ∧ past.length ≤ 10000 ∧ TrOk g rows ∧ Thing K H v b ∧ Odrop CNo CNot g v b o ∧ o.Q K C p l g past H Q E
theorem met_drop {CTrail CNoName CNotThere : Addr} (F : MDfn K CTrail "drop" "Trail.drop" s_Trail_drop ["self", "name"]) (BU : Bl mg) (x_Trail : TrC K mg CTrail)
    (c_need_name : Cal P w K mg base (L2.CX P w) 3 "need_name" (SpNeed K CNoName)) (c_found : Cal P w K mg base CX0 2 "found" (Fn K Rfound)) (c_without : Cal P w K mg base (L2.CX P w) 44 "without" (FnX K (Rwithout CNotThere))) (c_Trail_do : MetX P w K mg base CX0 1 CTrail "do" (SpDo K CTrail)) :
    MetX P w K mg base (L2.CX P w) 45 CTrail "drop" (SpDrop K CTrail CNoName CNotThere) := by
  refine met_spX F sc_Trail_drop (fun vs H Q E h => by obtain ⟨p, l, g, past, rows, v, b, o, rfl, _⟩ := h; rfl) fun cdv A outer s f H vs Q E hr h => ?_
  obtain ⟨p, l, g, past, rows, v, b, o, rfl, ht, hz, ok, hth, ho, k⟩ := h
  have S0 : Sl K H [some (.raw (.ref p)), some (.raw v), none] (start ["self", "name", "had"] [.ref p, v]) := ⟨_, _, rfl, rfl, _, _, rfl, rfl, none, _, rfl, rfl⟩
  refine ⟨_, (pss_cons (ps_expr (pe_cX c_need_name hr (by omega) (by rfl) passX (pa_cons (pv 1) pa_nil))) (pss_cons (ps_set (i := 2) sc_Trail_drop.nd rfl (Or.inl rfl) (pe_c c_found hr (by omega) (by rfl) (pa_cons (pe_fld (pv 0) rfl) (pa_cons (pv 1) pa_nil)))) (pss_cons (ps_expr (pe_mt c_Trail_do x_Trail.cl hr (by omega) pass0 (pv 0) (pa_cons (pe_cX c_without hr (by omega) (by rfl) passX (pa_cons (pe_fld (pv 0) rfl) (pa_cons (pv 1) pa_nil))) pa_nil))) (pss_one (ps_ret (pv 2)))))), ?_⟩
  try dsimp only [cxOf]
  generalize start _ [V.ref p, v] = σ at *
  cases b with
  | false =>
    have e := ho.1 rfl
    subst e
    exact s_seq (s_dropR (er_need (ev_var S0 (by rfl)) hth fun H1 e1 => k H1 e1))
  | true =>
    obtain ⟨x, rfl, hx, hxo⟩ := thing_okT hth
    obtain ⟨k1, k2⟩ := ho.2 rfl x rfl
    have tb := ok.tb
    refine q_drop (d := .non) (en_needOk (ev_var S0 (by rfl)) hth) fun H1 e1 => ?_
    have S1 : Sl K H1 [some (.raw (.ref p)), some (.str x), none] σ := S0.mono e1
    refine q_asg S1 (d := optD (OT.find g x)) (ev_call (ds := [OT.d g, .str x]) (ea_cons (ev_fldG2 x_Trail (ev_var S1 (by rfl)) (ht.mono e1)) (ea_cons (ev_var S1 (by rfl)) ea_nil)) ⟨g, x, rfl, tb.mono (by decide), by omega, rfl⟩) fun σ2 H2 e2 S2 => ?_
    have e02 := e1.trans e2
    have t2 := ht.mono e02
    have hargs : EvA K (tCons (tFld K (tVar 0) "grown") (tCons (tVar 1) tNil)) σ2 H2 [OT.d g, .str x] := ea_cons (ev_fldG2 x_Trail (ev_var S2 (by rfl)) t2) (ea_cons (ev_var S2 (by rfl)) ea_nil)
    cases q : OT.find g x with
    | none =>
      have e := k1 q
      subst e
      exact q_doR (ev_var S2 (by rfl)) (er_call hargs ⟨g, x, rfl, tb, by omega, fun _ => rfl, fun z => absurd q z⟩ fun H3 e3 => k H3 (e02.trans e3)) t2
    | some n =>
      obtain ⟨r, hr0, rfl⟩ := k2 n q
      rw [q] at S2
      refine q_do (t := r) (ev_var S2 (by rfl)) (ev_callX hargs ⟨g, x, rfl, tb, by omega, fun z => (by rw [q] at z; cases z), fun _ => ⟨r, hr0, rfl⟩⟩) t2 hz fun H4 k4 t4 => ?_
      have tk := t2.tupK k4
      have S4 := Sl.tupK tk (immS_of (by rfl)) S2
      exact s_ret (d := .int n) (ev_var S4 (by rfl)) fun u H5 e5 hv => k u H5 (fun b o n1 n2 e => e5 _ _ (k4 b o n1 n2 (e02 _ _ e))) (t4.mono e5) hv
end
end Rt

namespace Rt
open PySem PySem.Spec PyProof.Rows L2
section
variable {P : Program} {w : World} {K : PySem.W.Frag} {mg : Str → Option Value} {base : Heap}
def Oprune (CNo CNot : Addr) (g : OT) (v : V) (b : Bool) (o : Out) : Prop :=
  (b = false → o = .err CNo) ∧ (b = true → ∀ x, v = .str (S x) → ∃ a c, CutR g x a c ∧ (c = none → o = .err CNot) ∧ (c ≠ none → o = .did a (.int ((OT.names c).length : Int))))
def SpPrune (K : PySem.W.Frag) (C CNo CNot : Addr) : Sp := fun vs H Q E => ∃ p l g past rows v b o, vs = [.ref p, v] ∧ TrAt K C H p l g past ∧ past.length ≤ 10000 ∧ TrOk g rows ∧ Thing K H v b ∧ Oprune CNo CNot g v b o ∧ o.Q K C p l g past H Q E
theorem met_prune {CTrail CNoName CNotThere CTrailError : Addr} (F : MDfn K CTrail "prune" "Trail.prune" s_Trail_prune ["self", "beginning"]) (BU : Bl mg) (x_Trail : TrC K mg CTrail) (x_NotThere : Xc K mg "NotThere" CNotThere CTrailError)
    (c_need_name : Cal P w K mg base (L2.CX P w) 3 "need_name" (SpNeed K CNoName)) (c_cut : ∀ N, N ≤ 900 → Cal P w K mg base CX0 (N + 1) "cut" (Fn K (Rcut N))) (c_names : ∀ N, N ≤ 900 → Cal P w K mg base CX0 (N + 1) "names" (FnN K (Rnames N))) (c_Trail_do : MetX P w K mg base CX0 1 CTrail "do" (SpDo K CTrail)) :
    MetX P w K mg base (L2.CX P w) 45 CTrail "prune" (SpPrune K CTrail CNoName CNotThere) := by
  have c_cut := c_cut 42 (by decide)
  have c_names := c_names 42 (by decide)
  refine met_spX F sc_Trail_prune (fun vs H Q E h => by obtain ⟨p, l, g, past, rows, v, b, o, rfl, _⟩ := h; rfl) fun cdv A outer s f H vs Q E hr h => ?_
  obtain ⟨p, l, g, past, rows, v, b, o, rfl, ht, hz, ok, hth, ho, k⟩ := h
  have S0 : Sl K H [some (.raw (.ref p)), some (.raw v), none] (start ["self", "beginning", "pair"] [.ref p, v]) := ⟨_, _, rfl, rfl, _, _, rfl, rfl, none, _, rfl, rfl⟩
  refine ⟨_, (pss_cons (ps_expr (pe_cX c_need_name hr (by omega) (by rfl) passX (pa_cons (pv 1) pa_nil))) (pss_cons (ps_set (i := 2) sc_Trail_prune.nd rfl (Or.inl rfl) (pe_c c_cut hr (by omega) (by rfl) (pa_cons (pe_fld (pv 0) rfl) (pa_cons (pv 1) pa_nil)))) (pss_cons (ps_if (pt_cmpR op_isN (pe_ix ix_tup (pv 2) pe_int (fun _ _ => rfl)) pe_non (nomark _)) (pss_one (ps_raise rfl (takes_of rfl rfl rfl rfl) (pmk_own PySem.F.excBase_ValueError x_NotThere.ex x_NotThere.g x_NotThere.kp (raises_own x_NotThere.sub x_NotThere.ty) (by rfl)))) pss_nil) (pss_cons (ps_expr (pe_mt c_Trail_do x_Trail.cl hr (by omega) pass0 (pv 0) (pa_cons (pe_ix ix_tup (pv 2) pe_int (fun _ _ => rfl)) pa_nil))) (pss_one (ps_ret (pe_callB call_len_seq (by rfl) BU.len_ PySem.boot_len (pa_cons (pe_c c_names hr (by omega) (by rfl) (pa_cons (pe_ix ix_tup (pv 2) pe_int (fun _ _ => rfl)) pa_nil)) pa_nil)))))))), ?_⟩
  try dsimp only [cxOf]
  generalize start _ [V.ref p, v] = σ at *
  cases b with
  | false =>
    have e := ho.1 rfl
    subst e
    exact s_seq (s_dropR (er_need (ev_var S0 (by rfl)) hth fun H1 e1 => k H1 e1))
  | true =>
    obtain ⟨x, rfl, hx, hxo⟩ := thing_okT hth
    obtain ⟨a, c, hc, k1, k2⟩ := ho.2 rfl x rfl
    have tb := ok.tb
    obtain ⟨ha, hb⟩ := hc.tb tb
    refine q_drop (d := .non) (en_needOk (ev_var S0 (by rfl)) hth) fun H1 e1 => ?_
    have S1 : Sl K H1 [some (.raw (.ref p)), some (.str x), none] σ := S0.mono e1
    refine q_asg S1 (d := .tup [OT.d a, OT.d c]) (ev_call (ds := [OT.d g, .str x]) (ea_cons (ev_fldG2 x_Trail (ev_var S1 (by rfl)) (ht.mono e1)) (ea_cons (ev_var S1 (by rfl)) ea_nil)) ⟨g, x, a, c, rfl, tb, by omega, hc, rfl⟩) fun σ2 H2 e2 S2 => ?_
    have e02 := e1.trans e2
    have t2 := ht.mono e02
    cases c with
    | none =>
      have e := k1 rfl
      subst e
      exact q_ifT (by walk_at "etq") fun H3 e3 => k H3 (e02.trans e3)
    | some u =>
      have e := k2 (by intro z; cases z)
      subst e
      refine q_ifF0 (EvT.to (by walk_at "ev") (by exact T.not_non u)) fun H3 e3 => ?_
      have S3 := S2.mono e3
      have e03 := e02.trans e3
      refine q_do (t := a) (ev_var S3 (by rfl)) (ev_ixT (d := OT.d a) (ev_var S3 (by rfl)) ev_int rfl) (ht.mono e03) hz fun H4 k4 t4 => ?_
      have tk := (ht.mono e03).tupK k4
      have S4 := Sl.tupK tk (immS_of (by show (true && (true && (((OT.d a).imm && ((OT.d (some u)).imm && true)) && true))) = true; rw [OT.imm, OT.imm]; rfl)) S3
      exact s_ret (d := .int ((OT.names (some u)).length : Int)) (Ev.to (ev_lenL (ev_callN (ds := [OT.d (some u)]) (ea_cons (ev_ixT (d := OT.d (some u)) (ev_var S4 (by rfl)) ev_int rfl) ea_nil) ⟨some u, rfl, hb, rfl⟩)) (by rw [List.length_map])) fun y H5 e5 hv => k y H5 (fun b o n1 n2 e => e5 _ _ (k4 b o n1 n2 (e03 _ _ e))) (t4.mono e5) hv
end
end Rt

namespace Rt
open PySem PySem.Spec PyProof.Rows L2
section
variable {P : Program} {w : World} {K : PySem.W.Frag} {mg : Str → Option Value} {base : Heap}
def LongR (c : OT) (z : Tx) : Prop := ∃ p ∈ OT.names c, 40 < z.length + p.1.length
def Obr (CNo CNot CLong : Addr) (g : OT) (v1 v2 : V) (b1 b2 : Bool) (r : Res) : Prop :=
  (b1 = false ∨ b2 = false → r = .ex CNo) ∧ (b1 = true → b2 = true → ∀ x z, v1 = .str (S x) → v2 = .str (S z) → ∃ a c, CutR g x a c ∧ (c = none → r = .ex CNot) ∧ (c ≠ none → LongR c z → r = .ex CLong) ∧ (c ≠ none → ¬ LongR c z → r = .ok (OT.d c)))
def SpBr (K : PySem.W.Frag) (CNo CNot CLong : Addr) : Sp := fun vs H Q E => ∃ g v0 v1 v2 b1 b2 r, vs = [v0, v1, v2] ∧ Dt K H (OT.d g) v0 ∧ Tb 42 g ∧ Thing K H v1 b1 ∧ Thing K H v2 b2 ∧ Obr CNo CNot CLong g v1 v2 b1 b2 r ∧ r.Q K H Q E
theorem cal_need_branch {CNoName CNotThere CTooLong CTrailError : Addr} (F : Dfn K mg "need_branch" s_need_branch ["tree", "beginning", "other"]) (BU : Bl mg) (m_MOST_SIGNS : ∃ t, mg "MOST_SIGNS" = some (.int 40 t)) (x_NotThere : Xc K mg "NotThere" CNotThere CTrailError) (x_TooLong : Xc K mg "TooLong" CTooLong CTrailError)
    (c_need_name : Cal P w K mg base (L2.CX P w) 3 "need_name" (SpNeed K CNoName)) (c_cut : ∀ N, N ≤ 900 → Cal P w K mg base CX0 (N + 1) "cut" (Fn K (Rcut N))) (c_names : ∀ N, N ≤ 900 → Cal P w K mg base CX0 (N + 1) "names" (FnN K (Rnames N))) :
    Cal P w K mg base (L2.CX P w) 44 "need_branch" (SpBr K CNoName CNotThere CTooLong) := by
  obtain ⟨tkM, m_MOST_SIGNS⟩ := m_MOST_SIGNS
  have c_cut := c_cut 42 (by decide)
  have c_names := c_names 42 (by decide)
  refine cal_spX F sc_need_branch (fun vs H Q E h => by obtain ⟨g, v0, v1, v2, b1, b2, r, rfl, _⟩ := h; rfl) fun cdv A outer s f H vs Q E hr h => ?_
  obtain ⟨g, v0, v1, v2, b1, b2, r, rfl, h0, tb, h1, h2, ho, k⟩ := h
  have S0 : Sl K H [some (OT.d g), some (.raw v1), some (.raw v2), none, none] (start ["tree", "beginning", "other", "branch", "pair"] [v0, v1, v2]) := ⟨_, _, rfl, h0, _, _, rfl, rfl, _, _, rfl, rfl, none, _, rfl, none, _, rfl, rfl⟩
  refine ⟨_, (pss_cons (ps_expr (pe_cX c_need_name hr (by omega) (by rfl) passX (pa_cons (pv 1) pa_nil))) (pss_cons (ps_expr (pe_cX c_need_name hr (by omega) (by rfl) passX (pa_cons (pv 2) pa_nil))) (pss_cons (ps_set (i := 3) sc_need_branch.nd rfl (Or.inl rfl) (pe_ix ix_tup (pe_c c_cut hr (by omega) (by rfl) (pa_cons (pv 0) (pa_cons (pv 1) pa_nil))) pe_int (fun _ _ => rfl))) (pss_cons (ps_if (pt_cmpR op_isN (pv 3) pe_non (nomark _)) (pss_one (ps_raise rfl (takes_of rfl rfl rfl rfl) (pmk_own PySem.F.excBase_ValueError x_NotThere.ex x_NotThere.g x_NotThere.kp (raises_own x_NotThere.sub x_NotThere.ty) (by rfl)))) pss_nil) (pss_cons (ps_for (passes_of rfl) rfl (pi_list (pe_c c_names hr (by omega) (by rfl) (pa_cons (pv 3) pa_nil))) (pg_name (i := 4) sc_need_branch.nd rfl (Or.inl rfl)) (pss_one (ps_if (pt_cmpR op_gt (pe_op op_add (pe_callB call_len_str (by rfl) BU.len_ PySem.boot_len (pa_cons (pv 2) pa_nil)) (pe_callB call_len_str (by rfl) BU.len_ PySem.boot_len (pa_cons (pe_ix ix_tup (pv 4) pe_int (fun _ _ => rfl)) pa_nil))) (pe_glob (v := .int 40) (by rfl) m_MOST_SIGNS ⟨_, rfl⟩) (nomark _)) (pss_one (ps_raise rfl (takes_of rfl rfl rfl rfl) (pmk_own PySem.F.excBase_ValueError x_TooLong.ex x_TooLong.g x_TooLong.kp (raises_own x_TooLong.sub x_TooLong.ty) (by rfl)))) pss_nil))) (pss_one (ps_ret (pv 3)))))))), ?_⟩
  try dsimp only [cxOf]
  generalize start _ [v0, v1, v2] = σ at *
  cases b1 with
  | false =>
    have e := ho.1 (.inl rfl)
    subst e
    exact s_seq (s_dropR (er_need (ev_var S0 (by rfl)) h1 fun H1 e1 => k H1 e1))
  | true =>
    refine q_drop (d := .non) (en_needOk (ev_var S0 (by rfl)) h1) fun H1 e1 => ?_
    have S1 := S0.mono e1
    cases b2 with
    | false =>
      have e := ho.1 (.inr rfl)
      subst e
      exact s_seq (s_dropR (er_need (ev_var S1 (by rfl)) (h2.mono e1) fun H2 e2 => k H2 (e1.trans e2)))
    | true =>
      refine q_drop (d := .non) (en_needOk (ev_var S1 (by rfl)) (h2.mono e1)) fun H2 e2 => ?_
      obtain ⟨x, rfl, hx, hxo⟩ := thing_okT h1
      obtain ⟨z, rfl, hz, hzo⟩ := thing_okT h2
      obtain ⟨a, c, hc, k1, k2, k3⟩ := ho.2 rfl rfl x z rfl rfl
      obtain ⟨ha, hb⟩ := hc.tb tb
      have S2 : Sl K H2 [some (OT.d g), some (.str x), some (.str z), none, none] σ := S1.mono e2
      have e02 := e1.trans e2
      refine q_asg S2 (d := OT.d c) (ev_ixT (ev_call (by walk_at "ev") ⟨g, x, a, c, rfl, tb, by omega, hc, rfl⟩) ev_int rfl) fun σ3 H3 e3 S3 => ?_
      have e03 := e02.trans e3
      cases c with
      | none =>
        have e := k1 rfl
        subst e
        exact q_ifT (by walk_at "etq") fun H4 e4 => k H4 (e03.trans e4)
      | some u =>
        have k2 := k2 (by intro q; cases q)
        have k3 := k3 (by intro q; cases q)
        refine q_ifF0 (EvT.to (by walk_at "ev") (by exact T.not_non u)) fun H4 e4 => ?_
        have S4 := S3.mono e4
        have e04 := e03.trans e4
        have hlen : ∀ p ∈ OT.names (some u), p.1.length ≤ 42 := fun p hp => by
          have l1 := OT.len_h hb.ok (((show Rep (OT.names (some u)) (some u) from ⟨hb.ok, rfl⟩).find p.1 p.2).mpr hp)
          have l2 := hb.h
          have l3 : OT.h (some u) ≤ OT.hs (some u) := Nat.le_succ _
          omega
        refine q_forL (l := OT.names (some u)) (enc := rowD) (ev_callN (ds := [OT.d (some u)]) (by walk_at "ev") ⟨some u, rfl, hb, rfl⟩) (fun i ds => ∃ y, ds = [some (OT.d g), some (.str x), some (.str z), some (OT.d (some u)), y] ∧ ∀ p ∈ (OT.names (some u)).take i, ¬ 40 < z.length + p.1.length) S4 ⟨none, rfl, fun p hp => (by cases hp)⟩ ?_ ?_
        · rintro i p hp ds σ5 H5 N ⟨y, rfl, hno⟩ e5 S5 kN
          have hm := List.mem_of_getElem? hp
          have hl := hlen p hm
          have S5' : Sl K H5 [some (OT.d g), some (.str x), some (.str z), some (OT.d (some u)), some (rowD p)] σ5 := S5
          refine s_if (b := decide (40 < z.length + p.1.length)) (EvT.to (by walk_at "ev") (by exact decide_eq_decide.mpr (by omega))) (fun q H6 e6 => ?_) (fun q H6 e6 => ?_)
          · have e := k2 ⟨p, hm, of_decide_eq_true q⟩
            subst e
            exact k H6 ((e04.trans e5).trans e6)
          · refine kN _ _ _ ⟨_, rfl, fun p2 hp2 => ?_⟩ e6 (S5'.mono e6)
            rw [List.take_add_one, hp] at hp2
            rcases List.mem_append.mp hp2 with m | m
            · exact hno p2 m
            · rw [List.mem_singleton.mp m]; exact of_decide_eq_false q
        · rintro ds σ5 H5 ⟨y, rfl, hno⟩ e5 S5
          rw [List.take_of_length_le (Nat.le_refl _)] at hno
          have e := k3 (fun ⟨p, hp, hq⟩ => hno p hp hq)
          subst e
          exact s_ret (d := OT.d (some u)) (ev_var S5 (by rfl)) fun v H6 e6 hv => k v H6 ((e04.trans e5).trans e6) hv
end
end Rt

namespace Rt
open PySem PySem.Spec PyProof.Rows L2
section
variable {P : Program} {w : World} {K : PySem.W.Frag} {mg : Str → Option Value} {base : Heap}
def Rbb : List D → D → Prop := fun ds d => ∃ (t : T) (k : Nat), ds = [t.d, .int (k : Int)] ∧ t.text.length ≤ 1000 ∧ d = .tup (brB k t).d
theorem cal_branches_behind (F : Dfn K mg "branches_behind" s_branches_behind ["tree", "size"]) (BU : Bl mg) (c_behind : Cal P w K mg base CX0 1 "behind" (Fn K Rbehind)) : Cal P w K mg base CX0 2 "branches_behind" (Fn K Rbb) := by
  refine cal_fn F sc_branches_behind (fun ds d h => by obtain ⟨a, b, rfl, _⟩ := h; rfl) fun cdv A outer s f H vs ds d hr hR S0 => ?_
  obtain ⟨t, k, rfl, hz, rfl⟩ := hR
  refine ⟨_, (pss_cons (ps_if (PW.pt (pw_and (pt_cmpR op_eq (pe_ix ix_tup (pv 0) pe_int (fun _ _ => rfl)) pe_str (nomark _)) (pw_and1 (pt_cmpR op_eq (pe_callB call_len_str (by rfl) BU.len_ PySem.boot_len (pa_cons (pe_ix ix_tup (pv 0) pe_int (fun _ _ => rfl)) pa_nil)) (pv 1) (nomark _))))) (pss_one (ps_ret (pe_ix ix_tup (pv 0) pe_int (fun _ _ => rfl)))) pss_nil) (pss_one (ps_ret (pe_tup (pa_cons (pe_c c_behind hr (by omega) (by rfl) (pa_cons (pv 0) (pa_cons (pv 1) pa_nil))) pa_nil))))), fun nx Q kn kr => ?_⟩
  try dsimp only [cxOf]
  generalize start _ vs = σ at *
  have one : ∀ H1, Same H H1 → brB k t = B.of [behT k t] → ∀ te, te = tRet (tTup (tCons (tCall (Fn K Rbehind) [] E0 (tCons (tVar 0) (tCons (tVar 1) tNil))) tNil)) → te { nx := nx, rt := Q } σ H1 := by
    rintro H1 e1 hb te rfl
    exact s_ret (d := .tup (brB k t).d) (Ev.to (ev_tup (ds := [brD (behT k t)]) (ea_cons (ev_call (ds := [t.d, .int (k : Int)]) (by have S1 := S0.mono e1; walk_at "ev") ⟨t, k, rfl, hz, rfl⟩) ea_nil) (by show 1 ≤ 100000; decide)) (by rw [hb, B.d_list, B.list_of]; rfl)) fun v H2 e2 hv => kr v H2 (e1.trans e2) hv
  cases t with
  | leaf r n =>
    refine q_ifF0 (et_andF (EvT.to (by walk_at "ev") (by exact decide_eq_false leaf_fork))) fun H1 e1 => ?_
    exact one H1 e1 rfl _ rfl
  | fork s0 b =>
    have hz' : s0.length ≤ 1000 := hz
    by_cases c : s0.length = k
    · refine q_ifT (et_andT (by walk_at "etq") (EvT.to (by walk_at "ev") (by exact decide_eq_true (by omega)))) fun H1 e1 => ?_
      have S1 := S0.mono e1
      refine s_ret (d := .tup (brB k (.fork s0 b)).d) (Ev.to (by walk_at "ev") ?_) fun v H2 e2 hv => kr v H2 (e1.trans e2) hv
      unfold brB; simp only [c, if_true]
    · refine q_ifF0 (et_andT (by walk_at "etq") (EvT.to (by walk_at "ev") (by exact decide_eq_false (by omega)))) fun H1 e1 => ?_
      exact one H1 e1 (by unfold brB; simp only [c, if_false]) _ rfl
end
end Rt

namespace Rt
open PySem PySem.Spec PyProof.Rows L2
section
variable {P : Program} {w : World} {K : PySem.W.Frag} {mg : Str → Option Value} {base : Heap}
def Rjoined (N : Nat) (C : Addr) : List D → Res → Prop := fun ds r => ∃ (a b : OT), ds = [OT.d a, OT.d b] ∧ Tb N a ∧ Tb 1000 b ∧ (Disj a b → ∃ s, JoinR a b s ∧ r = .ok (OT.d s)) ∧ (¬ Disj a b → r = .ex C)
theorem tb_none {N : Nat} (h : 0 < N) : Tb N none := ⟨trivial, h, Nat.zero_le _⟩
theorem cal_joined {CTaken CTrailError : Addr} (F : Dfn K mg "joined" s_joined ["one", "other"]) (BU : Bl mg) (c_common : Cal P w K mg base CX0 1 "common" (Fn K Rcommon)) (c_branch_of : Cal P w K mg base CX0 1 "branch_of" (Fn K Rbranch_of)) (c_with_branch : Cal P w K mg base CX0 1 "with_branch" (Fn K Rwith))
    (c_branches_behind : Cal P w K mg base CX0 2 "branches_behind" (Fn K Rbb)) (x_Taken : Xc K mg "Taken" CTaken CTrailError) : ∀ N, N ≤ 900 → Cal P w K mg base (L2.CX P w) (N + 2) "joined" (FnX K (Rjoined N CTaken))
  | 0, _ => cal_none F fun vs H Q E h => by
    obtain ⟨_, _, _, ⟨a, b, _, ha, _⟩, _⟩ := h
    exact absurd ha.h (by omega)
  | N + 1, hN => by
    have c_joined := cal_joined F BU c_common c_branch_of c_with_branch c_branches_behind x_Taken N (by omega)
    refine cal_fnX F sc_joined (fun ds d h => by obtain ⟨a, b, rfl, _⟩ := h; rfl) fun cdv A outer s f H vs ds r E hr hR S0 => ?_
    obtain ⟨a, b, rfl, ha, hb, hd1, hd2⟩ := hR
    refine ⟨_, (pss_cons (ps_if (pt_cmpR op_isN (pv 0) pe_non (nomark _)) (pss_one (ps_ret (pv 1))) pss_nil) (pss_cons (ps_if (pt_cmpR op_isN (pv 1) pe_non (nomark _)) (pss_one (ps_ret (pv 0))) pss_nil) (pss_cons (ps_set (i := 2) sc_joined.nd rfl (Or.inl rfl) (pe_c c_common hr (by omega) (by rfl) (pa_cons (pe_ix ix_tup (pv 0) pe_int (fun _ _ => rfl)) (pa_cons (pe_ix ix_tup (pv 1) pe_int (fun _ _ => rfl)) pa_nil)))) (pss_cons (ps_set (i := 3) sc_joined.nd rfl (Or.inl rfl) (pe_c c_branches_behind hr (by omega) (by rfl) (pa_cons (pv 0) (pa_cons (pe_callB call_len_str (by rfl) BU.len_ PySem.boot_len (pa_cons (pv 2) pa_nil)) pa_nil)))) (pss_cons (ps_for (passes_of rfl) rfl (pi_tup (pe_c c_branches_behind hr (by omega) (by rfl) (pa_cons (pv 1) (pa_cons (pe_callB call_len_str (by rfl) BU.len_ PySem.boot_len (pa_cons (pv 2) pa_nil)) pa_nil)))) (pg_name (i := 4) sc_joined.nd rfl (Or.inl rfl)) (pss_cons (ps_set (i := 5) sc_joined.nd rfl (Or.inl rfl) (pe_c c_branch_of hr (by omega) (by rfl) (pa_cons (pv 3) (pa_cons (pe_ix ix_tup (pv 4) pe_int (fun _ _ => rfl)) pa_nil)))) (pss_cons (ps_if (PW.pt (pw_and (pt_cmpR op_notN (pv 5) pe_non (nomark _)) (pw_and1 (pt_cmpR op_eq (pe_ix ix_tup (pv 4) pe_int (fun _ _ => rfl)) pe_str (nomark _))))) (pss_one (ps_raise rfl (takes_of rfl rfl rfl rfl) (pmk_own PySem.F.excBase_ValueError x_Taken.ex x_Taken.g x_Taken.kp (raises_own x_Taken.sub x_Taken.ty) (by rfl)))) pss_nil) (pss_one (ps_set (i := 3) sc_joined.nd rfl (Or.inl rfl) (pe_c c_with_branch hr (by omega) (by rfl) (pa_cons (pv 3) (pa_cons (pe_ix ix_tup (pv 4) pe_int (fun _ _ => rfl)) (pa_cons (pe_cX c_joined hr (by omega) (by rfl) passX (pa_cons (pv 5) (pa_cons (pe_ix ix_tup (pv 4) pe_int (fun _ _ => rfl)) pa_nil))) pa_nil))))))))) (pss_one (ps_ret (pe_tup (pa_cons pe_str (pa_cons (pv 2) (pa_cons (pv 3) pa_nil))))))))))), fun nx Q k _ => ?_⟩
    try dsimp only [cxOf]
    generalize start _ vs = σ at *
    cases a with
    | none =>
      obtain ⟨s, hs, rfl⟩ := hd1 (disj_none b)
      rw [hs.uniq (join_none hb.ok)] at k
      refine q_ifT (by walk_at "etq") fun H1 e1 => ?_
      exact s_ret (d := OT.d b) (ev_var (S0.mono e1) (by rfl)) fun v H2 e2 hv => k v H2 (e1.trans e2) hv
    | some t =>
      refine q_ifF0 (EvT.to (by walk_at "ev") (by exact T.not_non t)) fun H1 e1 => ?_
      have S1 := S0.mono e1
      cases b with
      | none =>
        obtain ⟨s, hs, rfl⟩ := hd1 (disj_none2 _)
        rw [hs.uniq (join_none2 ha.ok)] at k
        refine q_ifT (by walk_at "etq") fun H2 e2 => ?_
        exact s_ret (d := OT.d (some t)) (ev_var (S1.mono e2) (by rfl)) fun v H3 e3 hv => k v H3 ((e1.trans e2).trans e3) hv
      | some u =>
        refine q_ifF0 (EvT.to (by walk_at "ev") (by exact T.not_non u)) fun H2 e2 => ?_
        have S2 : Sl K H2 [some (.tup [.str t.kind, .str t.text, t.last]), some (.tup [.str u.kind, .str u.text, u.last]), none, none, none, none] σ := by rw [← T.d_eq, ← T.d_eq]; exact S1.mono e2
        have okt : t.ok := ha.ok
        have oku : u.ok := hb.ok
        have lt1 : t.text.length ≤ 1000 := Nat.le_trans (Nat.le_of_lt ha.text) (by omega)
        have lu1 : u.text.length ≤ 1000 := Nat.le_of_lt hb.text
        have k1 := comL_len1 t.text u.text
        have k2 := comL_len2 t.text u.text
        have oA := brB_ok okt k1
        have oU := brB_ok oku k2
        have hh : t.h + 1 < N + 1 := ha.h
        have hu : u.h + 1 < 1000 := hb.h
        have ct : t.names.length ≤ 1000 := ha.cnt
        have cu : u.names.length ≤ 1000 := hb.cnt
        have lA := brB_len (k := (comL t.text u.text).length) okt
        have lU := brB_len (k := (comL t.text u.text).length) oku
        have hpw := ((B.ok_iff _).mp oU).2
        refine q_asg S2 (d := .str (comL t.text u.text)) (by walk_at "ev") fun σ3 H3 e3 S3 => ?_
        have hlen : Ev K (tCB (fun xs H Q => ∃ z, xs = [.str z] ∧ z.length ≤ sizeLine ∧ Q (.int z.length) H) (tCons (tVar 2) tNil)) σ3 H3 (.int ((comL t.text u.text).length : Int)) := by walk_at "ev"
        refine q_asg S3 (d := .tup (brB (comL t.text u.text).length t).d) (ev_call (ea_cons (by walk_at "ev") (ea_cons hlen ea_nil)) ⟨t, _, by rw [T.d_eq], lt1, rfl⟩) fun σ4 H4 e4 S4 => ?_
        have e14 := ((e1.trans e2).trans e3).trans e4
        refine q_forT (l := (brB (comL t.text u.text).length u).list) (enc := brD) (Ev.to (ev_call (d := .tup (brB (comL t.text u.text).length u).d) (ea_cons (by walk_at "ev") (ea_cons (by walk_at "ev") ea_nil)) ⟨u, _, by rw [T.d_eq], lu1, rfl⟩) (by rw [B.d_list]))
          (fun i ds => ∃ (M : B) (z4 z5 : Option D), ds = [some (.tup [.str t.kind, .str t.text, t.last]), some (.tup [.str u.kind, .str u.text, u.last]), some (.str (comL t.text u.text)), some (.tup M.d), z4, z5] ∧ JI (brB (comL t.text u.text).length t) (brB (comL t.text u.text).length u).list i M) S4 ⟨_, none, none, rfl, JI.start oA _⟩ ?_ ?_
        · rintro i p hp ds σ5 H5 Nx ⟨M, z4, z5, rfl, j⟩ e5 S5 kN
          have e15 := e14.trans e5
          have pm := List.mem_of_getElem? hp
          obtain ⟨g1, g2, g3, g4⟩ := B.ok_sub (y := p.1) (t := p.2) oU pm
          have S5' : Sl K H5 [some (.tup [.str t.kind, .str t.text, t.last]), some (.tup [.str u.kind, .str u.text, u.last]), some (.str (comL t.text u.text)), some (.tup M.d), some (.tup [.str p.1, p.2.d]), z5] σ5 := S5
          have hM : M.list.length ≤ 3000 := by
            have := j.len
            have hi := (List.getElem?_eq_some_iff.mp hp).1
            omega
          have tbp : Tb 1000 (some p.2) := by
            have := brB_sub oku k2 (c := p.1) (u := p.2) pm
            exact ⟨g2, by show p.2.h + 1 < 1000; omega, by show p.2.names.length ≤ 1000; omega⟩
          refine q_asg S5' (d := OT.d ((brB (comL t.text u.text).length t).look p.1)) (ev_call (by walk_at "ev") ⟨M, p.1, rfl, by rw [j.held oA hp hpw]⟩) fun σ6 H6 e6 S6 => ?_
          have e16 := e15.trans e6
          have stop : ¬ Disj ((brB (comL t.text u.text).length t).look p.1) (some p.2) → ∀ H', Same H H' → E (.ref CTaken) none H' := fun nd H' e => by
            have := hd2 (join_hit okt oku pm nd)
            subst this
            exact k H' e
          have go : ∀ H7, Same H6 H7 → (p.1 = [] → (brB (comL t.text u.text).length t).look p.1 = none) → Tb N ((brB (comL t.text u.text).length t).look p.1) →
              ∀ te, te = tAsg (tCall (Fn K Rwith) [] E0 (tCons (tVar 3) (tCons (tOp (rIxT K) (tVar 4) (tC (.int 0))) (tCons (tCall (FnX K (Rjoined N CTaken)) [] E (tCons (tVar 5) (tCons (tOp (rIxT K) (tVar 4) (tC (.int 1))) tNil))) tNil)))) (gName 3) →
              ∀ En : Ends, En.nx = Nx → te En σ6 H7 := by
            rintro H7 e7 hn tbh te rfl En hEn
            have S7 := S6.mono e7
            by_cases dj : Disj ((brB (comL t.text u.text).length t).look p.1) (some p.2)
            · obtain ⟨r0, hr0⟩ := JoinR.ex (B.look_ok oA p.1) (b := some p.2) g2
              obtain ⟨v, rfl⟩ := join_some hr0 g2
              exact s_asg S7 (d := .tup (withB M p.1 (some v)).d) (ev_call (ds := [.tup M.d, .str p.1, OT.d (some v)]) (ea_cons (by walk_at "ev") (ea_cons (by walk_at "ev") (ea_cons (ev_callX (ds := [OT.d ((brB (comL t.text u.text).length t).look p.1), p.2.d]) (by walk_at "ev") ⟨_, some p.2, rfl, tbh, tbp, fun _ => ⟨some v, hr0, rfl⟩, fun z => absurd dj z⟩) ea_nil))) ⟨M, p.1, some v, rfl, hM, rfl⟩) fun σ8 H8 e8 S8 => by
                rw [hEn]
                exact kN _ _ _ ⟨_, _, _, rfl, j.next oA hp hpw g1 g2 g3 hr0 dj hn⟩ ((e6.trans e7).trans e8) S8
            · exact s_asgR (er_callA (ear_tail (d := .tup M.d) (by walk_at "ev") (ear_tail (d := .str p.1) (by walk_at "ev") (ear_head (er_call (ds := [OT.d ((brB (comL t.text u.text).length t).look p.1), p.2.d]) (by walk_at "ev") ⟨_, some p.2, rfl, tbh, tbp, fun z => absurd z dj, fun _ => rfl⟩ fun H8 e8 => stop dj H8 ((e16.trans e7).trans e8))))))
          cases hl : (brB (comL t.text u.text).length t).look p.1 with
          | none =>
            rw [hl] at S6
            refine q_ifF0 (et_andF (EvT.to (et_test (ev_notN (ev_var S6 (by rfl)))) (by rfl))) fun H7 e7 => ?_
            exact go H7 e7 (fun _ => hl) (by rw [hl]; exact tb_none (by omega)) _ rfl _ rfl
          | some v =>
            have S6' := S6
            rw [hl] at S6'
            have vm := B.look_mem hl
            obtain ⟨w1, w2, w3, _⟩ := B.ok_sub oA vm
            have w4 := brB_sub okt k1 vm
            by_cases hc : p.1 = []
            · refine q_ifT (et_andT (EvT.to (et_test (ev_notN (ev_var S6' (by rfl)))) (by rw [show (OT.d (some v)).isNon = false from T.not_non v]; rfl)) (EvT.to (by walk_at "ev") (by rw [hc]; rfl))) fun H7 e7 => ?_
              refine stop (fun z => ?_) H7 (e16.trans e7)
              obtain ⟨n1, q1⟩ := w3 hc
              obtain ⟨n2, q2⟩ := g3 hc
              rw [hl, q1, q2] at z
              rcases z [] with q | q <;> cases q
            · refine q_ifF0 (et_andT (EvT.to (et_test (ev_notN (ev_var S6' (by rfl)))) (by rw [show (OT.d (some v)).isNon = false from T.not_non v]; rfl)) (EvT.to (by walk_at "ev") (by exact decide_eq_false hc))) fun H7 e7 => ?_
              exact go H7 e7 (fun z => absurd z hc) (by rw [hl]; exact ⟨w2, by show v.h + 1 < N; have := w4.2.2 hc; omega, by show v.names.length ≤ 1000; omega⟩) _ rfl _ rfl
        · rintro ds σ5 H5 ⟨M, z4, z5, rfl, j⟩ e5 S5
          obtain ⟨jr, dj⟩ := j.done okt oku
          obtain ⟨s, hs, rfl⟩ := hd1 dj
          rw [hs.uniq jr] at k
          exact s_ret (d := (T.fork (comL t.text u.text) M).d) (Ev.to (ev_tup (ea_cons ev_str (ea_cons (by walk_at "ev") (ea_cons (by walk_at "ev") ea_nil))) (by show 3 ≤ 100000; decide)) rfl) fun v H6 e6 hv => k v H6 ((e14.trans e5).trans e6) hv
end
end Rt

namespace Rt
open PySem PySem.Spec PyProof.Rows L2
section
variable {P : Program} {w : World} {K : PySem.W.Frag} {mg : Str → Option Value} {base : Heap}
def Rahead : List D → D → Prop := fun ds d => ∃ (t : OT) (x : Tx), ds = [OT.d t, .str x] ∧ (∀ u, t = some u → u.text.length ≤ 10000) ∧ x.length ≤ 10000 ∧ d = OT.d (OT.pre x t)
theorem cal_ahead (F : Dfn K mg "ahead" s_ahead ["tree", "beginning"]) (BU : Bl mg) : Cal P w K mg base CX0 1 "ahead" (Fn K Rahead) := by
  refine cal_fn F sc_ahead (fun ds d h => by obtain ⟨a, b, rfl, _⟩ := h; rfl) fun cdv A outer s f H vs ds d hr hR S0 => ?_
  obtain ⟨t, x, rfl, ht, hx, rfl⟩ := hR
  refine ⟨_, (pss_cons (ps_if (pt_cmpR op_isN (pv 0) pe_non (nomark _)) (pss_one (ps_ret pe_non)) pss_nil) (pss_one (ps_ret (pe_tup (pa_cons (pe_ix ix_tup (pv 0) pe_int (fun _ _ => rfl)) (pa_cons (pe_op op_add_str (pv 1) (pe_ix ix_tup (pv 0) pe_int (fun _ _ => rfl))) (pa_cons (pe_ix ix_tup (pv 0) pe_int (fun _ _ => rfl)) pa_nil))))))), fun nx Q kn kr => ?_⟩
  try dsimp only [cxOf]
  generalize start _ vs = σ at *
  cases t with
  | none =>
    refine q_ifT (by walk_at "etq") fun H1 e1 => ?_
    exact s_ret (K := K) ev_non fun v H2 e2 hv => kr v H2 (e1.trans e2) hv
  | some t =>
    have lt := ht t rfl
    refine q_ifF0 (EvT.to (by walk_at "ev") (by exact T.not_non t)) fun H1 e1 => ?_
    have S1' := S0.mono e1
    have S1 : Sl K H1 [some (.tup [.str t.kind, .str t.text, t.last]), some (.str x)] σ := by rw [← T.d_eq]; exact S1'
    refine s_ret (K := K) (d := (t.pre x).d) (Ev.to (by walk_at "ev") ?_) fun v H2 e2 hv => kr v H2 (e1.trans e2) hv
    rw [T.pre, T.re_d]
end
end Rt

namespace Rt
open PySem PySem.Spec PyProof.Rows L2
section
variable {P : Program} {w : World} {K : PySem.W.Frag} {mg : Str → Option Value} {base : Heap}
def Rmoved (C T : Addr) : List D → Res → Prop := fun ds r => ∃ (t a b : OT) (x z : Tx), ds = [OT.d t, .str x, .str z] ∧ Tb 42 t ∧ x.length ≤ 100 ∧ z.length ≤ 100 ∧ CutR t x a b ∧ (b = none → r = .ex C) ∧
  (b ≠ none → (Disj a (OT.pre z b) → ∃ s, JoinR a (OT.pre z b) s ∧ r = .ok (OT.d s)) ∧ (¬ Disj a (OT.pre z b) → r = .ex T))
theorem cal_moved {CTaken CNotThere CTrailError : Addr} (F : Dfn K mg "moved" s_moved ["tree", "beginning", "other"]) (BU : Bl mg) (c_cut : ∀ N, N ≤ 900 → Cal P w K mg base CX0 (N + 1) "cut" (Fn K (Rcut N))) (c_ahead : Cal P w K mg base CX0 1 "ahead" (Fn K Rahead))
    (c_joined : ∀ N, N ≤ 900 → Cal P w K mg base (L2.CX P w) (N + 2) "joined" (FnX K (Rjoined N CTaken))) (x_NotThere : Xc K mg "NotThere" CNotThere CTrailError) : Cal P w K mg base (L2.CX P w) 45 "moved" (FnX K (Rmoved CNotThere CTaken)) := by
  have c_cut := c_cut 42 (by decide)
  have c_joined := c_joined 42 (by decide)
  refine cal_fnX F sc_moved (fun ds d h => by obtain ⟨a, b, c, d, e, rfl, _⟩ := h; rfl) fun cdv A outer s f H vs ds r E hr hR S0 => ?_
  obtain ⟨t, a, b, x, z, rfl, ht, hx, hz, hc, h0, h1⟩ := hR
  refine ⟨_, (pss_cons (ps_set (i := 3) sc_moved.nd rfl (Or.inl rfl) (pe_c c_cut hr (by omega) (by rfl) (pa_cons (pv 0) (pa_cons (pv 1) pa_nil)))) (pss_cons (ps_if (pt_cmpR op_isN (pe_ix ix_tup (pv 3) pe_int (fun _ _ => rfl)) pe_non (nomark _)) (pss_one (ps_raise rfl (takes_of rfl rfl rfl rfl) (pmk_own PySem.F.excBase_ValueError x_NotThere.ex x_NotThere.g x_NotThere.kp (raises_own x_NotThere.sub x_NotThere.ty) (by rfl)))) pss_nil) (pss_one (ps_ret (pe_cX c_joined hr (by omega) (by rfl) passX (pa_cons (pe_ix ix_tup (pv 3) pe_int (fun _ _ => rfl)) (pa_cons (pe_c c_ahead hr (by omega) (by rfl) (pa_cons (pe_ix ix_tup (pv 3) pe_int (fun _ _ => rfl)) (pa_cons (pv 2) pa_nil))) pa_nil))))))), fun nx Q k _ => ?_⟩
  try dsimp only [cxOf]
  generalize start _ vs = σ at *
  obtain ⟨ha, hb⟩ := hc.tb ht
  refine q_asg S0 (d := .tup [OT.d a, OT.d b]) (ev_call (by walk_at "ev") ⟨t, x, a, b, rfl, ht, by omega, hc, rfl⟩) fun σ1 H1 e1 S1 => ?_
  cases b with
  | none =>
    have := h0 rfl
    subst this
    exact q_ifT (by walk_at "etq") fun H2 e2 => k _ (e1.trans e2)
  | some u =>
    obtain ⟨k1, k2⟩ := h1 (by intro q; cases q)
    refine q_ifF0 (EvT.to (by walk_at "ev") (by exact T.not_non u)) fun H2 e2 => ?_
    have S2 := S1.mono e2
    have hp := hb.pre z
    have lt : ∀ v, some u = some v → v.text.length ≤ 10000 := fun v hv => by
      cases hv; exact Nat.le_trans (Nat.le_of_lt hb.text) (by decide)
    have hpre : Ev K (tCall (Fn K Rahead) [] E0 (tCons (tOp (rIxT K) (tVar 3) (tC (.int 1))) (tCons (tVar 2) tNil))) σ1 H2 (OT.d (OT.pre z (some u))) := ev_call (ds := [OT.d (some u), .str z]) (EvA.to (by walk_at "ev") (by rfl)) ⟨some u, z, rfl, lt, by omega, rfl⟩
    have hargs : EvA K (tCons (tOp (rIxT K) (tVar 3) (tC (.int 0))) (tCons (tCall (Fn K Rahead) [] E0 (tCons (tOp (rIxT K) (tVar 3) (tC (.int 1))) (tCons (tVar 2) tNil))) tNil)) σ1 H2 [OT.d a, OT.d (OT.pre z (some u))] := ea_cons (by walk_at "ev") (ea_cons hpre ea_nil)
    by_cases dj : Disj a (OT.pre z (some u))
    · obtain ⟨s0, hs, rfl⟩ := k1 dj
      exact s_ret (d := OT.d s0) (ev_callX hargs ⟨a, OT.pre z (some u), rfl, ha, hp.mono (by omega), fun _ => ⟨s0, hs, rfl⟩, fun q => absurd dj q⟩) fun v H3 e3 hv => k v H3 ((e1.trans e2).trans e3) hv
    · have := k2 dj
      subst this
      exact s_retR (er_call hargs ⟨a, OT.pre z (some u), rfl, ha, hp.mono (by omega), fun q => absurd q dj, fun _ => rfl⟩ fun H3 e3 => k H3 ((e1.trans e2).trans e3))
end
end Rt

namespace Rt
open PySem PySem.Spec PyProof.Rows L2
section
variable {P : Program} {w : World} {K : PySem.W.Frag} {mg : Str → Option Value} {base : Heap}
def Omove (CNo CNot CLong CTaken : Addr) (g : OT) (v1 v2 : V) (b1 b2 : Bool) (o : Out) : Prop :=
  (b1 = false ∨ b2 = false → o = .err CNo) ∧ (b1 = true → b2 = true → ∀ x z, v1 = .str (S x) → v2 = .str (S z) → ∃ a c, CutR g x a c ∧ (c = none → o = .err CNot) ∧ (c ≠ none → LongR c z → o = .err CLong) ∧
    (c ≠ none → ¬ LongR c z → (¬ Disj a (OT.pre z c) → o = .err CTaken) ∧ (Disj a (OT.pre z c) → ∃ s, JoinR a (OT.pre z c) s ∧ o = .did s (.int ((OT.names c).length : Int)))))
def SpMove (K : PySem.W.Frag) (C CNo CNot CLong CTaken : Addr) : Sp := fun vs H Q E => ∃ p l g past rows v1 v2 b1 b2 o, vs = [.ref p, v1, v2] ∧ TrAt K C H p l g past ∧ past.length ≤ 10000 ∧ TrOk g rows ∧ Thing K H v1 b1 ∧ Thing K H v2 b2 ∧ Omove CNo CNot CLong CTaken g v1 v2 b1 b2 o ∧ o.Q K C p l g past H Q E
section
variable {σ : L2.St} {H : Hp} {t0 t1 t2 : TE} {CNo CNot CLong : Addr} {g : OT} {v1 v2 : V} {b1 b2 : Bool} {E : XK}
theorem er_br {c : Addr} (h0 : Ev K t0 σ H (OT.d g)) (h1 : Ev K t1 σ H (.raw v1)) (h2 : Ev K t2 σ H (.raw v2)) (tb : Tb 42 g) (T1 : Thing K H v1 b1) (T2 : Thing K H v2 b2) (ho : Obr CNo CNot CLong g v1 v2 b1 b2 (.ex c)) (hE : ∀ H', Same H H' → E (.ref c) none H') :
    EvR (tCall (SpBr K CNo CNot CLong) [] E (tCons t0 (tCons t1 (tCons t2 tNil)))) σ H := fun H1 a Q =>
  h0 H1 a _ fun y0 H2 s2 hy0 => h1 H2 (a.trans s2) _ fun y1 H3 s3 hy1 => h2 H3 ((a.trans s2).trans s3) _ fun y2 H4 s4 hy2 =>
    ⟨g, y0, v1, v2, b1, b2, .ex c, by rw [show y1 = v1 from hy1, show y2 = v2 from hy2]; rfl, Dt.mono (s3.trans s4) _ hy0, tb, T1.mono (((a.trans s2).trans s3).trans s4), T2.mono (((a.trans s2).trans s3).trans s4), ho, fun H5 s5 => hE H5 ((((a.trans s2).trans s3).trans s4).trans s5)⟩
theorem ev_br {d : D} (h0 : Ev K t0 σ H (OT.d g)) (h1 : Ev K t1 σ H (.raw v1)) (h2 : Ev K t2 σ H (.raw v2)) (tb : Tb 42 g) (T1 : Thing K H v1 b1) (T2 : Thing K H v2 b2) (ho : Obr CNo CNot CLong g v1 v2 b1 b2 (.ok d)) :
    Ev K (tCall (SpBr K CNo CNot CLong) [] E (tCons t0 (tCons t1 (tCons t2 tNil)))) σ H d := fun H1 a Q q =>
  h0 H1 a _ fun y0 H2 s2 hy0 => h1 H2 (a.trans s2) _ fun y1 H3 s3 hy1 => h2 H3 ((a.trans s2).trans s3) _ fun y2 H4 s4 hy2 =>
    ⟨g, y0, v1, v2, b1, b2, .ok d, by rw [show y1 = v1 from hy1, show y2 = v2 from hy2]; rfl, Dt.mono (s3.trans s4) _ hy0, tb, T1.mono (((a.trans s2).trans s3).trans s4), T2.mono (((a.trans s2).trans s3).trans s4), ho, fun v H5 s5 hv => q v H5 (((s2.trans s3).trans s4).trans s5) hv⟩
end
theorem met_move {CTrail CNoName CNotThere CTooLong CTaken : Addr} (F : MDfn K CTrail "move" "Trail.move" s_Trail_move ["self", "beginning", "other"]) (BU : Bl mg) (x_Trail : TrC K mg CTrail)
    (c_need_branch : Cal P w K mg base (L2.CX P w) 44 "need_branch" (SpBr K CNoName CNotThere CTooLong)) (c_moved : Cal P w K mg base (L2.CX P w) 45 "moved" (FnX K (Rmoved CNotThere CTaken))) (c_names : ∀ N, N ≤ 900 → Cal P w K mg base CX0 (N + 1) "names" (FnN K (Rnames N))) (c_Trail_do : MetX P w K mg base CX0 1 CTrail "do" (SpDo K CTrail)) :
    MetX P w K mg base (L2.CX P w) 46 CTrail "move" (SpMove K CTrail CNoName CNotThere CTooLong CTaken) := by
  have c_names := c_names 42 (by decide)
  refine met_spX F sc_Trail_move (fun vs H Q E h => by obtain ⟨p, l, g, past, rows, v1, v2, b1, b2, o, rfl, _⟩ := h; rfl) fun cdv A outer s f H vs Q E hr h => ?_
  obtain ⟨p, l, g, past, rows, v1, v2, b1, b2, o, rfl, ht, hz, ok, h1, h2, ho, k⟩ := h
  have S0 : Sl K H [some (.raw (.ref p)), some (.raw v1), some (.raw v2), none] (start ["self", "beginning", "other", "branch"] [.ref p, v1, v2]) := ⟨_, _, rfl, rfl, _, _, rfl, rfl, _, _, rfl, rfl, none, _, rfl, rfl⟩
  refine ⟨_, (pss_cons (ps_set (i := 3) sc_Trail_move.nd rfl (Or.inl rfl) (pe_cX c_need_branch hr (by omega) (by rfl) passX (pa_cons (pe_fld (pv 0) rfl) (pa_cons (pv 1) (pa_cons (pv 2) pa_nil))))) (pss_cons (ps_expr (pe_mt c_Trail_do x_Trail.cl hr (by omega) pass0 (pv 0) (pa_cons (pe_cX c_moved hr (by omega) (by rfl) passX (pa_cons (pe_fld (pv 0) rfl) (pa_cons (pv 1) (pa_cons (pv 2) pa_nil)))) pa_nil))) (pss_one (ps_ret (pe_callB call_len_seq (by rfl) BU.len_ PySem.boot_len (pa_cons (pe_c c_names hr (by omega) (by rfl) (pa_cons (pv 3) pa_nil)) pa_nil)))))), ?_⟩
  try dsimp only [cxOf]
  generalize start _ [V.ref p, v1, v2] = σ at *
  have tb := ok.tb
  have hg : Ev K (tFld K (tVar 0) "grown") σ H (OT.d g) := ev_fldG2 x_Trail (ev_var S0 (by rfl)) ht
  by_cases hbad : b1 = false ∨ b2 = false
  · have e := ho.1 hbad
    subst e
    refine q_asgR (er_br (c := CNoName) hg (ev_var S0 (by rfl)) (ev_var S0 (by rfl)) tb h1 h2 ⟨fun _ => rfl, fun z1 z2 => ?_⟩ fun H1 e1 => k H1 e1)
    rcases hbad with q | q
    · rw [q] at z1; cases z1
    · rw [q] at z2; cases z2
  · have q1 : b1 = true := by cases b1 with
      | true => rfl
      | false => exact absurd (.inl rfl) hbad
    have q2 : b2 = true := by cases b2 with
      | true => rfl
      | false => exact absurd (.inr rfl) hbad
    subst q1
    subst q2
    obtain ⟨x, rfl, hx, hxo⟩ := thing_okT h1
    obtain ⟨z, rfl, hz2, hzo⟩ := thing_okT h2
    obtain ⟨a, c, hc, k1, k2, k3⟩ := ho.2 rfl rfl x z rfl rfl
    obtain ⟨ha, hb⟩ := hc.tb tb
    have nb : ∀ {r : Res}, (true = false ∨ true = false → r = .ex CNoName) := fun z => by rcases z with z | z <;> cases z
    have inv : ∀ {r : Res}, (c = none → r = .ex CNotThere) → (c ≠ none → LongR c z → r = .ex CTooLong) → (c ≠ none → ¬ LongR c z → r = .ok (OT.d c)) → Obr CNoName CNotThere CTooLong g (.str (S x)) (.str (S z)) true true r := fun i1 i2 i3 => ⟨nb, fun _ _ x' z' ex ez => by
      have ex' : x = x' := S_inj (V.str.inj ex)
      have ez' : z = z' := S_inj (V.str.inj ez)
      subst ex'
      subst ez'
      exact ⟨a, c, hc, i1, i2, i3⟩⟩
    by_cases hn : c = none
    · have e := k1 hn
      subst e
      exact q_asgR (er_br (c := CNotThere) hg (ev_var S0 (by rfl)) (ev_var S0 (by rfl)) tb h1 h2 (inv (fun _ => rfl) (fun q => absurd hn q) (fun q => absurd hn q)) fun H1 e1 => k H1 e1)
    · by_cases hL : LongR c z
      · have e := k2 hn hL
        subst e
        exact q_asgR (er_br (c := CTooLong) hg (ev_var S0 (by rfl)) (ev_var S0 (by rfl)) tb h1 h2 (inv (fun q => absurd q hn) (fun _ _ => rfl) (fun _ q => absurd hL q)) fun H1 e1 => k H1 e1)
      · obtain ⟨k4, k5⟩ := k3 hn hL
        refine q_asg S0 (d := OT.d c) (ev_br hg (ev_var S0 (by rfl)) (ev_var S0 (by rfl)) tb h1 h2 (inv (fun q => absurd q hn) (fun _ q => absurd q hL) (fun _ _ => rfl))) fun σ1 H1 e1 S1 => ?_
        have S1' : Sl K H1 [some (.raw (.ref p)), some (.str x), some (.str z), some (OT.d c)] σ1 := S1
        have t1 := ht.mono e1
        have hargs : EvA K (tCons (tFld K (tVar 0) "grown") (tCons (tVar 1) (tCons (tVar 2) tNil))) σ1 H1 [OT.d g, .str x, .str z] := ea_cons (ev_fldG2 x_Trail (ev_var S1' (by rfl)) t1) (ea_cons (ev_var S1' (by rfl)) (ea_cons (ev_var S1' (by rfl)) ea_nil))
        by_cases dj : Disj a (OT.pre z c)
        · obtain ⟨s0, hs, rfl⟩ := k5 dj
          refine q_do (t := s0) (ev_var S1' (by rfl)) (ev_callX hargs ⟨g, a, c, x, z, rfl, tb, by omega, by omega, hc, fun q => absurd q hn, fun _ => ⟨fun _ => ⟨s0, hs, rfl⟩, fun q => absurd dj q⟩⟩) t1 hz fun H4 k4 t4 => ?_
          have tk := t1.tupK k4
          have S4 := Sl.tupK tk (immS_of (by show (true && (true && (true && ((OT.d c).imm && true)))) = true; rw [OT.imm]; rfl)) S1'
          exact s_ret (d := .int ((OT.names c).length : Int)) (Ev.to (ev_lenL (ev_callN (ds := [OT.d c]) (ea_cons (ev_var S4 (by rfl)) ea_nil) ⟨c, rfl, hb, rfl⟩)) (by rw [List.length_map])) fun y H5 e5 hv => k y H5 (fun b o n1 n2 e => e5 _ _ (k4 b o n1 n2 (e1 _ _ e))) (t4.mono e5) hv
        · have e := k4 dj
          subst e
          exact q_doR (ev_var S1' (by rfl)) (er_call hargs ⟨g, a, c, x, z, rfl, tb, by omega, by omega, hc, fun q => absurd q hn, fun _ => ⟨fun q => absurd q dj, fun _ => rfl⟩⟩ fun H3 e3 => k H3 (e1.trans e3)) t1
end
end Rt

namespace Rt
open PySem L2
theorem TrOk.of {t : OT} (ok : OT.ok t) (h : ∀ x n, OT.find t x = some n → okT x ∧ x.length ≤ 40) (c : (OT.names t).length ≤ 100) : TrOk t (OT.names t) :=
  ⟨⟨ok, rfl⟩, ⟨OT.srt ok, fun p hp => (h p.1 p.2 ((OT.mem_names ok p.1 p.2).mp hp)).1, fun p hp => (h p.1 p.2 ((OT.mem_names ok p.1 p.2).mp hp)).2, Nat.le_trans c (by decide)⟩, c⟩
theorem TrOk.at {g : OT} {rows : Rows} (h : TrOk g rows) {x : Tx} {n : Int} (e : OT.find g x = some n) : okT x ∧ x.length ≤ 40 := by
  have m := (h.rep.find x n).mp e
  exact ⟨h.fine.ok _ m, h.fine.len _ m⟩
theorem filt_split {α : Type} (l : List α) (f : α → Bool) : l.length = (l.filter f).length + (l.filter fun a => !f a).length := by
  induction l with
  | nil => rfl
  | cons a r ih =>
    cases q : f a with
    | true => rw [List.filter_cons_of_pos q, List.filter_cons_of_neg (by rw [q]; decide)]; simp only [List.length_cons]; omega
    | false => rw [List.filter_cons_of_neg (by rw [q]; decide), List.filter_cons_of_pos (by rw [q]; rfl)]; simp only [List.length_cons]; omega
theorem only_len {rows : Rows} {t : OT} (r : Rep rows t) (x : Tx) : (rows.filter fun p => decide (p.1 = x)).length = (OT.find t x).toList.length := by
  rw [← rep_look r x, List.length_map]
theorem TrOk.put {g : OT} {rows : Rows} (h : TrOk g rows) {x : Tx} {n : Int} {r : T} (hx : okT x) (hl : x.length ≤ 40) (hr : r.ok) (hf : ∀ y, r.find y = if y = x then some n else OT.find g y) (hc : ¬ (OT.find g x = none ∧ rows.length = 100)) : TrOk (some r) (OT.names (some r)) := by
  refine TrOk.of hr (fun y m e => ?_) ?_
  · have e' : r.find y = some m := e
    rw [hf] at e'
    by_cases q : y = x
    · rw [q]; exact ⟨hx, hl⟩
    · rw [if_neg q] at e'; exact h.at e'
  · have rr : Rep (OT.names (some r)) (some r) := ⟨hr, rfl⟩
    have s1 := filt_split (OT.names (some r)) fun p => decide (p.1 = x)
    have s2 := filt_split rows fun p => decide (p.1 = x)
    have l1 := only_len rr x
    have l2 := only_len h.rep x
    have fx : OT.find (some r) x = some n := by show r.find x = _; rw [hf, if_pos rfl]
    rw [fx] at l1
    have l1' : ((OT.names (some r)).filter fun p => decide (p.1 = x)).length = 1 := l1
    have ee : ((OT.names (some r)).filter fun p => !decide (p.1 = x)) = (rows.filter fun p => !decide (p.1 = x)) := by
      refine srt_ext (List.Pairwise.filter _ (OT.srt hr)) (List.Pairwise.filter _ h.fine.srt) fun ⟨y, m⟩ => ?_
      rw [List.mem_filter, List.mem_filter, ← rr.find, ← h.rep.find]
      refine and_congr_left fun q => ?_
      have q' : ¬ y = x := fun z => by
        rw [show (y, m).1 = x from z] at q
        exact absurd (decide_eq_true (rfl : x = x)) (by rw [Bool.not_eq_true'] at q; rw [q]; decide)
      show r.find y = some m ↔ _
      rw [hf, if_neg q']
    rw [ee] at s1
    have hcn := h.cnt
    cases q : OT.find g x with
    | none =>
      rw [q] at l2
      have l2' : (rows.filter fun p => decide (p.1 = x)).length = 0 := l2
      have : ¬ rows.length = 100 := fun z => hc ⟨q, z⟩
      omega
    | some m =>
      rw [q] at l2
      have l2' : (rows.filter fun p => decide (p.1 = x)).length = 1 := l2
      omega
theorem TrOk.thin {g r : OT} {rows : Rows} {x : Tx} (h : TrOk g rows) (t : ThinR g x r) : TrOk r (OT.names r) := by
  have rr : Rep (OT.names r) r := ⟨t.ok, rfl⟩
  have ee : OT.names r = rows.filter fun p => !decide (p.1 = x) := by
    refine srt_ext (OT.srt t.ok) (List.Pairwise.filter _ h.fine.srt) fun ⟨y, m⟩ => ?_
    rw [List.mem_filter, ← rr.find, ← h.rep.find, t.f]
    by_cases q : y = x
    · rw [if_pos q, decide_eq_true (show (y, m).1 = x from q)]
      exact ⟨fun z => (by cases z), fun z => by cases z.2⟩
    · rw [if_neg q, decide_eq_false (show ¬ (y, m).1 = x from q)]
      exact ⟨fun z => ⟨z, rfl⟩, fun z => z.1⟩
  rw [ee]
  exact ⟨by rw [← ee]; exact rr, h.fine.filter _, Nat.le_trans (List.length_filter_le _ _) h.cnt⟩
theorem TrOk.cut {g a c : OT} {rows : Rows} {x : Tx} (h : TrOk g rows) (t : CutR g x a c) : TrOk a (stayR rows x) :=
  ⟨(t.reps h.rep).1, h.fine.filter _, Nat.le_trans (List.length_filter_le _ _) h.cnt⟩
theorem stay_gone (rows : Rows) (x : Tx) : (stayR rows x).length + (goneR rows x).length = rows.length := by
  have := filt_split rows fun p => decide (p.1.take x.length = x)
  unfold stayR goneR
  rw [List.length_map]; omega
theorem fresh40 {g c a : OT} {rows : Rows} {x z : Tx} (h : TrOk g rows) (t : CutR g x a c) (hz : okT z) (hz2 : z.length ≤ 40) (hL : ¬ LongR c z) : FineL 40 (freshR rows x z) := by
  have f := fresh_fine h.fine (x := x) hz hz2
  refine ⟨f.srt, f.ok, fun p hp => ?_, f.cnt⟩
  rw [freshR_gone] at hp
  obtain ⟨q, hq, rfl⟩ := List.mem_map.mp hp
  have hq' : q ∈ OT.names c := by rw [(t.reps h.rep).2.2]; exact hq
  show (z ++ q.1).length ≤ 40
  rw [List.length_append]
  exact Nat.le_of_not_lt fun w => hL ⟨q, hq', w⟩
theorem TrOk.move {g a c s : OT} {rows : Rows} {x z : Tx} (h : TrOk g rows) (t : CutR g x a c) (hz : okT z) (hz2 : z.length ≤ 40) (hL : ¬ LongR c z) (d : Disj a (OT.pre z c)) (j : JoinR a (OT.pre z c) s) : TrOk s (srtR (stayR rows x ++ freshR rows x z)) := by
  have ra := (h.cut t)
  have rf := fresh_rep (z := z) (t.reps h.rep).2
  have ff := fresh40 h t hz hz2 hL
  have dj := (disj_rows ra.rep rf).mp d
  have hs := stay_gone rows x
  have hl : (freshR rows x z).length = (goneR rows x).length := by rw [freshR_gone, List.length_map]
  have hc := h.cnt
  exact ⟨join_rows ra.rep rf ra.fine.srt ff.srt d j, ra.fine.join ff dj (by omega), by rw [(srtR_perm _).length_eq, List.length_append]; omega⟩
theorem TrOk.graft {g a c s : OT} {rows : Rows} {x z : Tx} (h : TrOk g rows) (t : CutR g x a c) (hz : okT z) (hz2 : z.length ≤ 40) (hL : ¬ LongR c z) (d : Disj g (OT.pre z c)) (hn : rows.length + (OT.names c).length ≤ 100) (j : JoinR g (OT.pre z c) s) : TrOk s (srtR (rows ++ freshR rows x z)) := by
  have rf := fresh_rep (z := z) (t.reps h.rep).2
  have ff := fresh40 h t hz hz2 hL
  have dj := (disj_rows h.rep rf).mp d
  have hl : (freshR rows x z).length = (OT.names c).length := by rw [freshR_gone, List.length_map, (t.reps h.rep).2.2]
  exact ⟨join_rows h.rep rf h.fine.srt ff.srt d j, h.fine.join ff dj (by omega), by rw [(srtR_perm _).length_eq, List.length_append]; omega⟩
/-! what comes out of a deed -/
def OFine (cs : List Addr) : Out → Prop
  | .err c => c ∈ cs
  | .did t _ => ∃ rows, TrOk t rows
theorem keep_ex {CNo CMany : Addr} {g : OT} {rows : Rows} (h : TrOk g rows) (v : V) (b : Bool) (n : Int) (hv : b = true → ∃ x, v = .str (S x) ∧ x.length ≤ 40 ∧ okT x) : ∃ o, Okeep CNo CMany g rows v b n o ∧ OFine [CNo, CMany] o := by
  cases b with
  | false => exact ⟨.err CNo, ⟨fun _ => rfl, fun z => by cases z⟩, List.mem_cons_self⟩
  | true =>
    obtain ⟨x, rfl, hl, hx⟩ := hv rfl
    have inj : ∀ x', V.str (S x) = .str (S x') → x' = x := fun x' e => (S_inj (V.str.inj e)).symm
    by_cases q : OT.find g x = none ∧ rows.length = 100
    · exact ⟨.err CMany, ⟨fun z => (by cases z), fun _ x' e => by rw [inj x' e]; exact ⟨fun _ => rfl, fun z => absurd q z⟩⟩, List.mem_cons_of_mem _ List.mem_cons_self⟩
    · obtain ⟨r, hr, hf⟩ := OT.put_ex h.rep.1 x n
      exact ⟨.did (some r) (optD (OT.find g x)), ⟨fun z => (by cases z), fun _ x' e => by rw [inj x' e]; exact ⟨fun z => absurd z q, fun _ => ⟨r, hr, hf, rfl⟩⟩⟩, ⟨_, h.put hx hl hr hf q⟩⟩
theorem drop_ex {CNo CNot : Addr} {g : OT} {rows : Rows} (h : TrOk g rows) (v : V) (b : Bool) (hv : b = true → ∃ x, v = .str (S x) ∧ x.length ≤ 40 ∧ okT x) : ∃ o, Odrop CNo CNot g v b o ∧ OFine [CNo, CNot] o := by
  cases b with
  | false => exact ⟨.err CNo, ⟨fun _ => rfl, fun z => by cases z⟩, List.mem_cons_self⟩
  | true =>
    obtain ⟨x, rfl, hl, hx⟩ := hv rfl
    have inj : ∀ x', V.str (S x) = .str (S x') → x' = x := fun x' e => (S_inj (V.str.inj e)).symm
    cases q : OT.find g x with
    | none => exact ⟨.err CNot, ⟨fun z => (by cases z), fun _ x' e => by rw [inj x' e]; exact ⟨fun _ => rfl, fun n z => (by rw [q] at z; cases z)⟩⟩, List.mem_cons_of_mem _ List.mem_cons_self⟩
    | some n =>
      obtain ⟨r, hr⟩ := ThinR.ex h.rep.1 x
      refine ⟨.did r (.int n), ⟨fun z => (by cases z), fun _ x' e => ?_⟩, ⟨_, h.thin hr⟩⟩
      rw [inj x' e]
      refine ⟨fun z => (by rw [q] at z; cases z), fun m z => ⟨r, hr, ?_⟩⟩
      rw [q] at z
      cases z
      rfl
theorem prune_ex {CNo CNot : Addr} {g : OT} {rows : Rows} (h : TrOk g rows) (v : V) (b : Bool) (hv : b = true → ∃ x, v = .str (S x) ∧ x.length ≤ 40 ∧ okT x) : ∃ o, Oprune CNo CNot g v b o ∧ OFine [CNo, CNot] o := by
  cases b with
  | false => exact ⟨.err CNo, ⟨fun _ => rfl, fun z => by cases z⟩, List.mem_cons_self⟩
  | true =>
    obtain ⟨x, rfl, hl, hx⟩ := hv rfl
    have inj : ∀ x', V.str (S x) = .str (S x') → x' = x := fun x' e => (S_inj (V.str.inj e)).symm
    obtain ⟨a, c, hc⟩ := CutR.ex h.rep.1 x
    by_cases q : c = none
    · exact ⟨.err CNot, ⟨fun z => (by cases z), fun _ x' e => by rw [inj x' e]; exact ⟨a, c, hc, fun _ => rfl, fun z => absurd q z⟩⟩, List.mem_cons_of_mem _ List.mem_cons_self⟩
    · exact ⟨.did a (.int ((OT.names c).length : Int)), ⟨fun z => (by cases z), fun _ x' e => by rw [inj x' e]; exact ⟨a, c, hc, fun z => absurd z q, fun _ => rfl⟩⟩, ⟨_, h.cut hc⟩⟩
theorem or_ff {b1 b2 : Bool} (h : ¬ (b1 = false ∨ b2 = false)) : b1 = true ∧ b2 = true := by
  cases b1 with
  | false => exact absurd (.inl rfl) h
  | true => cases b2 with
    | false => exact absurd (.inr rfl) h
    | true => exact ⟨rfl, rfl⟩
theorem move_ex {CNo CNot CLong CTaken : Addr} {g : OT} {rows : Rows} (h : TrOk g rows) (v1 v2 : V) (b1 b2 : Bool) (hv1 : b1 = true → ∃ x, v1 = .str (S x) ∧ x.length ≤ 40 ∧ okT x) (hv2 : b2 = true → ∃ x, v2 = .str (S x) ∧ x.length ≤ 40 ∧ okT x) :
    ∃ o, Omove CNo CNot CLong CTaken g v1 v2 b1 b2 o ∧ OFine [CNo, CNot, CLong, CTaken] o := by
  by_cases hb : b1 = false ∨ b2 = false
  · exact ⟨.err CNo, ⟨fun _ => rfl, fun z1 z2 => by rcases hb with q | q <;> simp_all⟩, List.mem_cons_self⟩
  obtain ⟨rfl, rfl⟩ := or_ff hb
  obtain ⟨x, rfl, hl, hx⟩ := hv1 rfl
  obtain ⟨z, rfl, hl2, hz⟩ := hv2 rfl
  have inj : ∀ {x x'}, V.str (S x) = .str (S x') → x' = x := fun e => (S_inj (V.str.inj e)).symm
  obtain ⟨a, c, hc⟩ := CutR.ex h.rep.1 x
  by_cases q : c = none
  · exact ⟨.err CNot, ⟨fun w => absurd w hb, fun _ _ x' z' e e2 => by rw [inj e, inj e2]; exact ⟨a, c, hc, fun _ => rfl, fun w => absurd q w, fun w => absurd q w⟩⟩, by simp [OFine]⟩
  by_cases hL : LongR c z
  · exact ⟨.err CLong, ⟨fun w => absurd w hb, fun _ _ x' z' e e2 => by rw [inj e, inj e2]; exact ⟨a, c, hc, fun w => absurd w q, fun _ _ => rfl, fun _ w => absurd hL w⟩⟩, by simp [OFine]⟩
  by_cases d : Disj a (OT.pre z c)
  · obtain ⟨s, hs⟩ := JoinR.ex hc.ok1 (OT.pre_ok hc.ok2 z)
    exact ⟨.did s (.int ((OT.names c).length : Int)), ⟨fun w => absurd w hb, fun _ _ x' z' e e2 => by rw [inj e, inj e2]; exact ⟨a, c, hc, fun w => absurd w q, fun _ w => absurd w hL, fun _ _ => ⟨fun w => absurd d w, fun _ => ⟨s, hs, rfl⟩⟩⟩⟩, ⟨_, h.move hc hz hl2 hL d hs⟩⟩
  · exact ⟨.err CTaken, ⟨fun w => absurd w hb, fun _ _ x' z' e e2 => by rw [inj e, inj e2]; exact ⟨a, c, hc, fun w => absurd w q, fun _ w => absurd w hL, fun _ _ => ⟨fun _ => rfl, fun w => absurd w d⟩⟩⟩, by simp [OFine]⟩
end Rt

namespace Rt
open PySem PySem.Spec PyProof.Rows L2
section
variable {P : Program} {w : World} {K : PySem.W.Frag} {mg : Str → Option Value} {base : Heap}
def Rcopied (C T : Addr) : List D → Res → Prop := fun ds r => ∃ (t a b : OT) (x z : Tx), ds = [OT.d t, .str x, .str z] ∧ Tb 42 t ∧ x.length ≤ 100 ∧ z.length ≤ 100 ∧ CutR t x a b ∧ (b = none → r = .ex C) ∧
  (b ≠ none → (Disj t (OT.pre z b) → ∃ s, JoinR t (OT.pre z b) s ∧ r = .ok (OT.d s)) ∧ (¬ Disj t (OT.pre z b) → r = .ex T))
theorem cal_copied {CTaken CNotThere CTrailError : Addr} (F : Dfn K mg "copied" s_copied ["tree", "beginning", "other"]) (BU : Bl mg) (c_cut : ∀ N, N ≤ 900 → Cal P w K mg base CX0 (N + 1) "cut" (Fn K (Rcut N))) (c_ahead : Cal P w K mg base CX0 1 "ahead" (Fn K Rahead))
    (c_joined : ∀ N, N ≤ 900 → Cal P w K mg base (L2.CX P w) (N + 2) "joined" (FnX K (Rjoined N CTaken))) (x_NotThere : Xc K mg "NotThere" CNotThere CTrailError) : Cal P w K mg base (L2.CX P w) 45 "copied" (FnX K (Rcopied CNotThere CTaken)) := by
  have c_cut := c_cut 42 (by decide)
  have c_joined := c_joined 42 (by decide)
  refine cal_fnX F sc_copied (fun ds d h => by obtain ⟨a, b, c, d, e, rfl, _⟩ := h; rfl) fun cdv A outer s f H vs ds r E hr hR S0 => ?_
  obtain ⟨t, a, b, x, z, rfl, ht, hx, hz, hc, h0, h1⟩ := hR
  refine ⟨_, (pss_cons (ps_set (i := 3) sc_copied.nd rfl (Or.inl rfl) (pe_c c_cut hr (by omega) (by rfl) (pa_cons (pv 0) (pa_cons (pv 1) pa_nil)))) (pss_cons (ps_if (pt_cmpR op_isN (pe_ix ix_tup (pv 3) pe_int (fun _ _ => rfl)) pe_non (nomark _)) (pss_one (ps_raise rfl (takes_of rfl rfl rfl rfl) (pmk_own PySem.F.excBase_ValueError x_NotThere.ex x_NotThere.g x_NotThere.kp (raises_own x_NotThere.sub x_NotThere.ty) (by rfl)))) pss_nil) (pss_one (ps_ret (pe_cX c_joined hr (by omega) (by rfl) passX (pa_cons (pv 0) (pa_cons (pe_c c_ahead hr (by omega) (by rfl) (pa_cons (pe_ix ix_tup (pv 3) pe_int (fun _ _ => rfl)) (pa_cons (pv 2) pa_nil))) pa_nil))))))), fun nx Q k _ => ?_⟩
  try dsimp only [cxOf]
  generalize start _ vs = σ at *
  obtain ⟨ha, hb⟩ := hc.tb ht
  refine q_asg S0 (d := .tup [OT.d a, OT.d b]) (ev_call (by walk_at "ev") ⟨t, x, a, b, rfl, ht, by omega, hc, rfl⟩) fun σ1 H1 e1 S1 => ?_
  cases b with
  | none =>
    have := h0 rfl
    subst this
    exact q_ifT (by walk_at "etq") fun H2 e2 => k _ (e1.trans e2)
  | some u =>
    obtain ⟨k1, k2⟩ := h1 (by intro q; cases q)
    refine q_ifF0 (EvT.to (by walk_at "ev") (by exact T.not_non u)) fun H2 e2 => ?_
    have S2 := S1.mono e2
    have hp := hb.pre z
    have lt : ∀ v, some u = some v → v.text.length ≤ 10000 := fun v hv => by
      cases hv; exact Nat.le_trans (Nat.le_of_lt hb.text) (by decide)
    have hpre : Ev K (tCall (Fn K Rahead) [] E0 (tCons (tOp (rIxT K) (tVar 3) (tC (.int 1))) (tCons (tVar 2) tNil))) σ1 H2 (OT.d (OT.pre z (some u))) := ev_call (ds := [OT.d (some u), .str z]) (EvA.to (by walk_at "ev") (by rfl)) ⟨some u, z, rfl, lt, by omega, rfl⟩
    have hargs : EvA K (tCons (tVar 0) (tCons (tCall (Fn K Rahead) [] E0 (tCons (tOp (rIxT K) (tVar 3) (tC (.int 1))) (tCons (tVar 2) tNil))) tNil)) σ1 H2 [OT.d t, OT.d (OT.pre z (some u))] := ea_cons (by walk_at "ev") (ea_cons hpre ea_nil)
    by_cases dj : Disj t (OT.pre z (some u))
    · obtain ⟨s0, hs, rfl⟩ := k1 dj
      exact s_ret (d := OT.d s0) (ev_callX hargs ⟨t, OT.pre z (some u), rfl, ht, hp.mono (by omega), fun _ => ⟨s0, hs, rfl⟩, fun q => absurd dj q⟩) fun v H3 e3 hv => k v H3 ((e1.trans e2).trans e3) hv
    · have := k2 dj
      subst this
      exact s_retR (er_call hargs ⟨t, OT.pre z (some u), rfl, ht, hp.mono (by omega), fun q => absurd q dj, fun _ => rfl⟩ fun H3 e3 => k H3 ((e1.trans e2).trans e3))
end
end Rt

namespace Rt
open PySem PySem.Spec PyProof.Rows L2
section
variable {P : Program} {w : World} {K : PySem.W.Frag} {mg : Str → Option Value} {base : Heap}
def Ograft (CNo CNot CLong CTaken CMany : Addr) (g : OT) (rows : Rows) (v1 v2 : V) (b1 b2 : Bool) (o : Out) : Prop :=
  (b1 = false ∨ b2 = false → o = .err CNo) ∧ (b1 = true → b2 = true → ∀ x z, v1 = .str (S x) → v2 = .str (S z) → ∃ a c, CutR g x a c ∧ (c = none → o = .err CNot) ∧ (c ≠ none → LongR c z → o = .err CLong) ∧
    (c ≠ none → ¬ LongR c z → (¬ Disj g (OT.pre z c) → o = .err CTaken) ∧ (Disj g (OT.pre z c) → 100 < rows.length + (OT.names c).length → o = .err CMany) ∧
      (Disj g (OT.pre z c) → rows.length + (OT.names c).length ≤ 100 → ∃ s, JoinR g (OT.pre z c) s ∧ o = .did s (.int ((OT.names c).length : Int)))))
def SpGraft (K : PySem.W.Frag) (C CNo CNot CLong CTaken CMany : Addr) : Sp := fun vs H Q E => ∃ p l g past rows v1 v2 b1 b2 o, vs = [.ref p, v1, v2] ∧ TrAt K C H p l g past ∧ past.length ≤ 10000 ∧ TrOk g rows ∧ Thing K H v1 b1 ∧ Thing K H v2 b2 ∧ Ograft CNo CNot CLong CTaken CMany g rows v1 v2 b1 b2 o ∧ o.Q K C p l g past H Q E
theorem met_graft {CTrail CNoName CNotThere CTooLong CTaken CTooMany CTrailError : Addr} (F : MDfn K CTrail "graft" "Trail.graft" s_Trail_graft ["self", "beginning", "other"]) (BU : Bl mg) (m_MOST_NAMES : ∃ t, mg "MOST_NAMES" = some (.int 100 t)) (x_Trail : TrC K mg CTrail) (x_TooMany : Xc K mg "TooMany" CTooMany CTrailError)
    (c_need_branch : Cal P w K mg base (L2.CX P w) 44 "need_branch" (SpBr K CNoName CNotThere CTooLong)) (c_copied : Cal P w K mg base (L2.CX P w) 45 "copied" (FnX K (Rcopied CNotThere CTaken))) (c_names : ∀ N, N ≤ 900 → Cal P w K mg base CX0 (N + 1) "names" (FnN K (Rnames N))) (c_Trail_size : MetX P w K mg base CX0 46 CTrail "size" (SpSize K CTrail)) (c_Trail_do : MetX P w K mg base CX0 1 CTrail "do" (SpDo K CTrail)) :
    MetX P w K mg base (L2.CX P w) 47 CTrail "graft" (SpGraft K CTrail CNoName CNotThere CTooLong CTaken CTooMany) := by
  obtain ⟨tkM, m_MOST_NAMES⟩ := m_MOST_NAMES
  have c_names := c_names 42 (by decide)
  refine met_spX F sc_Trail_graft (fun vs H Q E h => by obtain ⟨p, l, g, past, rows, v1, v2, b1, b2, o, rfl, _⟩ := h; rfl) fun cdv A outer s f H vs Q E hr h => ?_
  obtain ⟨p, l, g, past, rows, v1, v2, b1, b2, o, rfl, ht, hz, ok, h1, h2, ho, k⟩ := h
  have S0 : Sl K H [some (.raw (.ref p)), some (.raw v1), some (.raw v2), none, none, none] (start ["self", "beginning", "other", "branch", "grown", "count"] [.ref p, v1, v2]) := ⟨_, _, rfl, rfl, _, _, rfl, rfl, _, _, rfl, rfl, none, _, rfl, none, _, rfl, none, _, rfl, rfl⟩
  refine ⟨_, (pss_cons (ps_set (i := 3) sc_Trail_graft.nd rfl (Or.inl rfl) (pe_cX c_need_branch hr (by omega) (by rfl) passX (pa_cons (pe_fld (pv 0) rfl) (pa_cons (pv 1) (pa_cons (pv 2) pa_nil))))) (pss_cons (ps_set (i := 4) sc_Trail_graft.nd rfl (Or.inl rfl) (pe_cX c_copied hr (by omega) (by rfl) passX (pa_cons (pe_fld (pv 0) rfl) (pa_cons (pv 1) (pa_cons (pv 2) pa_nil))))) (pss_cons (ps_set (i := 5) sc_Trail_graft.nd rfl (Or.inl rfl) (pe_callB call_len_seq (by rfl) BU.len_ PySem.boot_len (pa_cons (pe_c c_names hr (by omega) (by rfl) (pa_cons (pv 3) pa_nil)) pa_nil))) (pss_cons (ps_if (pt_cmpR op_gt (pe_op op_add (pe_mt0 c_Trail_size x_Trail.cl hr (by omega) pass0 (pv 0)) (pv 5)) (pe_glob (v := .int 100) (by rfl) m_MOST_NAMES ⟨_, rfl⟩) (nomark _)) (pss_one (ps_raise rfl (takes_of rfl rfl rfl rfl) (pmk_own PySem.F.excBase_ValueError x_TooMany.ex x_TooMany.g x_TooMany.kp (raises_own x_TooMany.sub x_TooMany.ty) (by rfl)))) pss_nil) (pss_cons (ps_expr (pe_mt c_Trail_do x_Trail.cl hr (by omega) pass0 (pv 0) (pa_cons (pv 4) pa_nil))) (pss_one (ps_ret (pv 5)))))))), ?_⟩
  try dsimp only [cxOf]
  generalize start _ [V.ref p, v1, v2] = σ at *
  have tb := ok.tb
  have hg : Ev K (tFld K (tVar 0) "grown") σ H (OT.d g) := ev_fldG2 x_Trail (ev_var S0 (by rfl)) ht
  by_cases hbad : b1 = false ∨ b2 = false
  · have e := ho.1 hbad
    subst e
    refine q_asgR (er_br (c := CNoName) hg (ev_var S0 (by rfl)) (ev_var S0 (by rfl)) tb h1 h2 ⟨fun _ => rfl, fun z1 z2 => ?_⟩ fun H1 e1 => k H1 e1)
    rcases hbad with q | q
    · rw [q] at z1; cases z1
    · rw [q] at z2; cases z2
  · have q1 : b1 = true := by cases b1 with
      | true => rfl
      | false => exact absurd (.inl rfl) hbad
    have q2 : b2 = true := by cases b2 with
      | true => rfl
      | false => exact absurd (.inr rfl) hbad
    subst q1
    subst q2
    obtain ⟨x, rfl, hx, hxo⟩ := thing_okT h1
    obtain ⟨z, rfl, hz2, hzo⟩ := thing_okT h2
    obtain ⟨a, c, hc, k1, k2, k3⟩ := ho.2 rfl rfl x z rfl rfl
    obtain ⟨ha, hb⟩ := hc.tb tb
    have nb : ∀ {r : Res}, (true = false ∨ true = false → r = .ex CNoName) := fun z => by rcases z with z | z <;> cases z
    have inv : ∀ {r : Res}, (c = none → r = .ex CNotThere) → (c ≠ none → LongR c z → r = .ex CTooLong) → (c ≠ none → ¬ LongR c z → r = .ok (OT.d c)) → Obr CNoName CNotThere CTooLong g (.str (S x)) (.str (S z)) true true r := fun i1 i2 i3 => ⟨nb, fun _ _ x' z' ex ez => by
      have ex' : x = x' := S_inj (V.str.inj ex)
      have ez' : z = z' := S_inj (V.str.inj ez)
      subst ex'
      subst ez'
      exact ⟨a, c, hc, i1, i2, i3⟩⟩
    by_cases hn : c = none
    · have e := k1 hn
      subst e
      exact q_asgR (er_br (c := CNotThere) hg (ev_var S0 (by rfl)) (ev_var S0 (by rfl)) tb h1 h2 (inv (fun _ => rfl) (fun q => absurd hn q) (fun q => absurd hn q)) fun H1 e1 => k H1 e1)
    · by_cases hL : LongR c z
      · have e := k2 hn hL
        subst e
        exact q_asgR (er_br (c := CTooLong) hg (ev_var S0 (by rfl)) (ev_var S0 (by rfl)) tb h1 h2 (inv (fun q => absurd q hn) (fun _ _ => rfl) (fun _ q => absurd hL q)) fun H1 e1 => k H1 e1)
      · obtain ⟨k4, k5, k6⟩ := k3 hn hL
        refine q_asg S0 (d := OT.d c) (ev_br hg (ev_var S0 (by rfl)) (ev_var S0 (by rfl)) tb h1 h2 (inv (fun q => absurd q hn) (fun _ q => absurd q hL) (fun _ _ => rfl))) fun σ1 H1 e1 S1 => ?_
        have S1' : Sl K H1 [some (.raw (.ref p)), some (.str x), some (.str z), some (OT.d c), none, none] σ1 := S1
        have t1 := ht.mono e1
        have hargs : EvA K (tCons (tFld K (tVar 0) "grown") (tCons (tVar 1) (tCons (tVar 2) tNil))) σ1 H1 [OT.d g, .str x, .str z] := ea_cons (ev_fldG2 x_Trail (ev_var S1' (by rfl)) t1) (ea_cons (ev_var S1' (by rfl)) (ea_cons (ev_var S1' (by rfl)) ea_nil))
        by_cases dj : Disj g (OT.pre z c)
        · obtain ⟨s0, hs⟩ := JoinR.ex tb.ok (OT.pre_ok hb.ok z)
          refine q_asg S1' (d := OT.d s0) (ev_callX hargs ⟨g, a, c, x, z, rfl, tb, by omega, by omega, hc, fun q => absurd q hn, fun _ => ⟨fun _ => ⟨s0, hs, rfl⟩, fun q => absurd dj q⟩⟩) fun σ2 H2 e2 S2 => ?_
          refine q_asg S2 (d := .int ((OT.names c).length : Int)) (Ev.to (ev_lenL (ev_callN (ds := [OT.d c]) (ea_cons (ev_var S2 (by rfl)) ea_nil) ⟨c, rfl, hb, rfl⟩)) (by rw [List.length_map])) fun σ3 H3 e3 S3 => ?_
          have e03 := (e1.trans e2).trans e3
          have t3 := ht.mono e03
          have htest := et_test (ev_gt (i := (rows.length : Int) + ((OT.names c).length : Int)) (j := 100) (ev_add (ev_size (E := E0) (ev_var S3 (i := 0) (by rfl)) t3 ok) (ev_var S3 (i := 5) (by rfl))) (ev_int (K := K) (σ := σ3) (H := H3)))
          by_cases hm : 100 < rows.length + (OT.names c).length
          · have e := k5 dj hm
            subst e
            exact q_ifT (EvT.to htest (decide_eq_true (by omega))) fun H4 e4 => k H4 (e03.trans e4)
          · obtain ⟨s1, hs1, rfl⟩ := k6 dj (by omega)
            have es := JoinR.uniq hs hs1
            subst es
            refine q_ifF0 (EvT.to htest (decide_eq_false (by omega))) fun H4 e4 => ?_
            have S4 := S3.mono e4
            have e04 := e03.trans e4
            refine q_do (t := s0) (ev_var S4 (by rfl)) (ev_var S4 (by rfl)) (ht.mono e04) hz fun H5 k5 t5 => ?_
            have tk := (ht.mono e04).tupK k5
            have S5 := Sl.tupK tk (immS_of (by show (true && (true && (true && ((OT.d c).imm && (true && ((OT.d s0).imm && true)))))) = true; rw [OT.imm, OT.imm]; rfl)) S4
            exact s_ret (d := .int ((OT.names c).length : Int)) (ev_var S5 (by rfl)) fun y H6 e6 hv => k y H6 (fun b o n1 n2 e => e6 _ _ (k5 b o n1 n2 (e04 _ _ e))) (t5.mono e6) hv
        · have e := k4 dj
          subst e
          exact q_asgR (er_call hargs ⟨g, a, c, x, z, rfl, tb, by omega, by omega, hc, fun q => absurd q hn, fun _ => ⟨fun q => absurd q dj, fun _ => rfl⟩⟩ fun H3 e3 => k H3 (e1.trans e3))
end
end Rt

namespace Rt
open PySem L2
theorem graft_ex {CNo CNot CLong CTaken CMany : Addr} {g : OT} {rows : Rows} (h : TrOk g rows) (v1 v2 : V) (b1 b2 : Bool) (hv1 : b1 = true → ∃ x, v1 = .str (S x) ∧ x.length ≤ 40 ∧ okT x) (hv2 : b2 = true → ∃ x, v2 = .str (S x) ∧ x.length ≤ 40 ∧ okT x) :
    ∃ o, Ograft CNo CNot CLong CTaken CMany g rows v1 v2 b1 b2 o ∧ OFine [CNo, CNot, CLong, CTaken, CMany] o := by
  by_cases hb : b1 = false ∨ b2 = false
  · exact ⟨.err CNo, ⟨fun _ => rfl, fun z1 z2 => by rcases hb with q | q <;> simp_all⟩, List.mem_cons_self⟩
  obtain ⟨rfl, rfl⟩ := or_ff hb
  obtain ⟨x, rfl, hl, hx⟩ := hv1 rfl
  obtain ⟨z, rfl, hl2, hz⟩ := hv2 rfl
  have inj : ∀ {x x'}, V.str (S x) = .str (S x') → x' = x := fun e => (S_inj (V.str.inj e)).symm
  obtain ⟨a, c, hc⟩ := CutR.ex h.rep.1 x
  by_cases q : c = none
  · exact ⟨.err CNot, ⟨fun w => absurd w hb, fun _ _ x' z' e e2 => by rw [inj e, inj e2]; exact ⟨a, c, hc, fun _ => rfl, fun w => absurd q w, fun w => absurd q w⟩⟩, by simp [OFine]⟩
  by_cases hL : LongR c z
  · exact ⟨.err CLong, ⟨fun w => absurd w hb, fun _ _ x' z' e e2 => by rw [inj e, inj e2]; exact ⟨a, c, hc, fun w => absurd w q, fun _ _ => rfl, fun _ w => absurd hL w⟩⟩, by simp [OFine]⟩
  by_cases d : Disj g (OT.pre z c)
  · by_cases hn : 100 < rows.length + (OT.names c).length
    · exact ⟨.err CMany, ⟨fun w => absurd w hb, fun _ _ x' z' e e2 => by rw [inj e, inj e2]; exact ⟨a, c, hc, fun w => absurd w q, fun _ w => absurd w hL, fun _ _ => ⟨fun w => absurd d w, fun _ _ => rfl, fun _ w => by omega⟩⟩⟩, by simp [OFine]⟩
    · obtain ⟨s, hs⟩ := JoinR.ex h.rep.1 (OT.pre_ok hc.ok2 z)
      exact ⟨.did s (.int ((OT.names c).length : Int)), ⟨fun w => absurd w hb, fun _ _ x' z' e e2 => by rw [inj e, inj e2]; exact ⟨a, c, hc, fun w => absurd w q, fun _ w => absurd w hL, fun _ _ => ⟨fun w => absurd d w, fun _ w => absurd w hn, fun _ _ => ⟨s, hs, rfl⟩⟩⟩⟩, ⟨_, h.graft hc hz hl2 hL d (by omega) hs⟩⟩
  · exact ⟨.err CTaken, ⟨fun w => absurd w hb, fun _ _ x' z' e e2 => by rw [inj e, inj e2]; exact ⟨a, c, hc, fun w => absurd w q, fun _ w => absurd w hL, fun _ _ => ⟨fun _ => rfl, fun w => absurd w d, fun w => absurd w d⟩⟩⟩, by simp [OFine]⟩
end Rt

namespace Rt
open PySem PySem.Spec PyProof.Rows L2
section
variable {P : Program} {w : World} {K : PySem.W.Frag} {mg : Str → Option Value} {base : Heap}
/-- == [] of a list, whatever it holds -/
def rEqNil (K : PySem.W.Frag) : R2 := fun x y H Q => ∃ a b xs, x = .ref a ∧ y = .ref b ∧ SqL K H a xs ∧ SqL K H b [] ∧ Q (.bl xs.isEmpty) H
theorem op_eqNil {X : Cx} (hu : X.A.units + 64 < cLine) : OpR X (compareOp .Eq) (rEqNil X.K) := by
  intro pins s σ H x y v u Q I rx ry h
  obtain ⟨a, b, xs, rfl, rfl, h1, h2, q⟩ := h
  cases xs with
  | nil => exact op_eqD hu pins s σ H (.ref a) (.ref b) v u Q I rx ry ⟨.list [], .list [], .lst h1 .nil, .lst h2 .nil, rfl, rfl, q⟩
  | cons z xs =>
    cases rx
    cases ry
    obtain ⟨its, r, pl, _⟩ := I.list h1
    obtain ⟨its2, r2, pl2, _⟩ := I.list h2
    refine SeqAt.eq_list_lengthsAt pl.isList pl2.isList ?_ (by omega) ⟨.bl false, H, I, rfl, q⟩
    have l1 := r.length
    have l2 := r2.length
    simp only [List.size_toArray, bne_iff_ne, ne_eq]
    rw [← l1, ← l2]
    simp
theorem ev_eqNilA {σ : L2.St} {H : Hp} {ta : TE} {l : Addr} {vs : List V} (ha : Ev K ta σ H (.raw (.ref l))) (hl : H l = some (.lst vs)) : Ev K (tOp (rEqNil K) ta (tLst tNil)) σ H (.bl vs.isEmpty) :=
  ev_op ha (ev_lst ea_nil (by decide)) fun v w H1 e hv ⟨b, ws, h1, h2, h3⟩ Q q => ⟨l, b, vs, hv, h1, SqL.of (e _ _ hl), by rw [show ws = [] from h3] at h2; exact SqL.of h2, q _ _ (Same.refl _) rfl⟩
end
end Rt

namespace Rt
open PySem PySem.Spec PyProof.Rows L2
section
variable {P : Program} {w : World} {K : PySem.W.Frag} {mg : Str → Option Value} {base : Heap}
def SpBack (K : PySem.W.Frag) (C CN : Addr) : Sp := fun vs H Q E => ∃ p l g past, vs = [.ref p] ∧ TrAt K C H p l g past ∧ past.length ≤ 10000 ∧ (past = [] → ∀ H', Same H H' → E (.ref CN) none H') ∧
  (∀ r t, past = r ++ [t] → ∀ H', Keep2 p l H H' → TrAt K C H' p l t r → Q .non H')
theorem dts_last {H : Hp} : ∀ (r : List D) (d : D) (vs : List V), Dts K H (r ++ [d]) vs → ∃ ws v, vs = ws ++ [v] ∧ Dts K H r ws ∧ Dt K H d v
  | [], d, vs, ⟨v, r, h1, h2, h3⟩ => ⟨[], v, by rw [h1, show r = [] from h3]; rfl, rfl, h2⟩
  | e :: r, d, vs, ⟨v, r2, h1, h2, h3⟩ => by
    obtain ⟨ws, u, k1, k2, k3⟩ := dts_last r d r2 h3
    exact ⟨v :: ws, u, by rw [h1, k1]; rfl, ⟨v, ws, rfl, h2, k2⟩, k3⟩
theorem met_back {CTrail CNothingDone CTrailError : Addr} (F : MDfn K CTrail "back" "Trail.back" s_Trail_back ["self"]) (BU : Bl mg) (x_Trail : TrC K mg CTrail) (x_NothingDone : Xc K mg "NothingDone" CNothingDone CTrailError) : MetX P w K mg base (L2.CX P w) 1 CTrail "back" (SpBack K CTrail CNothingDone) := by
  refine met_spX F sc_Trail_back (fun vs H Q E h => by obtain ⟨p, l, g, past, rfl, _⟩ := h; rfl) fun cdv A outer s f H vs Q E hr h => ?_
  obtain ⟨p, l, g, past, rfl, ht, hz, k1, k2⟩ := h
  have S0 : Sl K H [some (.raw (.ref p))] (start ["self"] [.ref p]) := ⟨_, _, rfl, rfl, rfl⟩
  refine ⟨_, (pss_cons (ps_if (pt_cmpR (op_eqNil hr.units) (pe_fld (pv 0) rfl) (pe_lst pa_nil) (nomark _)) (pss_one (ps_raise rfl (takes_of rfl rfl rfl rfl) (pmk_own PySem.F.excBase_ValueError x_NothingDone.ex x_NothingDone.g x_NothingDone.kp (raises_own x_NothingDone.sub x_NothingDone.ty) (by rfl)))) pss_nil) (pss_one (ps_fld (pv 0) (pe_bm0 PySem.F.plainAttrs_list PySem.F.slot_list_pop PySem.F.type_list_pop mt_pop (pe_fld (pv 0) rfl)) rfl))), ?_⟩
  try dsimp only [cxOf]
  generalize start _ [V.ref p] = σ at *
  obtain ⟨dx, vg, vs, h1, h2, h3, h4⟩ := ht.ex
  have npl : p ≠ l := ne_of h1 h3 (by intro q; cases q)
  have hnil : Ev K (tOp (rEqNil K) (tFld K (tVar 0) "past") (tLst tNil)) σ H (.bl vs.isEmpty) := ev_eqNilA (ev_fldP x_Trail (ev_var S0 (by rfl)) ht) h3
  rcases List.eq_nil_or_concat past with rfl | ⟨r, t, hp⟩
  · have : vs = [] := h4
    rw [this] at hnil
    exact q_ifT (et_test hnil) fun H1 e1 => k1 rfl H1 e1
  · have hp' : past = r ++ [t] := by rw [hp, List.concat_eq_append]
    rw [hp', List.map_append] at h4
    obtain ⟨ws, v, hw, d1, d2⟩ := dts_last _ _ _ h4
    have hne : vs.isEmpty = false := by rw [hw]; cases ws <;> rfl
    rw [hne] at hnil
    refine q_ifF0 (et_test hnil) fun H1 e1 => ?_
    have S1 := S0.mono e1
    have t1 := ht.mono e1
    -- self.grown = self.past.pop()
    have hfp : Ev K (tFld K (tVar 0) "past") σ H1 (.raw (.ref l)) := ev_fldP x_Trail (ev_var S1 (by rfl)) t1
    unfold sFld tBM0
    refine hfp H1 (Same.refl _) _ fun x H2 e2 hx => ?_
    have hl2 := (e1.trans e2) _ _ h3
    refine ⟨by rw [show x = .ref l from hx]; exact .inl ⟨rfl, vs, SqL.of hl2⟩, l, vs, v, hx, rfl, hl2, by rw [hw, List.length_append]; simp, ?_⟩
    have c3 : Chg l H2 (upd H2 l (.lst vs.dropLast)) := ⟨⟨H2, vs, _, Same.refl _, hl2, rfl⟩⟩
    have e12 := e1.trans e2
    have tk : TupK H2 (upd H2 l (.lst vs.dropLast)) := ⟨fun a xs e => by rw [upd_ne (ne_of e hl2 (by intro q; cases q))]; exact e, fun a o u e => by rw [upd_ne (ne_of e hl2 (by intro q; cases q))]; exact e⟩
    have t3 : TrAt K CTrail (upd H2 l (.lst vs.dropLast)) p l g r := ⟨dx, vg, ws, c3.keep npl (e12 _ _ h1), Dt.tupK tk _ (OT.imm g) (Dt.mono e12 _ h2), by rw [upd_same, hw, List.dropLast_concat], Dts.tupK tk _ (past_imm r) (Dts.mono e12 _ d1)⟩
    have S3 : Sl K (upd H2 l (.lst vs.dropLast)) [some (.raw (.ref p))] σ := c3.sl (immS_of (by rfl)) (S0.mono e12)
    have hv : Ev K (tVar 0) σ (upd H2 l (.lst vs.dropLast)) (.raw (.ref p)) := ev_var S3 (by rfl)
    have hd : Dt K (upd H2 l (.lst vs.dropLast)) (OT.d t) v := Dt.tupK tk _ (OT.imm t) (Dt.mono e12 _ d2)
    obtain ⟨dx4, vg4, vs4, g1, g2, g3, g4⟩ := t3.ex
    refine hv _ (Same.refl _) _ fun x4 H4 e4 hx4 => ⟨p, CTrail, dx4, _, hx4, e4 _ _ g1, x_Trail.cl, x_Trail.nG, by rw [tf_eq]; show 2 < 1000; decide, ?_⟩
    have t4 := t3.mono e4
    have kp : Keep2 p l H4 (upd H4 p (.ins CTrail dx4 (putF "grown" v (tf vg4 l)))) := fun b o n1 _ e => by rw [upd_ne n1]; exact e
    have tk4 := t4.tupK kp
    obtain ⟨_, _, _, _, _, _, _⟩ := t4.ex
    refine k2 r t hp' _ (fun b o n1 n2 e => ?_) ⟨dx4, v, vs4, by rw [upd_same, tf_put], Dt.tupK tk4 _ (OT.imm t) (Dt.mono e4 _ hd), by rw [upd_ne (Ne.symm npl)]; exact e4 _ _ g3, Dts.tupK tk4 _ (past_imm r) (Dts.mono e4 _ g4)⟩
    exact kp b o n1 n2 (e4 _ _ (c3.keep n2 (e12 _ _ e)))
end
end Rt

namespace Rt
open PySem PySem.Spec PyProof.Rows L2
section
variable {P : Program} {w : World} {K : PySem.W.Frag} {mg : Str → Option Value} {base : Heap}
def Rsign : List D → D → Prop := fun ds d => ∃ i : Int, ds = [.int i] ∧ d = .str [signN i]
theorem Rsign_mk {i : Int} : Rsign [.int i] (.str [signN i]) := ⟨i, rfl, rfl⟩
local macro_rules | `(tactic| walk_at "call") => `(tactic| with_reducible exact Rt.Rsign_mk)
theorem cal_sign_by (F : Dfn K mg "_law_sign_by" s__law_sign_by ["_law_cell"]) (BU : Bl mg) : Cal P w K mg base CX0 1 "_law_sign_by" (Fn K Rsign) := by
  refine cal_fn F sc__law_sign_by (fun ds d h => by obtain ⟨a, rfl, _⟩ := h; rfl) fun cdv A outer s f H vs ds d hr hR S0 => ?_
  obtain ⟨i, rfl, rfl⟩ := hR
  refine ⟨_, (pss_cons (ps_set (i := 1) sc__law_sign_by.nd rfl (Or.inl rfl) pe_str) (pss_cons (ps_set (i := 1) sc__law_sign_by.nd rfl (Or.inl rfl) (pe_op op_add_str (pv 1) pe_str)) (pss_one (ps_ret (pe_ix ix_str (pv 1) (pe_op op_mod (pv 0) pe_int) (fun _ _ => rfl)))))), fun nx Q kn kr => ?_⟩
  try dsimp only [cxOf]
  generalize start _ vs = σ at *
  refine q_asg S0 ev_str fun σ1 H1 e1 S1 => ?_
  refine q_asg S1 (d := .str alpha) (Ev.to (ev_addS (by walk_at "ev") ev_str (by decide +kernel)) (congrArg D.str alpha_is)) fun σ2 H2 e2 S2 => ?_
  exact s_ret (ev_ixS (l := alpha) (by walk_at "ev") (by walk_at "ev") (by rw [alpha_len]; decide) (sign_at i)) fun v H3 e3 hv => kr v H3 ((e1.trans e2).trans e3) hv
end
end Rt
local macro_rules | `(tactic| walk_at "call") => `(tactic| with_reducible exact Rt.Rsign_mk)
namespace Rt
open PySem PySem.Spec PyProof.Rows L2
section
variable {P : Program} {w : World} {K : PySem.W.Frag} {mg : Str → Option Value} {base : Heap}
def Rword : List D → D → Prop := fun ds d => ∃ (c n : Int), ds = [.int c, .int n] ∧ 0 ≤ n ∧ n ≤ 1000 ∧ d = .str (wordL c n.toNat)
theorem Rword_mk {c n : Int} (h : 0 ≤ n) (h2 : n ≤ 1000) : Rword [.int c, .int n] (.str (wordL c n.toNat)) := ⟨c, n, rfl, h, h2, rfl⟩
local macro_rules | `(tactic| walk_at "call") => `(tactic| (with_reducible refine Rt.Rword_mk ?_ ?_ <;> walk_at "side"))
theorem cal_word_by (F : Dfn K mg "_law_word_by" s__law_word_by ["_law_cell", "_law_size"]) (BU : Bl mg) (c__law_sign_by : Cal P w K mg base CX0 1 "_law_sign_by" (Fn K Rsign)) : Cal P w K mg base CX0 2 "_law_word_by" (Fn K Rword) := by
  refine cal_fn F sc__law_word_by (fun ds d h => by obtain ⟨a, b, rfl, _⟩ := h; rfl) fun cdv A outer s f H vs ds d hr hR S0 => ?_
  obtain ⟨c, n, rfl, h0, h1, rfl⟩ := hR
  refine ⟨_, (pss_cons (ps_set (i := 2) sc__law_word_by.nd rfl (Or.inl rfl) pe_str) (pss_cons (ps_set (i := 3) sc__law_word_by.nd rfl (Or.inl rfl) (pv 0)) (pss_cons (ps_for PassesOwn.never rfl (pi_range1 (by rfl) BU.range_ (pa_cons (pv 1) pa_nil)) (pg_name (i := 4) sc__law_word_by.nd rfl (Or.inl rfl)) (pss_cons (ps_set (i := 3) sc__law_word_by.nd rfl (Or.inl rfl) (pe_op op_mod (pe_op op_add (pe_op op_mul (pv 3) pe_int) pe_int) pe_int)) (pss_one (ps_set (i := 2) sc__law_word_by.nd rfl (Or.inl rfl) (pe_op op_add_str (pv 2) (pe_c c__law_sign_by hr (by omega) (by rfl) (pa_cons (pe_op op_add pe_int (pe_op op_mod (pe_op op_fdiv (pv 3) pe_int) (pe_ix ix_list (pe_lst (pa_cons pe_int (pa_cons pe_int pa_nil))) (pe_op op_mod (pv 0) pe_int) (fun _ _ => rfl)))) pa_nil))))))) (pss_one (ps_ret (pv 2)))))), fun nx Q kn kr => ?_⟩
  try dsimp only [cxOf]
  generalize start _ vs = σ at *
  refine q_asg S0 ev_str fun σ1 H1 e1 S1 => ?_
  refine q_asg S1 (by walk_at "ev") fun σ2 H2 e2 S2 => ?_
  refine q_forR n.toNat (by walk_at "ev") rfl ⟨by omega, by omega⟩ (fun k ds => ∃ x, ds = [some (.int c), some (.int n), some (.str (wordL c k)), some (.int (numN c k)), x]) S2 ⟨none, rfl⟩ ?_ ?_
  · rintro k hk ds σ3 H3 N ⟨x, rfl⟩ e3 S3 kN
    refine q_asg S3 (d := .int (numN c (k + 1))) (by walk_at "evq") fun σ4 H4 e4 S4 => ?_
    have hp := pick2 (i := c) (a := .int 2) (b := .int 94)
    have hp' : atI [D.int 2, D.int 94] (c % 2) = some (.int (if c % 2 = 0 then 2 else 94)) := by rw [hp]; split <;> rfl
    have pos : (0 : Int) < (if c % 2 = 0 then 2 else 94) := by split <;> decide
    have hl := wordL_len c k
    refine s_asg S4 (d := .str (wordL c (k + 1))) (by walk_at "evq") fun σ5 H5 e5 S5 => kN _ _ _ ⟨_, rfl⟩ (e4.trans e5) S5
  · rintro ds σ3 H3 ⟨x, rfl⟩ e3 S3
    exact s_ret (by walk_at "ev") fun v H4 e4 hv => kr v H4 (((e1.trans e2).trans e3).trans e4) hv
end
end Rt
local macro_rules | `(tactic| walk_at "call") => `(tactic| (with_reducible refine Rt.Rword_mk ?_ ?_ <;> walk_at "side"))
namespace Rt
open PySem PySem.Spec PyProof.Rows L2
section
variable {P : Program} {w : World} {K : PySem.W.Frag} {mg : Str → Option Value} {base : Heap}
def thingD (w : Tx) (i : Int) : D := if i % 5 = 0 then .str [97, 10] else if i % 5 = 1 then .str [9, 98] else if i % 5 = 2 then .str w else if i % 5 = 3 then .non else .int 7
theorem pick5 (w : Tx) (i : Int) : atI [D.str [97, 10], .str [9, 98], .str w, .non, .int 7] (i % 5) = some (thingD w i) := by
  unfold thingD
  have h : i % 5 = 0 ∨ i % 5 = 1 ∨ i % 5 = 2 ∨ i % 5 = 3 ∨ i % 5 = 4 := by omega
  rcases h with h | h | h | h | h <;> rw [h] <;> rfl
def oldS (held : List Tx) (i : Int) : Tx := held.getD (i % (held.length : Int)).toNat []
def lenS (c : Int) : Int := c / 4 % 7 + 34 * (if decide (c / 28 % 9 = 8) then 1 else 0)
theorem lenS_le (c : Int) : 0 ≤ lenS c ∧ lenS c ≤ 40 := by
  unfold lenS
  split <;> omega
def textT (c : Int) (held : List Tx) : Tx :=
  if c % 4 = 0 ∨ held = [] then wordL (c / 28) (lenS c).toNat
  else if c % 4 = 1 then oldS held (c / 28)
  else if c % 4 = 2 then (oldS held (c / 28) ++ wordL (c / 28) (lenS c).toNat).take 40
  else (oldS held (c / 28)).take (c * 48271 % 2147483647 % ((oldS held (c / 28)).length + 1 : Int)).toNat
def textD (c : Int) (held : List Tx) : D := if c % 23 = 22 then thingD (wordL c 41) (c / 23) else .str (textT c held)
def Held (held : List Tx) : Prop := (∀ x ∈ held, okT x ∧ x.length ≤ 40) ∧ held.length ≤ 400
theorem oldS_mem {held : List Tx} (h : held ≠ []) (i : Int) : held[(i % (held.length : Int)).toNat]? = some (oldS held i) ∧ oldS held i ∈ held := by
  have hl : 0 < held.length := List.length_pos_iff.mpr h
  have h1 := Int.emod_nonneg i (show (held.length : Int) ≠ 0 by omega)
  have h2 := Int.emod_lt_of_pos i (show (0 : Int) < (held.length : Int) by omega)
  have h3 : (i % (held.length : Int)).toNat < held.length := by omega
  have h4 : held[(i % (held.length : Int)).toNat]? = some (oldS held i) := by
    unfold oldS
    rw [List.getD_eq_getElem?_getD, List.getElem?_eq_getElem h3]; rfl
  exact ⟨h4, List.mem_of_getElem? h4⟩
theorem ev_oldS {σ : L2.St} {H : Hp} {held : List Tx} {ta tb : TE} {i : Int} (hne : held ≠ []) (ha : Ev K ta σ H (.lst (held.map D.str))) (hb : Ev K tb σ H (.int i)) : Ev K (tOp (rIxL K) ta (tOp (rI (fun _ j => 0 < j) fun i j => .int (i % j)) tb (tCB (fun xs H Q => ∃ p ys, xs = [.ref p] ∧ (SqL K H p ys ∨ SqT K H p ys) ∧ Q (.int ys.length) H) (tCons ta tNil)))) σ H (.str (oldS held i)) := by
  have hl : 0 < held.length := List.length_pos_iff.mpr hne
  have h1 := Int.emod_nonneg i (show (held.length : Int) ≠ 0 by omega)
  have h3 : atI (held.map D.str) (i % ((held.map D.str).length : Int)) = some (.str (oldS held i)) := by
    rw [List.length_map]
    have := atI_nat (xs := held.map D.str) (j := (i % (held.length : Int)).toNat) (by rw [List.getElem?_map, (oldS_mem hne i).1]; rfl)
    rw [show (((i % (held.length : Int)).toNat : Nat) : Int) = i % (held.length : Int) by omega] at this
    exact this
  exact ev_ixL ha (ev_mod hb (ev_lenL ha) (by rw [List.length_map]; omega)) h3
def Rtext : List D → D → Prop := fun ds d => ∃ (c : Int) (held : List Tx), ds = [.int c, .lst (held.map D.str)] ∧ Held held ∧ d = textD c held
theorem Rtext_mk {c : Int} {held : List Tx} (h : Held held) : Rtext [.int c, .lst (held.map D.str)] (textD c held) := ⟨c, held, rfl, h, rfl⟩
theorem textT_ok {c : Int} {held : List Tx} (h : Held held) : okT (textT c held) ∧ (textT c held).length ≤ 40 := by
  have hw := wordL_ok (c / 28) (lenS c).toNat
  have hl := wordL_len (c / 28) (lenS c).toNat
  have hs := lenS_le c
  unfold textT
  by_cases q : c % 4 = 0 ∨ held = []
  · rw [if_pos q]; exact ⟨hw, by omega⟩
  · rw [if_neg q]
    have hm := h.1 _ (oldS_mem (fun z => q (.inr z)) (c / 28)).2
    split
    · exact hm
    · split
      · exact ⟨okT_take _ (okT_app hm.1 hw), by rw [List.length_take]; omega⟩
      · exact ⟨okT_take _ hm.1, by rw [List.length_take]; omega⟩
theorem cal_text_by (F : Dfn K mg "_law_text_by" s__law_text_by ["_law_cell", "_law_held"]) (BU : Bl mg) (c__law_word_by : Cal P w K mg base CX0 2 "_law_word_by" (Fn K Rword)) : Cal P w K mg base CX0 3 "_law_text_by" (Fn K Rtext) := by
  refine cal_fn F sc__law_text_by (fun ds d h => by obtain ⟨a, b, rfl, _⟩ := h; rfl) fun cdv A outer s f H vs ds d hr hR S0 => ?_
  obtain ⟨c, held, rfl, g, rfl⟩ := hR
  refine ⟨_, (pss_cons (ps_if (pt_cmpR op_eq (pe_op op_mod (pv 0) pe_int) pe_int (nomark _)) (pss_one (ps_ret (pe_ix ix_list (pe_lst (pa_cons pe_str (pa_cons pe_str (pa_cons (pe_c c__law_word_by hr (by omega) (by rfl) (pa_cons (pv 0) (pa_cons pe_int pa_nil))) (pa_cons pe_non (pa_cons pe_int pa_nil)))))) (pe_op op_mod (pe_op op_fdiv (pv 0) pe_int) pe_int) (fun _ _ => rfl)))) pss_nil) (pss_cons (ps_set (i := 2) sc__law_text_by.nd rfl (Or.inl rfl) (pe_op op_add (pe_op op_mod (pe_op op_fdiv (pv 0) pe_int) pe_int) (pe_op op_mul pe_int (pe_callTy call_int1 (by rfl) BU.int_ (by decide +kernel) (pa_cons (pe_cmpR op_eq (pe_op op_mod (pe_op op_fdiv (pv 0) pe_int) pe_int) pe_int (nomark _)) pa_nil))))) (pss_cons (ps_set (i := 3) sc__law_text_by.nd rfl (Or.inl rfl) (pe_c c__law_word_by hr (by omega) (by rfl) (pa_cons (pe_op op_fdiv (pv 0) pe_int) (pa_cons (pv 2) pa_nil)))) (pss_cons (ps_if (PW.pt (pw_or (pt_cmpR op_eq (pe_op op_mod (pv 0) pe_int) pe_int (nomark _)) (pw_or1 (pt_cmpR (op_eqD hr.units) (pv 1) (pe_lst pa_nil) (nomark _))))) (pss_one (ps_ret (pv 3))) pss_nil) (pss_cons (ps_set (i := 4) sc__law_text_by.nd rfl (Or.inl rfl) (pe_ix ix_list (pv 1) (pe_op op_mod (pe_op op_fdiv (pv 0) pe_int) (pe_callB call_len_seq (by rfl) BU.len_ PySem.boot_len (pa_cons (pv 1) pa_nil))) (fun _ _ => rfl))) (pss_cons (ps_if (pt_cmpR op_eq (pe_op op_mod (pv 0) pe_int) pe_int (nomark _)) (pss_one (ps_ret (pv 4))) pss_nil) (pss_cons (ps_if (pt_cmpR op_eq (pe_op op_mod (pv 0) pe_int) pe_int (nomark _)) (pss_one (ps_ret (pe_slice sl_str (pe_op op_add_str (pv 4) (pv 3)) po_none (po_some pe_int)))) pss_nil) (pss_one (ps_ret (pe_slice sl_str (pv 4) po_none (po_some (pe_op op_mod (pe_op op_mod (pe_op op_mul (pv 0) pe_int) pe_int) (pe_op op_add (pe_callB call_len_str (by rfl) BU.len_ PySem.boot_len (pa_cons (pv 4) pa_nil)) pe_int))))))))))))), fun nx Q kn kr => ?_⟩
  try dsimp only [cxOf]
  generalize start _ vs = σ at *
  have hgd : (D.lst (held.map D.str)).gd 1 := fun d m => by
    obtain ⟨x, hx, rfl⟩ := List.mem_map.mp m
    exact okT_cps (g.1 x hx).1
  refine q_if0 (b := decide (c % 23 = 22)) (by walk_at "ev") (fun q H1 e1 => ?_) (fun q H1 e1 => ?_)
  · have S1 := S0.mono e1
    refine s_ret (d := textD c held) (Ev.to (d := thingD (wordL c 41) (c / 23)) (ev_ixL (ev_lst (ds := [D.str [97, 10], .str [9, 98], .str (wordL c 41), .non, .int 7]) (ea_cons ev_str (ea_cons ev_str (ea_cons (ev_call (ds := [.int c, .int 41]) (by walk_at "ev") ⟨c, 41, rfl, by decide, by decide, rfl⟩) (ea_cons ev_non (ea_cons ev_int ea_nil))))) (by show 5 ≤ 100000; decide)) (by walk_at "ev") (pick5 _ _)) (by unfold textD; rw [if_pos (of_decide_eq_true q)])) fun v H3 e3 hv => kr v H3 (e1.trans e3) hv
  · have S1 := S0.mono e1
    have ed : textD c held = .str (textT c held) := by unfold textD; rw [if_neg (of_decide_eq_false q)]
    rw [ed] at kr
    refine q_asg S1 (d := .int (lenS c)) (ev_add (i := c / 4 % 7) (j := 34 * (if decide (c / 28 % 9 = 8) then 1 else 0)) (by walk_at "ev") (ev_mul (i := 34) ev_int (ev_int1 (b := decide (c / 28 % 9 = 8)) (by walk_at "ev")) (by unfold CMul; split <;> decide))) fun σ2 H2 e2 S2 => ?_
    have e12 := e1.trans e2
    have hs := lenS_le c
    refine q_asg S2 (d := .str (wordL (c / 28) (lenS c).toNat)) (ev_call (ds := [.int (c / 28), .int (lenS c)]) (by walk_at "ev") ⟨c / 28, lenS c, rfl, hs.1, by omega, rfl⟩) fun σ3 H3 e3 S3 => ?_
    have e13 := e12.trans e3
    have lw := wordL_len (c / 28) (lenS c).toNat
    refine q_if0 (b := decide (c % 4 = 0) || held.isEmpty) (et_or (by walk_at "ev") fun _ => et_test (Ev.to (ev_eqNil (ev_var S3 (by rfl)) hgd (by decide)) (by rw [map_isEmpty]))) (fun q H4 e4 => ?_) (fun q H4 e4 => ?_)
    · have S4 := S3.mono e4
      rw [Bool.or_eq_true, decide_eq_true_eq, isE] at q
      exact s_ret (d := .str (textT c held)) (Ev.to (by walk_at "ev") (by unfold textT; rw [if_pos q])) fun v H5 e5 hv => kr v H5 ((e13.trans e4).trans e5) hv
    · have S4 := S3.mono e4
      have q' : ¬ (c % 4 = 0 ∨ held = []) := by
        intro z
        rw [← isE, ← decide_eq_true_eq (p := c % 4 = 0), ← Bool.or_eq_true, q] at z
        cases z
      have hne : held ≠ [] := fun z => q' (.inr z)
      have lo := (g.1 _ (oldS_mem hne (c / 28)).2).2
      refine q_asg S4 (d := .str (oldS held (c / 28))) (ev_oldS hne (by walk_at "ev") (by walk_at "ev")) fun σ5 H5 e5 S5 => ?_
      have e15 := (e13.trans e4).trans e5
      refine q_if0 (b := decide (c % 4 = 1)) (by walk_at "ev") (fun r H6 e6 => ?_) (fun r H6 e6 => ?_)
      · have S6 := S5.mono e6
        exact s_ret (d := .str (textT c held)) (Ev.to (by walk_at "ev") (by unfold textT; rw [if_neg q', if_pos (of_decide_eq_true r)])) fun v H7 e7 hv => kr v H7 ((e15.trans e6).trans e7) hv
      · have S6 := S5.mono e6
        refine q_if0 (b := decide (c % 4 = 2)) (by walk_at "ev") (fun u H7 e7 => ?_) (fun u H7 e7 => ?_)
        · have S7 := S6.mono e7
          exact s_ret (d := .str (textT c held)) (Ev.to (by walk_at "ev") (by unfold textT; rw [if_neg q', if_neg (of_decide_eq_false r), if_pos (of_decide_eq_true u), show (40 : Int) = ((40 : Nat) : Int) from rfl, cutL_to])) fun v H8 e8 hv => kr v H8 (((e15.trans e6).trans e7).trans e8) hv
        · have S7 := S6.mono e7
          have hn := Int.emod_nonneg (c * 48271 % 2147483647) (show ((oldS held (c / 28)).length + 1 : Int) ≠ 0 by omega)
          refine s_ret (d := .str (textT c held)) (Ev.to (by walk_at "ev") ?_) fun v H8 e8 hv => kr v H8 (((e15.trans e6).trans e7).trans e8) hv
          unfold textT
          rw [if_neg q', if_neg (of_decide_eq_false r), if_neg (of_decide_eq_false u)]
          rw [show c * 48271 % 2147483647 % ((oldS held (c / 28)).length + 1 : Int) = (((c * 48271 % 2147483647 % ((oldS held (c / 28)).length + 1 : Int)).toNat : Nat) : Int) by omega, cutL_to]
          rfl
end
end Rt

namespace Rt
open PySem PySem.Spec PyProof.Rows L2
section
variable {P : Program} {w : World} {K : PySem.W.Frag} {mg : Str → Option Value} {base : Heap}
def otherD (c : Int) (held : List Tx) : D := if c / 10 % 9 = 4 then textD (c / 10) held else textD (c * 69621 % 2147483629) held
def Rother : List D → D → Prop := fun ds d => ∃ (c : Int) (held : List Tx), ds = [.int c, .lst (held.map D.str)] ∧ Held held ∧ d = otherD c held
theorem cal_other_by (F : Dfn K mg "_law_other_by" s__law_other_by ["_law_cell", "_law_held"]) (BU : Bl mg) (c__law_text_by : Cal P w K mg base CX0 3 "_law_text_by" (Fn K Rtext)) : Cal P w K mg base CX0 4 "_law_other_by" (Fn K Rother) := by
  refine cal_fn F sc__law_other_by (fun ds d h => by obtain ⟨a, b, rfl, _⟩ := h; rfl) fun cdv A outer s f H vs ds d hr hR S0 => ?_
  obtain ⟨c, held, rfl, g, rfl⟩ := hR
  refine ⟨_, (pss_cons (ps_if (pt_cmpR op_eq (pe_op op_mod (pe_op op_fdiv (pv 0) pe_int) pe_int) pe_int (nomark _)) (pss_one (ps_ret (pe_c c__law_text_by hr (by omega) (by rfl) (pa_cons (pe_op op_fdiv (pv 0) pe_int) (pa_cons (pv 1) pa_nil))))) pss_nil) (pss_one (ps_ret (pe_c c__law_text_by hr (by omega) (by rfl) (pa_cons (pe_op op_mod (pe_op op_mul (pv 0) pe_int) pe_int) (pa_cons (pv 1) pa_nil)))))), fun nx Q kn kr => ?_⟩
  try dsimp only [cxOf]
  generalize start _ vs = σ at *
  refine q_if0 (b := decide (c / 10 % 9 = 4)) (by walk_at "ev") (fun q H1 e1 => ?_) (fun q H1 e1 => ?_)
  · have S1 := S0.mono e1
    exact s_ret (d := otherD c held) (Ev.to (ev_call (ds := [.int (c / 10), .lst (held.map D.str)]) (by walk_at "ev") (Rtext_mk g)) (by unfold otherD; rw [if_pos (of_decide_eq_true q)])) fun v H3 e3 hv => kr v H3 (e1.trans e3) hv
  · have S1 := S0.mono e1
    exact s_ret (d := otherD c held) (Ev.to (ev_call (ds := [.int (c * 69621 % 2147483629), .lst (held.map D.str)]) (by walk_at "ev") (Rtext_mk g)) (by unfold otherD; rw [if_neg (of_decide_eq_false q)])) fun v H3 e3 hv => kr v H3 (e1.trans e3) hv
end
end Rt

namespace Rt
open PySem PySem.Spec PyProof.Rows L2
section
variable {P : Program} {w : World} {K : PySem.W.Frag} {mg : Str → Option Value} {base : Heap}
def SpTold (K : PySem.W.Frag) (C CNo : Addr) : Sp := fun vs H Q E => ∃ p g past v b rows, vs = [.ref p, v] ∧ TrailAt K C H p g past ∧ Rep rows g ∧ Tb 42 g ∧ Thing K H v b ∧
  (b = true → ∃ x : Tx, v = .str (S x) ∧ x.length ≤ 1000 ∧ ∀ q ws H', H q = none → Same H H' → H' q = some (.lst ws) → Dts K H' ((belowR rows x).map rowD) ws → Q (.ref q) H') ∧ (b = false → ∀ H', Same H H' → E (.ref CNo) none H')
theorem met_told {CTrail CNoName : Addr} (F : MDfn K CTrail "told" "Trail.told" s_Trail_told ["self", "beginning"]) (BU : Bl mg) (x_Trail : TrC K mg CTrail) (c_need_name : Cal P w K mg base (L2.CX P w) 3 "need_name" (SpNeed K CNoName)) (c_under : Cal P w K mg base CX0 44 "under" (FnN K Runder)) :
    MetX P w K mg base (L2.CX P w) 45 CTrail "told" (SpTold K CTrail CNoName) := by
  refine met_spX F sc_Trail_told (fun vs H Q E h => by obtain ⟨p, g, past, v, b, rows, rfl, _⟩ := h; rfl) fun cdv A outer s f H vs Q E hr h => ?_
  obtain ⟨p, g, past, v, b, rows, rfl, ht, rep, tb, hth, k1, k2⟩ := h
  have S0 : Sl K H [some (.raw (.ref p)), some (.raw v)] (start ["self", "beginning"] [.ref p, v]) := ⟨_, _, rfl, rfl, _, _, rfl, rfl, rfl⟩
  refine ⟨_, (pss_cons (ps_expr (pe_cX c_need_name hr (by omega) (by rfl) passX (pa_cons (pv 1) pa_nil))) (pss_one (ps_ret (pe_c c_under hr (by omega) (by rfl) (pa_cons (pe_fld (pv 0) rfl) (pa_cons (pv 1) pa_nil)))))), ?_⟩
  try dsimp only [cxOf]
  generalize start _ [V.ref p, v] = σ at *
  cases b with
  | false => exact s_seq (s_dropR (er_need (ev_var S0 (by rfl)) hth fun H1 e1 => k2 rfl H1 e1))
  | true =>
    obtain ⟨x, rfl, hx, k⟩ := k1 rfl
    refine q_drop (d := .non) (en_needOk (ev_var S0 (by rfl)) hth) fun H1 e1 => ?_
    have S1 : Sl K H1 [some (.raw (.ref p)), some (.str x)] σ := S0.mono e1
    exact s_retN (en_call (ds := [OT.d g, .str x]) (ea_cons (ev_fldG x_Trail (ev_var S1 (by rfl)) (ht.mono e1)) (ea_cons (ev_var S1 (by rfl)) ea_nil)) ⟨rows, g, x, rfl, rep, tb, hx, rfl⟩) fun q ws H2 hq e2 h1 h2 => k q ws H2 (e1.free hq) (e1.trans e2) h1 h2
end
end Rt

namespace Rt
open PySem PySem.Spec PyProof.Rows L2
section
variable {P : Program} {w : World} {K : PySem.W.Frag} {mg : Str → Option Value} {base : Heap}
theorem met_init {CTrail : Addr} (F : MDfn K CTrail "__init__" "Trail.__init__" s_Trail___init__ ["self"]) (BU : Bl mg) (x_Trail : TrC K mg CTrail) : MetX P w K mg base CX0 1 CTrail "__init__" (SpInit CTrail) := by
  refine met_sp F sc_Trail___init__ (fun vs H Q E h => by obtain ⟨p, dx, rfl, _⟩ := h; rfl) fun cdv A outer s f H vs Q E hr h => ?_
  obtain ⟨p, dx, rfl, hp, k⟩ := h
  refine ⟨_, (pss_cons (ps_fld (pv 0) pe_non rfl) (pss_one (ps_fld (pv 0) (pe_lst pa_nil) rfl))), ?_⟩
  refine ⟨_, rfl, p, CTrail, dx, [], rfl, hp, x_Trail.cl, x_Trail.nG, (by show 0 < 1000; decide), Nat.zero_le _, fun l hl => ?_⟩
  have npl : p ≠ l := fun z => by rw [z, upd_same] at hl; cases hl
  have hl0 : H l = none := by rw [upd_ne npl.symm] at hl; exact hl
  refine ⟨_, rfl, p, CTrail, dx, _, rfl, by rw [upd_ne npl, upd_same], x_Trail.cl, x_Trail.nP, (by show 1 < 1000; decide), ?_⟩
  refine k _ l hl0 (fun b o nb e => ?_) upd_same ?_
  · rw [upd_ne nb, upd_ne (ne_of_none e hl0), upd_ne nb]; exact e
  · rw [upd_ne npl.symm, upd_same]
end
end Rt

namespace Rt
open PySem PySem.Spec PyProof.Rows L2
section
variable {P : Program} {w : World} {K : PySem.W.Frag} {mg : Str → Option Value} {base : Heap}
section
variable {σ : L2.St} {H : Hp} {ta te : TE} {C CNo : Addr} {g : OT} {past : List OT} {rows : Rows} {x : Tx} {v : V}
theorem told_no (vg : V) (l : Addr) : (tf vg l).lookup ("told" : Str) = none := tf_no _ _ (by decide +kernel) (by decide +kernel)
theorem en_told {E : XK} (hT : EvTr K C ta σ H g past) (ha : Ev K te σ H (.raw (.str (S x)))) (rep : Rep rows g) (tb : Tb 42 g) (hx : x.length ≤ 1000) (hn : nameB x = true) : EvN K (tMeth C "told" (SpTold K C CNo) [] E ta (tCons te tNil)) σ H ((belowR rows x).map rowD) := fun H1 a Q q =>
  hT H1 a _ fun u H2 s2 ⟨p, hu, ht⟩ => by
    obtain ⟨dx, l, vg, vs, h1, h2, h3, h4⟩ := ht.ex
    refine ⟨p, dx, _, hu, h1, told_no _ _, ha H2 (a.trans s2) _ fun y H3 s3 hy => ?_⟩
    exact ⟨p, g, past, _, nameB x, rows, by rw [hu, show y = .str (S x) from hy]; rfl, ht.mono s3, rep, tb, Thing.str hx, fun _ => ⟨x, rfl, hx, fun q' ws H' hq e k1 k2 => q q' ws H' (s2.free (s3.free hq)) ((s2.trans s3).trans e) k1 k2⟩, fun z => by rw [hn] at z; cases z⟩
theorem en_toldS {E : L2.St → XK} (hT : EvTr K C ta σ H g past) (ha : Ev K te σ H (.raw (.str (S x)))) (rep : Rep rows g) (tb : Tb 42 g) (hx : x.length ≤ 1000) (hn : nameB x = true) : EvN K (tMethS C "told" (SpTold K C CNo) E ta (tCons te tNil)) σ H ((belowR rows x).map rowD) := fun H1 a Q q =>
  hT H1 a _ fun u H2 s2 ⟨p, hu, ht⟩ => by
    obtain ⟨dx, l, vg, vs, h1, h2, h3, h4⟩ := ht.ex
    refine ⟨p, dx, _, hu, h1, told_no _ _, ha H2 (a.trans s2) _ fun y H3 s3 hy => ?_⟩
    exact ⟨p, g, past, _, nameB x, rows, by rw [hu, show y = .str (S x) from hy], ht.mono s3, rep, tb, Thing.str hx, fun _ => ⟨x, rfl, hx, fun q' ws H' hq e k1 k2 => q q' ws H' (s2.free (s3.free hq)) ((s2.trans s3).trans e) k1 k2⟩, fun z => by rw [hn] at z; cases z⟩
theorem er_toldS {E : L2.St → XK} (hT : EvTr K C ta σ H g past) (ha : Ev K te σ H (.raw v)) (rep : Rep rows g) (tb : Tb 42 g) (h : Thing K H v false) (hE : ∀ H', Same H H' → E σ (.ref CNo) none H') : EvR (tMethS C "told" (SpTold K C CNo) E ta (tCons te tNil)) σ H := fun H1 a Q =>
  hT H1 a _ fun u H2 s2 ⟨p, hu, ht⟩ => by
    obtain ⟨dx, l, vg, vs, h1, h2, h3, h4⟩ := ht.ex
    refine ⟨p, dx, _, hu, h1, told_no _ _, ha H2 (a.trans s2) _ fun y H3 s3 hy => ?_⟩
    exact ⟨p, g, past, v, false, rows, by rw [hu, show y = v from hy], ht.mono s3, rep, tb, h.mono ((a.trans s2).trans s3), fun z => (by cases z), fun _ H' e => hE H' (((a.trans s2).trans s3).trans e)⟩
end
theorem rep_nil : Rep [] none := ⟨trivial, rfl⟩
theorem Thing.true_str {H : Hp} {v : V} (h : Thing K H v true) : ∃ x : Tx, v = .str (S x) ∧ x.length ≤ 1000 ∧ nameB x = true := by
  rcases h H (Same.refl H) with ⟨l, h1, h2, h3⟩ | ⟨n, _, _, h3⟩
  · exact ⟨l, h1, h2, h3.symm⟩
  · cases h3
end
end Rt

namespace Rt
open PySem PySem.Spec PyProof.Rows L2
section
variable {P : Program} {w : World} {K : PySem.W.Frag} {mg : Str → Option Value} {base : Heap}
def ThD (d : D) (b : Bool) : Prop := (∃ l : Tx, d = .str l ∧ l.length ≤ 1000 ∧ b = nameB l) ∨ ((d = .non ∨ ∃ i, d = .int i) ∧ b = false)
theorem ThD.th {d : D} {b : Bool} {H : Hp} {v : V} (h : ThD d b) (hv : Dt K H d v) : Thing K H v b := by
  rcases h with ⟨l, rfl, hl, rfl⟩ | ⟨rfl | ⟨i, rfl⟩, rfl⟩
  · rw [show v = .str (S l) from hv]; exact Thing.str hl
  · exact Thing.dt hv (n := "NoneType") rfl (by decide +kernel)
  · exact Thing.dt hv (n := "int") rfl (by decide +kernel)
theorem ThD.ex {d : D} {b : Bool} {H : Hp} {v : V} (h : ThD d b) (hv : Dt K H d v) : b = true → ∃ x, v = .str (S x) ∧ x.length ≤ 40 ∧ okT x := fun e => by
  subst e
  exact thing_okT (h.th hv)
theorem ThD.imm {d : D} {b : Bool} (h : ThD d b) : d.imm = true := by
  rcases h with ⟨l, rfl, hl, rfl⟩ | ⟨rfl | ⟨i, rfl⟩, rfl⟩ <;> rfl
theorem thingD_th (w : Tx) (hw : w.length ≤ 1000) (i : Int) : ∃ b, ThD (thingD w i) b := by
  unfold thingD
  split
  · exact ⟨_, .inl ⟨_, rfl, by decide, rfl⟩⟩
  · split
    · exact ⟨_, .inl ⟨_, rfl, by decide, rfl⟩⟩
    · split
      · exact ⟨_, .inl ⟨_, rfl, hw, rfl⟩⟩
      · split
        · exact ⟨_, .inr ⟨.inl rfl, rfl⟩⟩
        · exact ⟨_, .inr ⟨.inr ⟨_, rfl⟩, rfl⟩⟩
theorem textD_th {c : Int} {held : List Tx} (h : Held held) : ∃ b, ThD (textD c held) b := by
  unfold textD
  split
  · exact thingD_th _ (by rw [wordL_len]; decide) _
  · exact ⟨_, .inl ⟨_, rfl, Nat.le_trans (textT_ok h).2 (by decide), rfl⟩⟩
theorem otherD_th {c : Int} {held : List Tx} (h : Held held) : ∃ b, ThD (otherD c held) b := by
  unfold otherD
  split <;> exact textD_th h
def eqS (a : Tx) : D → Bool
  | .str b => decide (a = b)
  | _ => false
theorem ev_eqX {σ : L2.St} {H : Hp} {ta tb : TE} {a : Tx} {d : D} {b : Bool} (ha : Ev K ta σ H (.str a)) (hb : Ev K tb σ H d) (hd : ThD d b) : Ev K (tOp rEq ta tb) σ H (.bl (eqS a d)) := by
  rcases hd with ⟨l, rfl, hl, rfl⟩ | ⟨rfl | ⟨i, rfl⟩, rfl⟩
  · exact ev_eqS ha hb
  · exact ev_op ha hb fun v w H1 _ hv hw Q q => by
      rw [show v = .str (S a) from hv, show w = .non from hw]
      exact ⟨rfl, q _ _ (Same.refl _) rfl⟩
  · exact ev_op ha hb fun v w H1 _ hv hw Q q => by
      rw [show v = .str (S a) from hv, show w = .int i from hw]
      exact ⟨rfl, q _ _ (Same.refl _) rfl⟩
theorem TrOk.held {g : OT} {rows : Rows} (h : TrOk g rows) : Held (nms rows) := ⟨fun x hx => by
  obtain ⟨n, hn⟩ := mem_nms.mp hx
  exact ⟨h.fine.ok _ hn, h.fine.len _ hn⟩, by unfold nms; rw [List.length_map]; exact h.fine.cnt⟩
/-! a deed in a try -/
section
variable {σ : L2.St} {H : Hp} {ta tb tc : TE} {C p l CNo CNot CLong CTaken CMany CND : Addr} {g : OT} {past : List OT} {rows : Rows} {E : L2.St → XK} {Q : VK} {d d1 d2 : D} {b b1 b2 : Bool} {n : Int}
theorem tf_noM {m : Str} (h1 : ¬ m = "past") (h2 : ¬ m = "grown") : ∀ (vg : V) (l : Addr), (tf vg l).lookup m = none := fun vg l => tf_no vg l h1 h2
theorem s_dropQ {te : TE} {E : Ends} (h : te σ H fun _ H' => E.nx σ H') : tDrop te E σ H := h
theorem same_k2 {H H1 H2 : Hp} (e : Same H H1) (k : Keep2 p l H1 H2) : Keep2 p l H H2 := fun b o n1 n2 h => k b o n1 n2 (e _ _ h)
theorem d_keep (ha : Ev K ta σ H (.raw (.ref p))) (hb : Ev K tb σ H d) (hc : Ev K tc σ H (.int n)) (hd : ThD d b) (ht : TrAt K C H p l g past) (hz : past.length ≤ 10000) (ok : TrOk g rows)
    (kE : ∀ c ∈ [CNo, CMany], ∀ H', Same H H' → E σ (.ref c) none H') (kQ : ∀ v t rows' H', TrOk t rows' → Keep2 p l H H' → TrAt K C H' p l t (past ++ [g]) → Q v H') : tMethS C "keep" (SpKeep K C CNo CMany) E ta (tCons tb (tCons tc tNil)) σ H Q :=
  ha H (Same.refl H) _ fun x H1 e1 hx => by
    obtain ⟨dx, vg, vs, h1, h2, h3, h4⟩ := (ht.mono e1).ex
    refine ⟨p, dx, _, hx, h1, tf_noM (by decide +kernel) (by decide +kernel) _ _, hb H1 e1 _ fun y H2 e2 hy => hc H2 (e1.trans e2) _ fun z H3 e3 hz3 => ?_⟩
    have e := (e1.trans e2).trans e3
    obtain ⟨o, ho, hf⟩ := keep_ex (CNo := CNo) (CMany := CMany) ok y b n (hd.ex hy)
    refine ⟨p, l, g, past, rows, y, b, n, o, by rw [show x = .ref p from hx, show z = .int n from hz3], ht.mono e, hz, ok, hd.th (Dt.mono e3 _ hy), ho, ?_⟩
    cases o with
    | err c => exact fun H' s => kE c hf H' (e.trans s)
    | did t d => exact fun v H' k2 t2 _ => kQ v t _ H' hf.choose_spec (same_k2 e k2) t2
theorem d_drop (ha : Ev K ta σ H (.raw (.ref p))) (hb : Ev K tb σ H d) (hd : ThD d b) (ht : TrAt K C H p l g past) (hz : past.length ≤ 10000) (ok : TrOk g rows)
    (kE : ∀ c ∈ [CNo, CNot], ∀ H', Same H H' → E σ (.ref c) none H') (kQ : ∀ v t rows' H', TrOk t rows' → Keep2 p l H H' → TrAt K C H' p l t (past ++ [g]) → Q v H') : tMethS C "drop" (SpDrop K C CNo CNot) E ta (tCons tb tNil) σ H Q :=
  ha H (Same.refl H) _ fun x H1 e1 hx => by
    obtain ⟨dx, vg, vs, h1, h2, h3, h4⟩ := (ht.mono e1).ex
    refine ⟨p, dx, _, hx, h1, tf_noM (by decide +kernel) (by decide +kernel) _ _, hb H1 e1 _ fun y H2 e2 hy => ?_⟩
    have e := e1.trans e2
    obtain ⟨o, ho, hf⟩ := drop_ex (CNo := CNo) (CNot := CNot) ok y b (hd.ex hy)
    refine ⟨p, l, g, past, rows, y, b, o, by rw [show x = .ref p from hx], ht.mono e, hz, ok, hd.th hy, ho, ?_⟩
    cases o with
    | err c => exact fun H' s => kE c hf H' (e.trans s)
    | did t d => exact fun v H' k2 t2 _ => kQ v t _ H' hf.choose_spec (same_k2 e k2) t2
theorem d_prune (ha : Ev K ta σ H (.raw (.ref p))) (hb : Ev K tb σ H d) (hd : ThD d b) (ht : TrAt K C H p l g past) (hz : past.length ≤ 10000) (ok : TrOk g rows)
    (kE : ∀ c ∈ [CNo, CNot], ∀ H', Same H H' → E σ (.ref c) none H') (kQ : ∀ v t rows' H', TrOk t rows' → Keep2 p l H H' → TrAt K C H' p l t (past ++ [g]) → Q v H') : tMethS C "prune" (SpPrune K C CNo CNot) E ta (tCons tb tNil) σ H Q :=
  ha H (Same.refl H) _ fun x H1 e1 hx => by
    obtain ⟨dx, vg, vs, h1, h2, h3, h4⟩ := (ht.mono e1).ex
    refine ⟨p, dx, _, hx, h1, tf_noM (by decide +kernel) (by decide +kernel) _ _, hb H1 e1 _ fun y H2 e2 hy => ?_⟩
    have e := e1.trans e2
    obtain ⟨o, ho, hf⟩ := prune_ex (CNo := CNo) (CNot := CNot) ok y b (hd.ex hy)
    refine ⟨p, l, g, past, rows, y, b, o, by rw [show x = .ref p from hx], ht.mono e, hz, ok, hd.th hy, ho, ?_⟩
    cases o with
    | err c => exact fun H' s => kE c hf H' (e.trans s)
    | did t d => exact fun v H' k2 t2 _ => kQ v t _ H' hf.choose_spec (same_k2 e k2) t2
theorem d_move (ha : Ev K ta σ H (.raw (.ref p))) (hb : Ev K tb σ H d1) (hc : Ev K tc σ H d2) (hd1 : ThD d1 b1) (hd2 : ThD d2 b2) (ht : TrAt K C H p l g past) (hz : past.length ≤ 10000) (ok : TrOk g rows)
    (kE : ∀ c ∈ [CNo, CNot, CLong, CTaken], ∀ H', Same H H' → E σ (.ref c) none H') (kQ : ∀ v t rows' H', TrOk t rows' → Keep2 p l H H' → TrAt K C H' p l t (past ++ [g]) → Q v H') : tMethS C "move" (SpMove K C CNo CNot CLong CTaken) E ta (tCons tb (tCons tc tNil)) σ H Q :=
  ha H (Same.refl H) _ fun x H1 e1 hx => by
    obtain ⟨dx, vg, vs, h1, h2, h3, h4⟩ := (ht.mono e1).ex
    refine ⟨p, dx, _, hx, h1, tf_noM (by decide +kernel) (by decide +kernel) _ _, hb H1 e1 _ fun y H2 e2 hy => hc H2 (e1.trans e2) _ fun z H3 e3 hz3 => ?_⟩
    have e := (e1.trans e2).trans e3
    obtain ⟨o, ho, hf⟩ := move_ex (CNo := CNo) (CNot := CNot) (CLong := CLong) (CTaken := CTaken) ok y z b1 b2 (hd1.ex hy) (hd2.ex hz3)
    refine ⟨p, l, g, past, rows, y, z, b1, b2, o, by rw [show x = .ref p from hx], ht.mono e, hz, ok, hd1.th (Dt.mono e3 _ hy), hd2.th hz3, ho, ?_⟩
    cases o with
    | err c => exact fun H' s => kE c hf H' (e.trans s)
    | did t d => exact fun v H' k2 t2 _ => kQ v t _ H' hf.choose_spec (same_k2 e k2) t2
theorem d_graft (ha : Ev K ta σ H (.raw (.ref p))) (hb : Ev K tb σ H d1) (hc : Ev K tc σ H d2) (hd1 : ThD d1 b1) (hd2 : ThD d2 b2) (ht : TrAt K C H p l g past) (hz : past.length ≤ 10000) (ok : TrOk g rows)
    (kE : ∀ c ∈ [CNo, CNot, CLong, CTaken, CMany], ∀ H', Same H H' → E σ (.ref c) none H') (kQ : ∀ v t rows' H', TrOk t rows' → Keep2 p l H H' → TrAt K C H' p l t (past ++ [g]) → Q v H') : tMethS C "graft" (SpGraft K C CNo CNot CLong CTaken CMany) E ta (tCons tb (tCons tc tNil)) σ H Q :=
  ha H (Same.refl H) _ fun x H1 e1 hx => by
    obtain ⟨dx, vg, vs, h1, h2, h3, h4⟩ := (ht.mono e1).ex
    refine ⟨p, dx, _, hx, h1, tf_noM (by decide +kernel) (by decide +kernel) _ _, hb H1 e1 _ fun y H2 e2 hy => hc H2 (e1.trans e2) _ fun z H3 e3 hz3 => ?_⟩
    have e := (e1.trans e2).trans e3
    obtain ⟨o, ho, hf⟩ := graft_ex (CNo := CNo) (CNot := CNot) (CLong := CLong) (CTaken := CTaken) (CMany := CMany) ok y z b1 b2 (hd1.ex hy) (hd2.ex hz3)
    refine ⟨p, l, g, past, rows, y, z, b1, b2, o, by rw [show x = .ref p from hx], ht.mono e, hz, ok, hd1.th (Dt.mono e3 _ hy), hd2.th hz3, ho, ?_⟩
    cases o with
    | err c => exact fun H' s => kE c hf H' (e.trans s)
    | did t d => exact fun v H' k2 t2 _ => kQ v t _ H' hf.choose_spec (same_k2 e k2) t2
theorem d_back (ha : Ev K ta σ H (.raw (.ref p))) (ht : TrAt K C H p l g past) (hz : past.length ≤ 10000)
    (kE : past = [] → ∀ H', Same H H' → E σ (.ref CND) none H') (kQ : ∀ r t v H', past = r ++ [t] → Keep2 p l H H' → TrAt K C H' p l t r → Q v H') : tMethS C "back" (SpBack K C CND) E ta tNil σ H Q :=
  ha H (Same.refl H) _ fun x H1 e1 hx => by
    obtain ⟨dx, vg, vs, h1, h2, h3, h4⟩ := (ht.mono e1).ex
    refine ⟨p, dx, _, hx, h1, tf_noM (by decide +kernel) (by decide +kernel) _ _, ?_⟩
    exact ⟨p, l, g, past, by rw [show x = .ref p from hx], ht.mono e1, hz, fun q H' s => kE q H' (e1.trans s), fun r t q H' k2 t2 => kQ r t _ H' q (same_k2 e1 k2) t2⟩
end
end
end Rt

namespace Rt
open PySem L2
/-! a number's signs, a line, a text of lines -/
def digB (c : Nat) : Bool := decide (48 ≤ c) && decide (c ≤ 57)
def intL (i : Int) : Tx := if i < 0 then 45 :: TL.numL i.natAbs else TL.numL i.natAbs
def plainF (f : Tx) : Tx := if f.take 1 = [45] then f.drop 1 else f
def numF (f : Tx) : Option Int :=
  if plainF f = [] ∨ 60 < (plainF f).length ∨ f = [45, 48] then none
  else if (plainF f).take 1 = [48] ∧ 1 < (plainF f).length then none
  else if (plainF f).all digB then some (if f.take 1 = [45] then -(NumText.digitsVal (plainF f) : Int) else (NumText.digitsVal (plainF f) : Int)) else none
theorem numL_dig (n : Nat) : (TL.numL n).all digB = true := List.all_eq_true.mpr fun c hc => by
  have := TL.numL_digits n c hc
  unfold digB
  rw [decide_eq_true this.1, decide_eq_true this.2]; rfl
theorem numL_head : ∀ n : Nat, 0 < n → (TL.numL n).take 1 ≠ [48] := fun n => by
  induction n using Nat.strongRecOn with
  | _ n ih =>
    intro h0 e
    by_cases h : n < 10
    · rw [TL.numL_lt h] at e
      have : 48 + n = 48 := by injection e
      omega
    · rw [TL.numL_step (by omega)] at e
      have h1 : 0 < (TL.numL (n / 10)).length := List.length_pos_iff.mpr (TL.numL_ne _)
      rw [List.take_append_of_le_length (by omega)] at e
      exact ih (n / 10) (by omega) (by omega) e
theorem numL_min {n : Nat} : (TL.numL n).take 1 ≠ [45] := fun e => by
  have : 45 ∈ TL.numL n := List.mem_of_mem_take (by rw [e]; exact List.mem_cons_self)
  exact TL.numL_free (.inl (by decide)) this
theorem intL_plain (i : Int) : plainF (intL i) = TL.numL i.natAbs ∧ ((intL i).take 1 = [45] ↔ i < 0) := by
  unfold intL plainF
  by_cases h : i < 0
  · rw [if_pos h]; exact ⟨rfl, fun _ => h, fun _ => rfl⟩
  · rw [if_neg h, if_neg numL_min]
    exact ⟨rfl, fun z => absurd z numL_min, fun z => absurd z h⟩
theorem numL_len60 {i : Int} (h : - big < i ∧ i < big) : (TL.numL i.natAbs).length ≤ 60 :=
  TL.numL_len (by decide) (by
    have e : big = ((10 ^ 60 : Nat) : Int) := by decide +kernel
    rw [e] at h
    generalize (10 ^ 60 : Nat) = m at *
    omega)
theorem intL_len {i : Int} (h : - big < i ∧ i < big) : (intL i).length ≤ 61 ∧ 1 ≤ (intL i).length := by
  have h1 := numL_len60 h
  have h2 : 0 < (TL.numL i.natAbs).length := List.length_pos_iff.mpr (TL.numL_ne _)
  unfold intL
  split
  · rw [List.length_cons]; omega
  · omega
theorem intL_free {i : Int} {s : Nat} (h : s < 48 ∨ 57 < s) (h2 : s ≠ 45) : s ∉ intL i := fun m => by
  unfold intL at m
  split at m
  · rcases List.mem_cons.mp m with m | m
    · exact h2 m
    · exact TL.numL_free h m
  · exact TL.numL_free h m
theorem numF_int {i : Int} (h : - big < i ∧ i < big) : numF (intL i) = some i := by
  obtain ⟨e1, e2⟩ := intL_plain i
  have h1 := numL_len60 h
  unfold numF
  rw [e1, if_neg, if_neg, if_pos (numL_dig _), TL.numL_val]
  · by_cases q : i < 0
    · rw [if_pos (e2.mpr q)]; congr 1; omega
    · rw [if_neg fun z => q (e2.mp z)]; congr 1; omega
  · intro ⟨z1, z2⟩
    by_cases q : 0 < i.natAbs
    · exact numL_head _ q z1
    · rw [show i.natAbs = 0 by omega, TL.numL_lt (by decide)] at z2
      exact absurd z2 (by decide)
  · rintro (z | z | z)
    · exact TL.numL_ne _ z
    · omega
    · have hneg : i < 0 := e2.mp (by rw [z]; rfl)
      have : plainF (intL i) = [48] := by rw [z]; rfl
      rw [e1] at this
      exact numL_head i.natAbs (by omega) (by rw [this]; rfl)
theorem numF_sign {f : Tx} (h : ∃ c ∈ plainF f, digB c = false) : numF f = none := by
  obtain ⟨c, hc, hd⟩ := h
  unfold numF
  split
  · rfl
  · split
    · rfl
    · rw [if_neg]
      intro z
      rw [List.all_eq_true.mp z c hc] at hd
      cases hd
theorem numF_long {f : Tx} (h : 60 < (plainF f).length) : numF f = none := by
  unfold numF
  rw [if_pos (.inr (.inl h))]
def cutB : Tx → Option (Tx × Tx)
  | [] => none
  | c :: r => if c = 32 then some ([], r) else (cutB r).map fun p => (c :: p.1, p.2)
theorem cutB_at : ∀ (a b : Tx), 32 ∉ a → cutB (a ++ 32 :: b) = some (a, b)
  | [], _, _ => if_pos rfl
  | c :: r, b, h => by
    show (if c = 32 then some ([], r ++ 32 :: b) else (cutB (r ++ 32 :: b)).map fun p => (c :: p.1, p.2)) = _
    rw [if_neg fun z => h (by rw [z]; exact List.mem_cons_self), cutB_at r b fun z => h (List.mem_cons_of_mem _ z)]
    rfl
theorem cutB_none : ∀ {a : Tx}, 32 ∉ a → cutB a = none
  | [], _ => rfl
  | c :: r, h => by
    show (if c = 32 then some ([], r) else (cutB r).map fun p => (c :: p.1, p.2)) = _
    rw [if_neg fun z => h (by rw [z]; exact List.mem_cons_self), cutB_none fun z => h (List.mem_cons_of_mem _ z)]
    rfl
theorem cutB_some : ∀ {l : Tx} {p : Tx × Tx}, cutB l = some p → l = p.1 ++ 32 :: p.2 ∧ 32 ∉ p.1
  | [], _, h => by cases h
  | c :: r, p, h => by
    have h' : (if c = 32 then some ([], r) else (cutB r).map fun p => (c :: p.1, p.2)) = some p := h
    by_cases q : c = 32
    · rw [if_pos q] at h'
      cases h'
      rw [q]; exact ⟨rfl, fun z => by cases z⟩
    · rw [if_neg q] at h'
      cases e : cutB r with
      | none => rw [e] at h'; cases h'
      | some u =>
        rw [e] at h'
        cases h'
        obtain ⟨h1, h2⟩ := cutB_some e
        refine ⟨congrArg (c :: ·) h1, fun z => ?_⟩
        rcases List.mem_cons.mp z with z | z
        · exact q z.symm
        · exact h2 z
theorem cutB_no {l : Tx} (h : cutB l = none) : 32 ∉ l := fun m => by
  obtain ⟨a, b, e, h2⟩ := List.eq_append_cons_of_mem m
  rw [e, cutB_at a b h2] at h
  cases h
def lineF (l : Tx) : Option (Tx × Int) := match cutB l with
  | none => none
  | some p => match numF p.1 with
    | none => none
    | some n => if nameB p.2 then some (p.2, n) else none
def lineT (p : Tx × Int) : Tx := intL p.2 ++ [32] ++ p.1
theorem lineT_eq (p : Tx × Int) : lineT p = intL p.2 ++ 32 :: p.1 := by unfold lineT; rw [List.append_assoc]; rfl
theorem lineF_row {p : Tx × Int} (h : okT p.1) (hl : p.1.length ≤ 40) (hb : - big < p.2 ∧ p.2 < big) : lineF (lineT p) = some p := by
  unfold lineF
  rw [lineT_eq, cutB_at _ _ (intL_free (.inl (by decide)) (by decide))]
  show (match numF (intL p.2) with | none => none | some n => if nameB p.1 then some (p.1, n) else none) = _
  rw [numF_int hb]
  show (if nameB p.1 then some (p.1, p.2) else none) = _
  rw [if_pos (nameB_iff.mpr ⟨hl, h⟩)]
theorem lineF_num {a b : Tx} (h : 32 ∉ a) (hn : numF a = none) : lineF (a ++ 32 :: b) = none := by
  unfold lineF
  rw [cutB_at _ _ h]
  show (match numF a with | none => none | some n => if nameB b then some (b, n) else none) = _
  rw [hn]
theorem lineF_name {a b : Tx} (h : 32 ∉ a) (hn : nameB b = false) : lineF (a ++ 32 :: b) = none := by
  unfold lineF
  rw [cutB_at _ _ h]
  show (match numF a with | none => none | some n => if nameB b then some (b, n) else none) = _
  rw [hn]
  split <;> rfl
theorem lineF_none {l : Tx} (h : 32 ∉ l) : lineF l = none := by
  unfold lineF
  rw [cutB_none h]
def riseB (rows : Rows) (x : Tx) : Bool := match rows.getLast? with
  | none => true
  | some q => decide (q.1 < x)
def stepF (rows : Rows) (l : Tx) : Option Rows := match lineF l with
  | none => none
  | some p => if riseB rows p.1 then some (rows ++ [p]) else none
def parseF (rows : Rows) : List Tx → Option Rows
  | [] => some rows
  | l :: r => match stepF rows l with
    | none => none
    | some m => parseF m r
theorem parse_app (A B : List Tx) : ∀ rows, parseF rows (A ++ B) = (parseF rows A).bind fun m => parseF m B := by
  induction A with
  | nil => exact fun _ => rfl
  | cons l r ih =>
    intro rows
    show (match stepF rows l with | none => none | some m => parseF m (r ++ B)) = (match stepF rows l with | none => none | some m => parseF m r).bind fun m => parseF m B
    cases stepF rows l with
    | none => rfl
    | some m => exact ih m
theorem parse_bad {A B : List Tx} {l : Tx} (h : lineF l = none) (rows : Rows) : parseF rows (A ++ l :: B) = none := by
  rw [parse_app]
  cases parseF rows A with
  | none => rfl
  | some m =>
    show (match stepF m l with | none => none | some m => parseF m B) = none
    unfold stepF
    rw [h]
theorem parse_pair {A B : List Tx} {l1 l2 : Tx} {p1 p2 : Tx × Int} (h1 : lineF l1 = some p1) (h2 : lineF l2 = some p2) (h : ¬ p1.1 < p2.1) (rows : Rows) : parseF rows (A ++ l1 :: l2 :: B) = none := by
  rw [parse_app]
  cases parseF rows A with
  | none => rfl
  | some m =>
    show (match stepF m l1 with | none => none | some m => parseF m (l2 :: B)) = none
    unfold stepF
    rw [h1]
    show (match (if riseB m p1.1 then some (m ++ [p1]) else none) with | none => none | some m => parseF m (l2 :: B)) = none
    split
    · rfl
    · rename_i q
      split at q
      · cases q
        show (match stepF (m ++ [p1]) l2 with | none => none | some m => parseF m B) = none
        unfold stepF
        rw [h2]
        show (match (if riseB (m ++ [p1]) p2.1 then some (m ++ [p1] ++ [p2]) else none) with | none => none | some m => parseF m B) = none
        rw [if_neg]
        unfold riseB
        rw [List.getLast?_concat]
        exact fun z => h (of_decide_eq_true z)
      · cases q
structure RowOk (p : Tx × Int) : Prop where
  ok : okT p.1
  len : p.1.length ≤ 40
  num : - big < p.2 ∧ p.2 < big
theorem parse_rows : ∀ (rows acc : Rows), Srt (acc ++ rows) → (∀ p ∈ rows, RowOk p) → parseF acc (rows.map lineT) = some (acc ++ rows)
  | [], acc, _, _ => by rw [List.append_nil]; rfl
  | p :: r, acc, h, ok => by
    have o := ok p List.mem_cons_self
    have e : stepF acc (lineT p) = some (acc ++ [p]) := by
      unfold stepF
      rw [lineF_row o.ok o.len o.num]
      show (if riseB acc p.1 then some (acc ++ [p]) else none) = _
      rw [if_pos]
      unfold riseB
      rcases List.eq_nil_or_concat acc with q | ⟨s, u, q⟩
      · rw [q]; rfl
      · rw [List.concat_eq_append] at q
        rw [q, List.getLast?_concat]
        refine decide_eq_true ?_
        rw [q] at h
        exact (List.pairwise_append.mp h).2.2 u (List.mem_append_right _ List.mem_cons_self) p List.mem_cons_self
    show (match stepF acc (lineT p) with | none => none | some m => parseF m (r.map lineT)) = _
    rw [e]
    show parseF (acc ++ [p]) (r.map lineT) = _
    rw [parse_rows r (acc ++ [p]) (by rw [List.append_assoc]; exact h) fun q hq => ok q (List.mem_cons_of_mem _ hq), List.append_assoc]
    rfl
def linesL (a : Tx) : List Tx := TL.spl [10] 0 [] a
def flatT : List Tx → Tx
  | [] => []
  | l :: r => l ++ ([10] ++ flatT r)
theorem lines_flat : ∀ {ls : List Tx}, (∀ l ∈ ls, 10 ∉ l) → linesL (flatT ls) = ls ++ [[]]
  | [], _ => rfl
  | l :: r, h => by
    show TL.spl [10] 0 [] (l ++ ([10] ++ flatT r)) = l :: (r ++ [[]])
    rw [TL.spl_part1 (h l List.mem_cons_self), List.nil_append]
    exact congrArg (l :: ·) (lines_flat fun q hq => h q (List.mem_cons_of_mem _ hq))
theorem flat_join : ∀ {ls : List Tx}, ls ≠ [] → flatT ls = TL.joinL [10] ls ++ [10]
  | [], h => absurd rfl h
  | [l], _ => rfl
  | l :: q :: r, _ => by
    show l ++ ([10] ++ flatT (q :: r)) = (l ++ ([10] ++ TL.joinL [10] (q :: r))) ++ [10]
    rw [flat_join (ls := q :: r) (by simp), List.append_assoc, List.append_assoc]
theorem lines_join {ls : List Tx} (ne : ls ≠ []) (h : ∀ l ∈ ls, 10 ∉ l) : linesL (TL.joinL [10] ls) = ls := TL.spl_join ne h
def readF (a : Tx) : Option Rows := if (linesL a).getLast? = some [] then parseF [] (linesL a).dropLast else none
theorem read_flat {ls : List Tx} (h : ∀ l ∈ ls, 10 ∉ l) : readF (flatT ls) = parseF [] ls := by
  unfold readF
  rw [lines_flat h, List.getLast?_concat, if_pos rfl, List.dropLast_concat]
theorem read_open {ls : List Tx} (ne : ls ≠ []) (h : ∀ l ∈ ls, 10 ∉ l) (hl : ∀ l ∈ ls, l ≠ []) : readF (TL.joinL [10] ls) = none := by
  unfold readF
  rw [lines_join ne h, if_neg]
  intro z
  exact hl [] (List.mem_of_getLast? z) rfl
end Rt

namespace Rt
open PySem PySem.Spec PyProof.Rows L2
section
variable {P : Program} {w : World} {K : PySem.W.Frag} {mg : Str → Option Value} {base : Heap}
theorem str_intL (i : Int) : (Str.ofString (toString i)) = S (intL i) := by
  refine TL.ext_tl ?_
  show TL.tl _ = (S (intL i)).cps.toList
  rw [S_cps]
  unfold intL
  cases i with
  | ofNat n =>
    rw [if_neg (show ¬ Int.ofNat n < 0 from Int.not_lt.mpr (Int.natCast_nonneg n))]
    exact TL.tl_num n
  | negSucc n =>
    rw [if_pos (Int.negSucc_lt_zero n)]
    have e : toString (Int.negSucc n) = "-" ++ toString ((n + 1 : Nat) : Int) := rfl
    have h := TL.tl_num (n + 1)
    rw [TL.tl_ofString] at h
    rw [TL.tl_ofString, e, String.toList_append, List.map_append, h]
    rfl
section
variable {σ : L2.St} {H HH : Hp} {ta tb te to ti : TE} {E : Ends} {tu : TS}
theorem ev_strI {i : Int} (ha : Ev K ta σ H (.int i)) (hb : - big < i ∧ i < big) : Ev K (tCB (fun xs H Q => ∃ i, xs = [.int i] ∧ i.natAbs.log2 < 1920 ∧ Q (.str (toString i)) H) (tCons ta tNil)) σ H (.str (intL i)) :=
  ev_cb (ea_cons ha ea_nil) fun vs H1 _ ⟨v, r, h1, h2, h3⟩ Q q => ⟨i, by rw [h1, show v = .int i from h2, show r = [] from h3], by
    have e : big < ((2 ^ 200 : Nat) : Int) := by decide +kernel
    have hlt : i.natAbs < 2 ^ 200 := by
      generalize (2 ^ 200 : Nat) = m at *
      omega
    by_cases z : i.natAbs = 0
    · rw [z]; decide
    · exact Nat.lt_of_lt_of_le ((Nat.log2_lt z).mpr hlt) (by decide), q _ _ (Same.refl _) (by show V.str (Str.ofString (toString i)) = V.str (S (intL i)); rw [str_intL])⟩
theorem numF_text {f : Tx} {n : Int} (h : numF f = some n) : intText? (S f) = some n ∧ f.length ≤ 61 := by
  unfold numF at h
  split at h
  · cases h
  · rename_i h0
    split at h
    · cases h
    · split at h
      · rename_i hd
        have hne : plainF f ≠ [] := fun z => h0 (.inl z)
        have hlen : (plainF f).length ≤ 60 := Nat.le_of_not_lt fun z => h0 (.inr (.inl z))
        have had : NumText.AllDigits (plainF f) := fun c hc => by
          have := List.all_eq_true.mp hd c hc
          unfold digB at this
          rw [Bool.and_eq_true, decide_eq_true_eq, decide_eq_true_eq] at this
          exact this
        by_cases q : f.take 1 = [45]
        · rw [if_pos q] at h
          cases h
          have e : f = 45 :: plainF f := by
            unfold plainF
            rw [if_pos q]
            have := List.take_append_drop 1 f
            rw [q] at this
            exact this.symm
          refine ⟨?_, by rw [e, List.length_cons]; omega⟩
          exact intText_neg (x := S f) (cs := plainF f) (by rw [S_cps]; exact e) had hne (by rw [S_len, e, List.length_cons]; omega)
        · rw [if_neg q] at h
          cases h
          have e : plainF f = f := by unfold plainF; rw [if_neg q]
          have := intText_digits (x := S f) (by rw [S_cps, ← e]; exact had) (by rw [S_cps, ← e]; exact hne) (by rw [S_len, ← e]; omega)
          rw [S_cps] at this
          refine ⟨by rw [this, e], by rw [← e]; omega⟩
      · cases h
theorem ev_intS {f : Tx} {n : Int} (ha : Ev K ta σ H (.str f)) (h : numF f = some n) : Ev K (tCB (fun xs H Q => ∃ a n, xs = [.str a] ∧ PySem.intText? a = some n ∧ a.length ≤ 640 ∧ Q (.int n) H) (tCons ta tNil)) σ H (.int n) :=
  ev_cb (ea_cons ha ea_nil) fun vs H1 _ ⟨v, r, h1, h2, h3⟩ Q q => ⟨S f, n, by rw [h1, show v = .str (S f) from h2, show r = [] from h3], (numF_text h).1, by rw [S_len]; exact Nat.le_trans (numF_text h).2 (by decide), q _ _ (Same.refl _) rfl⟩
theorem pre32 (l : Tx) (i : Nat) : TL.pre [32] (l.drop i) = true ↔ l[i]? = some 32 := by
  unfold TL.pre
  rw [beq_iff_eq, show [32].length = 1 from rfl]
  constructor
  · intro h
    have := congrArg (fun z => z[0]?) h
    simp only [List.getElem?_take, List.getElem?_drop] at this
    simpa using this
  · intro h
    obtain ⟨hi, e⟩ := List.getElem?_eq_some_iff.mp h
    rw [List.drop_eq_getElem_cons hi, e]; rfl
theorem find_cut (l : Tx) : Txt.find (S l) (S [32]) = match cutB l with | none => -1 | some p => (p.1.length : Int) := by
  have hy : TL.tl (S [32]) ≠ [] := by decide
  have at32 : ∀ i, StrLaws.At (S l) (S [32]) (S l).length i ↔ l[i]? = some 32 := fun i => by
    rw [TL.at_iff hy i, show TL.tl (S [32]) = [32] from rfl, show TL.tl (S l) = l from S_cps l]
    exact pre32 l i
  rcases PyProof.Rows.find_whole (S l) (S [32]) with ⟨e, hn⟩ | ⟨i, e, hi, hn⟩
  · have : 32 ∉ l := fun m => by
      obtain ⟨i, hi, q⟩ := List.getElem_of_mem m
      exact hn i ((at32 i).mpr (by rw [List.getElem?_eq_getElem hi, q]))
    rw [e, cutB_none this]
  · have hi' := (at32 i).mp hi
    obtain ⟨hlt, q⟩ := List.getElem?_eq_some_iff.mp hi'
    have el : l = l.take i ++ 32 :: l.drop (i + 1) := by
      have h1 := List.take_append_drop i l
      rw [List.drop_eq_getElem_cons hlt, q] at h1
      exact h1.symm
    have no : 32 ∉ l.take i := fun m => by
      obtain ⟨k, hk, q⟩ := List.getElem_of_mem m
      rw [List.length_take] at hk
      rw [List.getElem_take] at q
      exact hn k (by omega) ((at32 k).mpr (by rw [List.getElem?_eq_getElem (by omega), q]))
    have hc : cutB l = some (l.take i, l.drop (i + 1)) := by
      have := cutB_at (l.take i) (l.drop (i + 1)) no
      rw [← el] at this
      exact this
    rw [e, hc]
    show (i : Int) = ((l.take i).length : Int)
    rw [List.length_take, Nat.min_eq_left (by omega)]
theorem ev_m1 {r : V → List V → Hp → VK → Prop} {a b : Tx} {z : D} (ha : Ev K ta σ H (.str a)) (hb : Ev K tb σ H (.str b)) (hr : ∀ H1, Same H H1 → ∀ Q : VK, (∀ x H2, Same H1 H2 → Dt K H2 z x → Q x H2) → r (.str (S a)) [.str (S b)] H1 Q) : Ev K (tM1 r ta tb) σ H z := fun H1 e1 Q q =>
  ha H1 e1 _ fun v H2 s2 hv => ⟨⟨S a, hv⟩, hb H2 (e1.trans s2) _ fun w H3 s3 hw => by
    rw [show v = .str (S a) from hv, show w = .str (S b) from hw]
    exact hr H3 ((e1.trans s2).trans s3) Q fun x H4 s4 hx => q x H4 ((s2.trans s3).trans s4) hx⟩
theorem ev_find {l : Tx} (ha : Ev K ta σ H (.str l)) (hb : Ev K tb σ H (.str [32])) : Ev K (tM1 (fun x xs H Q => ∃ a b, x = .str a ∧ xs = [.str b] ∧ Q (.int (Txt.find a b)) H) ta tb) σ H (.int (match cutB l with | none => -1 | some p => (p.1.length : Int))) :=
  ev_m1 ha hb fun H1 _ Q q => ⟨S l, S [32], rfl, rfl, q _ _ (Same.refl _) (by show V.int (Txt.find (S l) (S [32])) = _; rw [find_cut])⟩
theorem tl_S (l : Tx) : TL.tl (S l) = l := S_cps l
theorem map_tl_S (ls : List Tx) : (ls.map S).map TL.tl = ls := by
  rw [List.map_map]
  exact (List.map_congr_left fun l _ => tl_S l).trans (List.map_id _)
theorem split_lines (l : Tx) : Txt.split (S l) (S [10]) = (linesL l).map S := by
  refine TL.map_tl_inj ?_
  rw [TL.split_spl _ _ (by decide) (TL.kind_ok (by decide +kernel)), map_tl_S, tl_S]
  rfl
theorem dts_S {H : Hp} : ∀ ls : List Tx, Dts K H (ls.map D.str) ((ls.map S).map V.str)
  | [] => rfl
  | l :: r => ⟨.str (S l), _, rfl, rfl, dts_S r⟩
theorem en_split {l : Tx} (ha : Ev K ta σ H (.str l)) (hb : Ev K tb σ H (.str [10])) (hz : l.length ≤ 10000000) : EvN K (tM1 (fun x xs H Q => ∃ a b, x = .str a ∧ xs = [.str b] ∧ (b.length == 0) = false ∧ a.length + 2 ≤ sizeLine ∧ rNewStrs (Txt.split a b) H Q) ta tb) σ H ((linesL l).map D.str) := fun H1 e1 Q q =>
  ha H1 e1 _ fun v H2 s2 hv => ⟨⟨S l, hv⟩, hb H2 (e1.trans s2) _ fun w H3 s3 hw => ⟨S l, S [10], hv, by rw [show w = .str (S [10]) from hw], by decide, by rw [S_len]; exact Nat.le_trans (Nat.add_le_add_right hz 2) (by decide), fun p hp => by
    rw [split_lines]
    exact q p _ _ ((s2.trans s3).free hp) ((s2.trans s3).trans (Same.new hp)) upd_same (dts_S _)⟩⟩
theorem join_S (s : Tx) (ls : List Tx) : Txt.join (S s) (ls.map S) = S (TL.joinL s ls) := by
  refine TL.ext_tl ?_
  rw [TL.join_eq, TL.tl_join, tl_S, tl_S, map_tl_S]
theorem sum_le {B : Nat} : ∀ {ls : List Tx}, (∀ l ∈ ls, l.length ≤ B) → (ls.map List.length).sum ≤ ls.length * B
  | [], _ => Nat.le_of_eq (Nat.zero_mul _).symm
  | l :: r, h => by
    rw [List.map_cons, List.sum_cons, List.length_cons, Nat.succ_mul]
    have := sum_le fun q hq => h q (List.mem_cons_of_mem _ hq)
    have := h l List.mem_cons_self
    omega
theorem ev_join {s : Tx} {ls : List Tx} {B : Nat} (ha : Ev K ta σ H (.str s)) (hb : Ev K tb σ H (.lst (ls.map D.str))) (hB : ∀ l ∈ ls, l.length ≤ B) (hz : ls.length * B + ls.length * s.length ≤ 16777216) :
    Ev K (tM1 (fun x xs H Q => ∃ a p, ∃ ys : List Str, x = .str a ∧ xs = [.ref p] ∧ (SqL K H p (ys.map V.str) ∨ SqT K H p (ys.map V.str)) ∧ (ys.map (·.length)).sum + ys.length * a.length ≤ 16777216 ∧ Q (.str (Txt.join a ys)) H) ta tb) σ H (.str (TL.joinL s ls)) := fun H1 e1 Q q =>
  ha H1 e1 _ fun v H2 s2 hv => ⟨⟨S s, hv⟩, hb H2 (e1.trans s2) _ fun w H3 s3 ⟨a, vs, h1, h2, h3⟩ => by
    have ev : vs = (ls.map S).map V.str := by rw [dts_strs h3, List.map_map]; rfl
    subst ev
    refine ⟨S s, a, ls.map S, hv, by rw [h1], .inl (SqL.of h2), ?_, ?_⟩
    · have h4 : (ls.map S).map (·.length) = ls.map List.length := by rw [List.map_map]; exact List.map_congr_left fun l _ => S_len l
      have := sum_le hB
      rw [h4, List.length_map, S_len]
      omega
    · rw [join_S]; exact q _ _ (s2.trans s3) rfl⟩
theorem op_repS {X : Cx} : OpR X (binaryOp .Mult) (fun x y H Q => ∃ a n, x = .str a ∧ y = .int n ∧ MulOk a n ∧ Q (.str (Txt.mul a n)) H) := by
  intro pins s σ H x y v u Q I rx ry h
  obtain ⟨a, n, rfl, rfl, hok, q⟩ := h
  obtain ⟨t, rfl⟩ := rx
  obtain ⟨t', rfl⟩ := ry
  exact SB.mul hok fun t' k => ⟨.str _, H, I.tok k, ⟨_, rfl⟩, q⟩
theorem fold_one (c : Nat) : ∀ (n : Nat) (a : Tx), (List.replicate n #[c]).foldl (· ++ ·) a.toArray = (a ++ List.replicate n c).toArray
  | 0, a => by simp
  | n + 1, a => by
    rw [List.replicate_succ, List.foldl_cons, show a.toArray ++ #[c] = (a ++ [c]).toArray by simp, fold_one c n (a ++ [c]), List.replicate_succ, List.append_assoc]
    rfl
theorem mul_S (c : Nat) {n : Nat} (h : 1 < n) : Txt.mul (S [c]) (n : Int) = S (List.replicate n c) := by
  unfold Txt.mul
  rw [if_neg (by omega), if_neg, Int.toNat_natCast]
  · show (⟨(List.replicate n (S [c]).cps).foldl (· ++ ·) #[]⟩ : Str) = ⟨(List.replicate n c).toArray⟩
    rw [show (S [c]).cps = #[c] from rfl, show (#[] : Array Nat) = ([] : Tx).toArray from rfl, fold_one]
    rfl
  · intro z
    rw [Bool.or_eq_true, beq_iff_eq, beq_iff_eq] at z
    rcases z with z | z
    · omega
    · rw [S_len] at z; cases z
theorem mulOk_S (c : Nat) {n : Nat} (h : 1 < n) (hz : n ≤ 100000) : MulOk (S [c]) (n : Int) := by
  refine ⟨?_, fun _ _ => ?_, fun _ _ => ?_⟩
  · rw [decide_eq_false (by omega), decide_eq_false (by omega)]; rfl
  · rw [S_len]
    have : (1 : Int) ≤ (2 ^ 63 - 1) / (n : Int) := by
      rw [Int.le_ediv_iff_mul_le (by omega)]
      omega
    show ¬ ((1 : Int) > _)
    omega
  · rw [S_len, Int.toNat_natCast]
    unfold Builtin.Str.tooLong
    have := small hz
    simp
    omega
theorem ev_repS {c n : Nat} {i : Int} (ha : Ev K ta σ H (.str [c])) (hb : Ev K tb σ H (.int i)) (e : i = (n : Int)) (h : 1 < n) (hz : n ≤ 100000) : Ev K (tOp (fun x y H Q => ∃ a n, x = .str a ∧ y = .int n ∧ MulOk a n ∧ Q (.str (Txt.mul a n)) H) ta tb) σ H (.str (List.replicate n c)) :=
  ev_op ha hb fun v w H1 _ hv hw Q q => ⟨S [c], i, hv, hw, by rw [e]; exact mulOk_S c h hz, q _ _ (Same.refl _) (by rw [e, mul_S c h]; rfl)⟩
theorem ev_addS2 {a b : Tx} (ha : Ev K ta σ H (.str a)) (hb : Ev K tb σ H (.str b)) (hz : a.length + b.length ≤ 10000000) : Ev K (tOp (fun x y H Q => ∃ i j, x = .str i ∧ y = .str j ∧ i.length + j.length ≤ sizeLine ∧ Q (.str (i ++ j)) H) ta tb) σ H (.str (a ++ b)) :=
  ev_op ha hb fun v w H1 _ hv hw Q q => ⟨S a, S b, hv, hw, by rw [S_len, S_len]; exact Nat.le_trans hz (by decide), q _ _ (Same.refl _) (by rw [S_app]; rfl)⟩
theorem q_jn {σ : L2.St} {H : Hp} {E : Ends} {t tv : TS} {R : L2.St → Hp → Prop} (h1 : ∀ N : L2.St → Hp → Prop, (∀ σ2 H2, R σ2 H2 → N σ2 H2) → t { E with nx := N } σ H) (h2 : ∀ σ2 H2, R σ2 H2 → tv E σ2 H2) : tSeq t tv E σ H := h1 (tv E) h2
/-- a heap without one of its addresses -/
def hide1 (L : Addr) (H : Hp) : Hp := fun b => if b = L then none else H b
theorem hide1_at {L a : Addr} {H : Hp} (h : a ≠ L) : hide1 L H a = H a := if_neg h
theorem hide1_none {L : Addr} {H : Hp} : hide1 L H L = none := if_pos rfl
theorem hide1_same {L : Addr} {H : Hp} : Same (hide1 L H) H := fun b o h => by
  by_cases q : b = L
  · rw [q, hide1_none] at h; cases h
  · rw [hide1_at q] at h; exact h
/-- lines[i] = e -/
theorem s_stoL {ls : List Tx} {L : Addr} {n : Nat} {x : Tx} (hL : HH L = none) (sH : Same HH H) (hat : H L = some (.lst ((ls.map S).map V.str))) (h1 : Ev K te σ H (.str x)) (ho : Ev K to σ H (.raw (.ref L))) (hi : Ev K ti σ H (.int (n : Int))) (lt : n < ls.length)
    (k : ∀ H', Same HH H' → H' L = some (.lst (((ls.set n x).map S).map V.str)) → E.nx σ H') : tAsg te (gSub to ti rSetL) E σ H :=
  h1 H (Same.refl H) _ fun v H1 e1 hv => ho H1 e1 _ fun o H2 e2 ho2 => hi H2 (e1.trans e2) _ fun i H3 e3 hi3 => by
    have e := (e1.trans e2).trans e3
    refine ⟨L, _, (n : Int), n, ho2, hi3, e _ _ hat, ?_, ?_⟩
    · rw [List.length_map, List.length_map]
      unfold ixN
      rw [if_pos (by omega)]
      simp [lt]
    · refine k _ (fun b o h => ?_) (by rw [upd_same, show v = .str (S x) from hv, List.map_set, List.map_set])
      rw [upd_ne (ne_of_none h hL)]
      exact e _ _ (sH _ _ h)
end
/-- isinstance(e, (A, B, ..)), e the error that is caught -/
def rIsET (K : PySem.W.Frag) (D a : Addr) : List V → Hp → VK → Prop := fun xs H Q => ∃ (tp : Addr) (cs : List V) (ws : List Value) (b : Bool), xs = [.ref a, .ref tp] ∧ H tp = some (.tup cs) ∧ Paired ClsV cs ws ∧ PySem.W.kitAny K (.ref D) ws = some b ∧ Q (.bl b) H
theorem call_isET {X : Cx} {a D : Addr} {oe : Obj} {cls : Value} {d : Option Addr} {pn : List (Addr × Obj)} (C : ExcC X.K D) (h1 : cls = .ref D) (h2 : d = none) (hz : Zc cls d oe) (hf : ∃ vs, oe.data = .fields vs) : CallR (X.suite a ((a, oe) :: pn)) (.builtin "isinstance") (rIsET X.K D a) := by
  subst h1 h2
  intro pins s σ H xs us Q I r h
  obtain ⟨tp, cs, ws, b, rfl, hT, k, e, q⟩ := h
  cases r with
  | cons rx rr =>
    cases rr with
    | cons rt rr =>
      cases rr
      cases rx
      cases rt
      obtain ⟨hget, _⟩ := I.pin (a, oe) (List.mem_append.mpr (.inl List.mem_cons_self))
      obtain ⟨vs, hv⟩ := hf
      have J : PySem.W.InstAt s.heap a oe D none := by
        obtain ⟨oc, od, oda, osl⟩ := oe
        obtain ⟨h1, h2⟩ := hz
        dsimp only at h1 h2 hv
        subst h1 h2 hv
        exact ⟨hget, rfl, rfl, trivial⟩
      obtain ⟨_, its, rv, o, h1, h2, n, h3⟩ := (show ObjOk _ _ H s.heap tp (.tup cs) from I.hok tp _ hT)
      have e3 := ClsV.all k rv
      subst e3
      obtain ⟨oc, od, dt, sl⟩ := o
      simp only at h2 h3
      subst h2 h3
      exact PySem.W.kia_tup (PySem.W.handS_kitx_exc C.hg C.hk C.hs C.hd C.ha C.hn C.ht C.hm) I.kIn J h1 e (fun z => nomatch z) fun tk => ⟨.bl b, H, I.kept (t' := tk) fun _ _ z => z, rfl, q⟩
theorem ev_isET3 {σ : L2.St} {H : Hp} {ta : TE} {C a A1 A2 A3 : Addr} (ha : Ev K ta σ H (.raw (.ref a))) (h1 : PySem.W.kitOne K (.ref C) (.ref A1) = some false) (h2 : PySem.W.kitOne K (.ref C) (.ref A2) = some false) (h3 : PySem.W.kitOne K (.ref C) (.ref A3) = some false) :
    Ev K (tCB (rIsET K C a) (tCons ta (tCons (tTup (tCons (tC (.ref A1)) (tCons (tC (.ref A2)) (tCons (tC (.ref A3)) tNil)))) tNil))) σ H (.bl false) :=
  ev_cb (ea_cons ha (ea_cons (ev_tup (ea_cons ev_c (ea_cons ev_c (ea_cons ev_c ea_nil))) (by show 3 ≤ 100000; decide)) ea_nil)) fun vs H1 _ ⟨v, r, e1, hv, u, r2, e2, ⟨tp, cs, e3, e4, d1, y1, e5, g1, d2, y2, e6, g2, d3, y3, e7, g3, g4⟩, e8⟩ Q q => by
    have ec : cs = [.ref A1, .ref A2, .ref A3] := by rw [e5, e6, e7, show d1 = .ref A1 from g1, show d2 = .ref A2 from g2, show d3 = .ref A3 from g3, show y3 = [] from g4]
    subst ec
    refine ⟨tp, _, [.ref A1, .ref A2, .ref A3], false, by rw [e1, e2, show v = .ref a from hv, e3, show r2 = [] from e8], e4, .cons (.own _) (.cons (.own _) (.cons (.own _) .nil)), ?_, q _ _ (Same.refl _) rfl⟩
    exact kitAny_cons h1 (fun _ => kitAny_cons h2 (fun _ => kitAny_cons h3 (fun _ => rfl) fun z => nomatch z) fun z => nomatch z) fun z => nomatch z
theorem kit_no {K : PySem.W.Frag} {A B : Addr} (h1 : PySem.W.hasDictIn K B = true) (h2 : PySem.W.typeIn K (.ref B) = some (.type "type")) (h0 : PySem.W.subIn K (.ref A) (.ref A) = some true) (h3 : PySem.W.subIn K (.ref A) (.ref B) = some false) : PySem.W.kitOne K (.ref A) (.ref B) = some false := by
  obtain ⟨cd, hc, _⟩ := PySem.W.any_some h1
  have e : ((PySem.W.clsIn K B).isSome && PySem.W.typeIn K (.ref B) == some (.type "type")) = true := by rw [hc, h2] <;> rfl
  unfold PySem.W.kitOne
  split
  · rename_i q
    have : A = B := Value.ref.inj (beq_iff_eq.mp q)
    subst this
    rw [h0] at h3; cases h3
  · exact (if_pos e).trans h3
section
variable {σ : L2.St} {H HH : Hp} {ta tb te : TE} {E : Ends} {tu tv : TS} {sl : List (Option D)}
theorem q_asgS {j : Nat} {x : Tx} (S : Sl K HH sl σ) (h : Ev K te σ H (.str x)) (k : ∀ σ' H', Same H H' → Sl K HH (sl.set j (some (.str x))) σ' → tu E σ' H') : tSeq (tAsg te (gName j)) tu E σ H :=
  h H (Same.refl H) _ fun v H1 e hv => k _ H1 e (S.set (d := .str x) j hv)
theorem q_asgJ {j : Nat} {x : Int} (S : Sl K HH sl σ) (h : Ev K te σ H (.int x)) (k : ∀ σ' H', Same H H' → Sl K HH (sl.set j (some (.int x))) σ' → tu E σ' H') : tSeq (tAsg te (gName j)) tu E σ H :=
  h H (Same.refl H) _ fun v H1 e hv => k _ H1 e (S.set (d := .int x) j hv)
theorem q_stoL {to ti : TE} {ls : List Tx} {L : Addr} {n : Nat} {x : Tx} (hL : HH L = none) (sH : Same HH H) (hat : H L = some (.lst ((ls.map S).map V.str))) (h1 : Ev K te σ H (.str x)) (ho : Ev K to σ H (.raw (.ref L))) (hi : Ev K ti σ H (.int (n : Int))) (lt : n < ls.length)
    (k : ∀ H', Same HH H' → H' L = some (.lst (((ls.set n x).map S).map V.str)) → tu E σ H') : tSeq (tAsg te (gSub to ti rSetL)) tu E σ H := s_stoL (E := { E with nx := tu E }) hL sH hat h1 ho hi lt k
theorem s_asgNs {i : Nat} {es : List D} (h : EvN K te σ H es) (k : ∀ p vs H', H p = none → Same H H' → H' p = some (.lst vs) → Dts K H' es vs → E.nx (σ.set i (some (.ref p))) H') : tAsg te (gName i) E σ H :=
  q_asgNs (tu := tNext) (E := E) h k
theorem strV (ls : List Tx) : (ls.map fun y => V.str (S y)) = (ls.map S).map V.str := by rw [List.map_map]; rfl
theorem atI_line {ls : List Tx} {n : Nat} (h : n < ls.length) : atI (ls.map D.str) (n : Int) = some (.str (ls.getD n [])) :=
  atI_nat (by rw [List.getElem?_map, List.getElem?_eq_getElem h, List.getD_eq_getElem?_getD, List.getElem?_eq_getElem h]; rfl)
theorem cutD_to {ls : List Tx} {n : Nat} : cutD (ls.map D.str) none (some (n : Int)) = (ls.take n).map D.str := by
  unfold cutD
  rw [HT.sIx_none, HT.sIx_nat, List.drop_zero, Nat.sub_zero, ← List.map_take, List.length_map]
  congr 1
  by_cases h : n ≤ ls.length
  · rw [Nat.min_eq_left h]
  · rw [Nat.min_eq_right (by omega), List.take_of_length_le (Nat.le_refl _), List.take_of_length_le (by omega)]
theorem cutD_from {ls : List Tx} {n : Nat} : cutD (ls.map D.str) (some (n : Int)) none = (ls.drop n).map D.str := by
  unfold cutD
  rw [HT.sIx_none, HT.sIx_nat, List.length_map, List.take_of_length_le (by rw [List.length_drop, List.length_map]; omega), ← List.map_drop]
  congr 1
  by_cases h : n ≤ ls.length
  · rw [Nat.min_eq_left h]
  · rw [Nat.min_eq_right (by omega), List.drop_of_length_le (Nat.le_refl _), List.drop_of_length_le (by omega)]
end
end
end Rt

namespace Rt
open PySem PySem.Spec PyProof.Rows L2
section
variable {P : Program} {w : World} {K : PySem.W.Frag} {mg : Str → Option Value} {base : Heap}
theorem hu_of {k : Nat} {A : Around} (r : Room k A) : A.units + 1 < cLine := by have := r.un; omega
/-! dicts of texts and numbers, as rows in the order of insertion -/
def kvR (R : Rows) : List (Key × V) := R.map fun p => (Sum.inr (S p.1), V.int p.2)
def lookD (R : Rows) (x : Tx) : Option Int := (R.find? fun p => decide (p.1 = x)).map (·.2)
def putD (R : Rows) (x : Tx) (n : Int) : Rows := if (lookD R x).isSome then R.map (fun p => if p.1 = x then (p.1, n) else p) else R ++ [(x, n)]
theorem key_eq (a b : Tx) : ((Sum.inr (S a) : Key) = Sum.inr (S b)) ↔ a = b := ⟨fun h => S_inj (Sum.inr.inj h), fun h => by rw [h]⟩
theorem valV_kvR (x : Tx) : ∀ R : Rows, valV (kvR R) (Sum.inr (S x)) = (lookD R x).map V.int
  | [] => rfl
  | p :: r => by
    by_cases e : p.1 = x
    · rw [show kvR (p :: r) = (Sum.inr (S p.1), V.int p.2) :: kvR r from rfl, valV_pos ((key_eq p.1 x).mpr e)]
      unfold lookD
      rw [List.find?_cons_of_pos (p := fun p : Tx × Int => decide (p.1 = x)) (decide_eq_true e)]
      rfl
    · rw [show kvR (p :: r) = (Sum.inr (S p.1), V.int p.2) :: kvR r from rfl, valV_neg (fun z => e ((key_eq p.1 x).mp z)), valV_kvR x r]
      unfold lookD
      rw [List.find?_cons_of_neg (p := fun p : Tx × Int => decide (p.1 = x)) (by rw [decide_eq_false e]; decide)]
theorem valV_kvI (i : Int) : ∀ R : Rows, valV (kvR R) (Sum.inl i) = none
  | [] => rfl
  | p :: r => by
    rw [show kvR (p :: r) = (Sum.inr (S p.1), V.int p.2) :: kvR r from rfl, valV_neg (fun z => by cases z), valV_kvI i r]
theorem putK_kvR (R : Rows) (x : Tx) (n : Int) : putK (kvR R) (Sum.inr (S x)) (.int n) = kvR (putD R x n) := by
  unfold putK putD
  rw [valV_any, valV_kvR]
  cases h : lookD R x with
  | none =>
    rw [if_neg (by decide), if_neg (by decide)]
    unfold kvR
    rw [List.map_append]; rfl
  | some m =>
    rw [if_pos (show (Option.map V.int (some m)).isSome = true from rfl), if_pos (show (some m).isSome = true from rfl)]
    unfold kvR
    rw [List.map_map, List.map_map]
    refine List.map_congr_left fun p _ => ?_
    show (if (Sum.inr (S p.1) : Key) = Sum.inr (S x) then (Sum.inr (S p.1), V.int n) else (Sum.inr (S p.1), V.int p.2)) = (Sum.inr (S (if p.1 = x then (p.1, n) else p).1), V.int (if p.1 = x then (p.1, n) else p).2)
    by_cases e : p.1 = x
    · rw [if_pos ((key_eq _ _).mpr e), if_pos e]
    · rw [if_neg (fun z => e ((key_eq _ _).mp z)), if_neg e]
theorem kvR_keys (R : Rows) : (kvR R).map (·.1) = (R.map fun p => S p.1).map Sum.inr := by
  unfold kvR
  rw [List.map_map, List.map_map]; rfl
theorem kvR_len (R : Rows) : (kvR R).length = R.length := List.length_map _
theorem dis_uniq : ∀ {l : Rows} {p q : Tx × Int}, Dis l → p ∈ l → q ∈ l → p.1 = q.1 → p = q
  | [], _, _, _, h, _, _ => by cases h
  | a :: r, p, q, h, hp, hq, e => by
    have h' := List.pairwise_cons.mp h
    rcases List.mem_cons.mp hp with e1 | hp2
    · rcases List.mem_cons.mp hq with e2 | hq2
      · rw [e1, e2]
      · rw [e1] at e; exact absurd e (h'.1 q hq2)
    · rcases List.mem_cons.mp hq with e2 | hq2
      · rw [e2] at e; exact absurd e.symm (h'.1 p hp2)
      · exact dis_uniq h'.2 hp2 hq2 e
theorem lookD_mem {R : Rows} (h : Dis R) {x : Tx} {n : Int} : lookD R x = some n ↔ (x, n) ∈ R := by
  unfold lookD
  constructor
  · intro e
    cases q : R.find? fun p => decide (p.1 = x) with
    | none => rw [q] at e; cases e
    | some p =>
      rw [q] at e
      have hp := List.find?_some q
      have hm := List.mem_of_find?_eq_some q
      have e1 : p.1 = x := of_decide_eq_true hp
      have e2 : p.2 = n := Option.some.inj e
      rw [← e1, ← e2]; exact hm
  · intro m
    cases q : R.find? fun p => decide (p.1 = x) with
    | none =>
      have := List.find?_eq_none.mp q (x, n) m
      exact absurd (decide_eq_true rfl) this
    | some p =>
      have hp := List.find?_some q
      have hm := List.mem_of_find?_eq_some q
      have e1 : p.1 = x := of_decide_eq_true hp
      show some p.2 = some n
      by_cases c : p = (x, n)
      · rw [c]
      · exact absurd (dis_uniq h hm m e1) c
theorem lookD_mem_at {R : Rows} (h : Dis R) {p : Tx × Int} : lookD R p.1 = some p.2 ↔ p ∈ R := lookD_mem h
theorem lookD_none {R : Rows} {x : Tx} : lookD R x = none ↔ ∀ p ∈ R, p.1 ≠ x := by
  unfold lookD
  rw [Option.map_eq_none_iff, List.find?_eq_none]
  exact forall_congr' fun p => imp_congr Iff.rfl (by rw [decide_eq_true_eq])
/-- a dict that stands at a, to be read -/
def DicAt (H : Hp) (a : Addr) (R : Rows) : Prop := Rd H a (.dK (kvR R))
theorem DicAt.mono {H H' : Hp} {a : Addr} {R : Rows} (h : DicAt H a R) (e : Same H H') : DicAt H' a R := by
  rcases h with h | ⟨o, h⟩
  · exact .inl (e _ _ h)
  · exact .inr ⟨o, e _ _ h⟩
def inD (R : Rows) : D → Bool
  | .str x => (lookD R x).isSome
  | _ => false
section
variable {σ : L2.St} {H HH : Hp} {td ty tv te : TE} {E : Ends} {tu tw : TS} {a : Addr} {R : Rows} {x : Tx} {n : Int}
theorem ev_dget (ha : Ev K td σ H (.raw (.ref a))) (hx : Ev K ty σ H (.str x)) (hd : DicAt H a R) (h : lookD R x = some n) : Ev K (tDGet td ty) σ H (.int n) := fun H1 e Q q =>
  ha H1 e _ fun v H2 e2 hv => hx H2 (e.trans e2) _ fun y H3 e3 hy => ⟨a, .int n, hv, .inl ⟨kvR R, .inr (S x), hd.mono ((e.trans e2).trans e3), hy, by rw [valV_kvR, h]; rfl⟩, q _ _ (e2.trans e3) rfl⟩
theorem ev_dget1 (ha : Ev K td σ H (.raw (.ref a))) (hx : Ev K ty σ H (.str x)) (hd : DicAt H a R) : Ev K (tDGet1 td ty) σ H (optD (lookD R x)) := fun H1 e Q q =>
  ha H1 e _ fun v H2 e2 hv => ⟨a, hv, .inl ⟨_, hd.mono (e.trans e2)⟩, hx H2 (e.trans e2) _ fun y H3 e3 hy => ⟨(lookD R x).map V.int, .inl ⟨kvR R, .inr (S x), hd.mono ((e.trans e2).trans e3), hy, by rw [valV_kvR]⟩, q _ _ (e2.trans e3) (by cases lookD R x <;> rfl)⟩⟩
theorem ev_din (hx : Ev K ty σ H (.str x)) (ha : Ev K td σ H (.raw (.ref a))) (hd : DicAt H a R) : Ev K (tDInN ty td) σ H (.bl (lookD R x).isSome) := fun H1 e Q q =>
  hx H1 e _ fun y H2 e2 hy => ha H2 (e.trans e2) _ fun v H3 e3 hv => .inl ⟨a, (lookD R x).map V.int, hv, .inl ⟨kvR R, .inr (S x), hd.mono ((e.trans e2).trans e3), hy, by rw [valV_kvR]⟩, by
    rw [show ((lookD R x).map V.int).isSome = (lookD R x).isSome by cases lookD R x <;> rfl]
    exact q _ _ (e2.trans e3) rfl⟩
theorem ev_dnotin (hx : Ev K ty σ H (.str x)) (ha : Ev K td σ H (.raw (.ref a))) (hd : DicAt H a R) : Ev K (tDNotInN ty td) σ H (.bl (!(lookD R x).isSome)) := fun H1 e Q q =>
  hx H1 e _ fun y H2 e2 hy => ha H2 (e.trans e2) _ fun v H3 e3 hv => .inl ⟨a, (lookD R x).map V.int, hv, .inl ⟨kvR R, .inr (S x), hd.mono ((e.trans e2).trans e3), hy, by rw [valV_kvR]⟩, by
    rw [show ((lookD R x).map V.int).isSome = (lookD R x).isSome by cases lookD R x <;> rfl]
    exact q _ _ (e2.trans e3) rfl⟩
theorem ev_dinD {d : D} {b : Bool} (th : ThD d b) (hx : Ev K ty σ H d) (ha : Ev K td σ H (.raw (.ref a))) (hd : DicAt H a R) : Ev K (tDInN ty td) σ H (.bl (inD R d)) := by
  rcases th with ⟨l, rfl, _, _⟩ | ⟨rfl | ⟨i, rfl⟩, _⟩
  · exact ev_din hx ha hd
  · exact fun H1 e Q q => hx H1 e _ fun y H2 e2 hy => ha H2 (e.trans e2) _ fun v H3 e3 hv => .inr ⟨a, kvR R, hv, hy, hd.mono ((e.trans e2).trans e3), q _ _ (e2.trans e3) rfl⟩
  · exact fun H1 e Q q => hx H1 e _ fun y H2 e2 hy => ha H2 (e.trans e2) _ fun v H3 e3 hv => .inl ⟨a, none, hv, .inl ⟨kvR R, .inl i, hd.mono ((e.trans e2).trans e3), hy, (valV_kvI i R).symm⟩, q _ _ (e2.trans e3) rfl⟩
/-- d[x] = n -/
theorem s_dput (hn : Ev K tv σ H (.int n)) (ha : Ev K td σ H (.raw (.ref a))) (hx : Ev K ty σ H (.str x)) (hat : H a = some (.dK (kvR R))) (hz : R.length ≤ 1000) (k : ∀ H', (∀ b o, b ≠ a → H b = some o → H' b = some o) → H' a = some (.dK (kvR (putD R x n))) → E.nx σ H') : sDPut td ty tv E σ H :=
  hn H (Same.refl H) _ fun v H1 e1 hv => ha H1 e1 _ fun o H2 e2 ho => hx H2 (e1.trans e2) _ fun y H3 e3 hy => by
    have e := (e1.trans e2).trans e3
    refine ⟨a, _, ho, .inl ⟨kvR R, .inr (S x), e _ _ hat, hy, by rw [kvR_len]; exact smallLt (by omega), rfl⟩, k _ (fun b o n h => by rw [upd_ne n]; exact e _ _ h) ?_⟩
    rw [upd_same, show v = .int n from hv, putK_kvR]
theorem q_dput (hn : Ev K tv σ H (.int n)) (ha : Ev K td σ H (.raw (.ref a))) (hx : Ev K ty σ H (.str x)) (hat : H a = some (.dK (kvR R))) (hz : R.length ≤ 1000) (k : ∀ H', (∀ b o, b ≠ a → H b = some o → H' b = some o) → H' a = some (.dK (kvR (putD R x n))) → tu E σ H') : tSeq (sDPut td ty tv) tu E σ H := s_dput (E := { E with nx := tu E }) hn ha hx hat hz k
/-- {} -/
theorem q_dnew {i : Nat} (k : ∀ p H', H p = none → Same H H' → H' p = some (.dK (kvR [])) → tu E (σ.set i (some (.ref p))) H') : tSeq (tAsg tDNewK (gName i)) tu E σ H := fun p hp => k p _ hp (Same.new hp) upd_same
theorem ev_dlen (ha : Ev K td σ H (.raw (.ref a))) (hat : H a = some (.dK (kvR R))) : Ev K (tCB (fun xs H Q => ∃ a kvs, xs = [V.ref a] ∧ H a = some (.dK kvs) ∧ Q (.int kvs.length) H) (tCons td tNil)) σ H (.int (R.length : Int)) :=
  fun H1 e Q q => ha H1 e _ fun v H2 e2 hv => ⟨a, kvR R, by rw [show v = .ref a from hv], e2 _ _ (e _ _ hat), q _ _ e2 (by rw [kvR_len]; rfl)⟩
/-- sorted(d): the names, rising -/
theorem en_dsort {out : List Tx} (ha : Ev K td σ H (.raw (.ref a))) (hd : DicAt H a R) (hz : R.length ≤ 1000) (hp : out.Perm (R.map fun p => p.1)) (hs : out.Pairwise (· < ·)) : EvN K (tCB rSortedDA (tCons td tNil)) σ H (out.map D.str) := fun H1 e Q q =>
  ha H1 e _ fun v H2 e2 hv => ⟨a, kvR R, R.map fun p => S p.1, by rw [show v = .ref a from hv], hd.mono (e.trans e2), kvR_keys R, by rw [List.length_map]; omega, fun ys p hpm hpw hpn => by
    have ey : ys = out.map S := by
      have h1 : (ys.map fun y => y.cps.toList).Perm out := by
        have := hpm.map fun y : Str => y.cps.toList
        rw [List.map_map] at this
        refine this.trans ?_
        have e3 : (R.map ((fun y : Str => y.cps.toList) ∘ fun p => S p.1)) = R.map fun p => p.1 := List.map_congr_left fun p _ => S_cps p.1
        rw [e3]
        exact hp.symm
      have h2 : (ys.map fun y => y.cps.toList) = out := by
        refine h1.eq_of_pairwise (le := fun a b : Tx => ¬ b < a) (fun a b _ _ h3 h4 => ?_) (List.pairwise_map.mpr hpw) (hs.imp fun {a b} h z => lt_ne (lt_tr h z) rfl)
        rcases lt_tot a b with q | q | q
        · exact absurd q h4
        · exact q
        · exact absurd q h3
      rw [← h2, List.map_map]
      exact ((List.map_congr_left fun y _ => S_of y).trans (List.map_id _)).symm
    subst ey
    exact q p _ _ (e2.free hpn) (e2.trans (Same.new hpn)) upd_same (dts_S out)⟩
theorem ev_ddict (ha : Ev K td σ H (.raw (.ref a))) (hd : DicAt H a R) : ∀ H1, Same H H1 → ∀ Q : VK, (∀ p H2, H1 p = none → Same H1 H2 → H2 p = some (.dK (kvR R)) → Q (.ref p) H2) → tCB (fun xs H Q => ∃ (a : Addr) (kvs : List (Key × V)), xs = [.ref a] ∧ Rd H a (.dK kvs) ∧ ∀ p, H p = none → Q (.ref p) (upd H p (.dK kvs))) (tCons td tNil) σ H1 Q := fun H1 e Q q =>
  ha H1 e _ fun v H2 e2 hv => ⟨a, kvR R, by rw [show v = .ref a from hv], hd.mono (e.trans e2), fun p hp => q p _ (e2.free hp) (e2.trans (Same.new hp)) upd_same⟩
theorem en_dlist (ha : Ev K td σ H (.raw (.ref a))) (hd : DicAt H a R) : EvN K (tCB (fun xs H Q => ∃ (a : Addr) (kvs : List (Key × V)), xs = [.ref a] ∧ Rd H a (.dK kvs) ∧ ∀ p, H p = none → Q (.ref p) (upd H p (.lst (kvs.map fun kv => kV kv.1)))) (tCons td tNil)) σ H ((R.map fun p => p.1).map D.str) := fun H1 e Q q =>
  ha H1 e _ fun v H2 e2 hv => ⟨a, kvR R, by rw [show v = .ref a from hv], hd.mono (e.trans e2), fun p hp => q p _ _ (e2.free hp) (e2.trans (Same.new hp)) upd_same (by
    have : ((kvR R).map fun kv => kV kv.1) = ((R.map fun p => p.1).map S).map V.str := by
      unfold kvR
      rw [List.map_map, List.map_map, List.map_map]; rfl
    rw [this]; exact dts_S _)⟩
/-- for x in d: -/
theorem s_forK {j : Nat} {Inv : Obj → Nat → L2.St → Hp → Prop} (hat : H a = some (.dK (kvR R))) (ha : ∀ od, Ev K td σ (upd H a (.frz od (.dK (kvR R)))) (.raw (.ref a))) (p0 : ∀ od H1, Same (upd H a (.frz od (.dK (kvR R)))) H1 → Inv od 0 σ H1)
    (fz : ∀ od i σ' H', Inv od i σ' H' → H' a = some (.frz od (.dK (kvR R))))
    (step : ∀ od i p σ' H' (E' : Ends), R[i]? = some p → Inv od i σ' H' → (∀ σ2 H2, Inv od (i + 1) σ2 H2 → E'.nx σ2 H2) → tu E' (σ'.set j (some (.str (S p.1)))) H')
    (done : ∀ od σ' H', Inv od R.length σ' H' → E.nx σ' (upd H' a (.dK (kvR R)))) : tLock (tFor (iKeys td) (gName j) tu) E σ H :=
  ⟨a, .dK (kvR R), hat, by trivial, fun od => ha od _ (Same.refl _) _ fun v H1 e1 hv => ⟨a, od, hv, .inl ⟨kvR R, e1 _ _ upd_same, fun i m σ' H' => m = R.length - i ∧ i ≤ R.length ∧ Inv od i σ' H', ⟨R.length, rfl, Nat.zero_le _, p0 od H1 e1⟩, fun i m σ' H' ⟨hm, hi, p⟩ => by
    have hf := fz od i σ' H' p
    by_cases hlt : i < R.length
    · refine .inr ⟨⟨hf, by rw [kvR_len]; exact hlt⟩, fun σ2 H2 => Inv od (i + 1) σ2 H2, fun σ2 H2 q => ⟨R.length - (i + 1), by omega, rfl, hlt, q⟩, ?_⟩
      rintro x H2 ⟨rfl, k, v, hk, rfl⟩
      have hr : R[i]? = some R[i] := List.getElem?_eq_getElem hlt
      have ek : k = .inr (S R[i].1) := by
        unfold kvR at hk
        rw [List.getElem?_map, hr] at hk
        have := Option.some.inj hk
        exact (congrArg Prod.fst this).symm
      rw [ek]
      exact step od i _ σ' H2 _ hr p fun _ _ q => q
    · obtain rfl : i = R.length := by omega
      exact .inl ⟨⟨hf, by rw [kvR_len]; exact Nat.le_refl _⟩, hf, done od σ' H' p⟩⟩⟩⟩
theorem q_forK {j : Nat} {Inv : Obj → Nat → L2.St → Hp → Prop} (hat : H a = some (.dK (kvR R))) (ha : ∀ od, Ev K td σ (upd H a (.frz od (.dK (kvR R)))) (.raw (.ref a))) (p0 : ∀ od H1, Same (upd H a (.frz od (.dK (kvR R)))) H1 → Inv od 0 σ H1)
    (fz : ∀ od i σ' H', Inv od i σ' H' → H' a = some (.frz od (.dK (kvR R))))
    (step : ∀ od i p σ' H' (E' : Ends), R[i]? = some p → Inv od i σ' H' → (∀ σ2 H2, Inv od (i + 1) σ2 H2 → E'.nx σ2 H2) → tu E' (σ'.set j (some (.str (S p.1)))) H')
    (done : ∀ od σ' H', Inv od R.length σ' H' → tw E σ' (upd H' a (.dK (kvR R)))) : tSeq (tLock (tFor (iKeys td) (gName j) tu)) tw E σ H := s_forK (E := { E with nx := tw E }) hat ha p0 fz step done
end
end
end Rt

namespace Rt
open PySem PySem.Spec PyProof.Rows L2
section
variable {P : Program} {w : World} {K : PySem.W.Frag} {mg : Str → Option Value} {base : Heap}
def ThE (d : D) (b : Bool) : Prop := ThD d b ∧ ∀ l, d = .str l → b = false → 40 < l.length ∨ 10 ∈ l ∨ 9 ∈ l
def Rnamed : List D → D → Prop := fun ds d => ∃ x b, ds = [x] ∧ ThE x b ∧ d = .bl b
theorem ev_notInC {σ : L2.St} {H : Hp} {ta tb : TE} {a : Nat} {l : Tx} (ha : Ev K ta σ H (.str [a])) (hb : Ev K tb σ H (.str l)) : Ev K (tOp (fun x y H Q => ∃ (c : Nat) (z : Str), x = .str ⟨#[c]⟩ ∧ y = .str z ∧ Q (.bl (!decide (c ∈ z.cps.toList))) H) ta tb) σ H (.bl (!decide (a ∈ l))) :=
  ev_op ha hb fun v w H1 _ hv hw Q q => ⟨a, S l, hv, hw, q _ _ (Same.refl _) (by show V.bl (!decide (a ∈ (S l).cps.toList)) = V.bl (!decide (a ∈ l)); rw [S_cps])⟩
theorem cal_named (F : Dfn K mg "_law_named" s__law_named ["_law_thing"]) (BU : Bl mg) : Cal P w K mg base CX0 1 "_law_named" (Fn K Rnamed) := by
  refine cal_fn F sc__law_named (fun ds d h => by obtain ⟨a, b, rfl, _⟩ := h; rfl) fun cdv A outer s f H vs ds d hr hR S0 => ?_
  obtain ⟨x, b, rfl, ⟨th, hn⟩, rfl⟩ := hR
  refine ⟨_, (pss_one (ps_ret (pe_and (pe_callB call_isi (by rfl) BU.isinstance_ (by decide +kernel) (pa_cons (pv 0) (pa_cons (pe_bltn (v := .ty "str") (by rfl) BU.str_ (by decide +kernel) rfl) pa_nil))) (pe_and (pe_cmpR op_le (pe_callB call_len_str (by rfl) BU.len_ PySem.boot_len (pa_cons (pv 0) pa_nil)) pe_int (nomark _)) (pe_and (pe_cmpR op_notIn_sign pe_str (pv 0) rfl) (pe_one (pe_cmpR op_notIn_sign pe_str (pv 0) rfl))))))), fun nx Q kn kr => ?_⟩
  try dsimp only [cxOf]
  generalize start _ vs = σ at *
  have S1 : Sl K H [some x] σ := S0
  rcases th with ⟨l, rfl, hl, rfl⟩ | ⟨rfl | ⟨i, rfl⟩, rfl⟩
  · refine s_ret (d := .bl (nameB l)) (Ev.to (ev_andV (a := true) (b := decide ((l.length : Int) ≤ 40) && (!decide (10 ∈ l) && !decide (9 ∈ l))) (by walk_at "ev") fun _ => ev_andV (ev_le (ev_lenS (ev_var S1 (i := 0) (by rfl)) (by omega)) ev_int) fun _ => ev_andV (ev_notInC (a := 10) (Ev.to ev_str rfl) (ev_var S1 (i := 0) (by rfl))) fun _ => ev_notInC (a := 9) (Ev.to ev_str rfl) (ev_var S1 (i := 0) (by rfl))) ?_) kr
    cases q : nameB l with
    | true =>
      obtain ⟨h1, h2⟩ := nameB_iff.mp q
      rw [decide_eq_true (by omega), decide_eq_false (fun z => by have := (h2 10 z).1; omega), decide_eq_false (fun z => by have := (h2 9 z).1; omega)]; rfl
    | false =>
      rcases hn l rfl q with h | h | h
      · rw [decide_eq_false (by omega)]; rfl
      · rw [decide_eq_true h]; cases decide ((l.length : Int) ≤ 40) <;> rfl
      · rw [decide_eq_true h]; cases decide ((l.length : Int) ≤ 40) <;> cases decide (10 ∈ l) <;> rfl
  · exact s_ret (d := .bl false) (Ev.to (ev_andV (a := false) (b := true) (by walk_at "ev") fun z => nomatch z) rfl) kr
  · exact s_ret (d := .bl false) (Ev.to (ev_andV (a := false) (b := true) (by walk_at "ev") fun z => nomatch z) rfl) kr
end
end Rt

namespace Rt
open PySem PySem.Spec PyProof.Rows L2
section
variable {P : Program} {w : World} {K : PySem.W.Frag} {mg : Str → Option Value} {base : Heap}
def SpTree (K : PySem.W.Frag) (C : Addr) : Sp := fun vs H Q _ => ∃ p g past, vs = [.ref p] ∧ TrailAt K C H p g past ∧ ∀ v H', Same H H' → Dt K H' (OT.d g) v → Q v H'
theorem met_tree {CTrail : Addr} (F : MDfn K CTrail "tree" "Trail.tree" s_Trail_tree ["self"]) (BU : Bl mg) (x_Trail : TrC K mg CTrail) : MetX P w K mg base CX0 1 CTrail "tree" (SpTree K CTrail) := by
  refine met_sp F sc_Trail_tree (fun vs H Q E h => by obtain ⟨p, g, past, rfl, _⟩ := h; rfl) fun cdv A outer s f H vs Q E hr h => ?_
  obtain ⟨p, g, past, rfl, ht, k⟩ := h
  have S0 : Sl K H [some (.raw (.ref p))] (start ["self"] [.ref p]) := ⟨_, _, rfl, rfl, rfl⟩
  refine ⟨_, (pss_one (ps_ret (pe_fld (pv 0) rfl))), ?_⟩
  try dsimp only [cxOf]
  generalize start _ [V.ref p] = σ at *
  exact s_ret (ev_fldG x_Trail (ev_var S0 (by rfl)) ht) k
end
end Rt

namespace Rt
open PySem PySem.Spec PyProof.Rows L2
section
variable {P : Program} {w : World} {K : PySem.W.Frag} {mg : Str → Option Value} {base : Heap}
/-- a heap without some of its addresses -/
def hide (A : List Addr) (H : Hp) : Hp := fun b => if b ∈ A then none else H b
theorem hide_same {A : List Addr} {H : Hp} : Same (hide A H) H := fun b o h => by
  unfold hide at h
  by_cases q : b ∈ A
  · rw [if_pos q] at h; cases h
  · rw [if_neg q] at h; exact h
theorem hide_none {A : List Addr} {H : Hp} {a : Addr} (h : a ∈ A) : hide A H a = none := if_pos h
theorem hide_at {A : List Addr} {H : Hp} {a : Addr} (h : a ∉ A) : hide A H a = H a := if_neg h
theorem hide_mono {A : List Addr} {H H' : Hp} (h : ∀ b o, b ∉ A → H b = some o → H' b = some o) : Same (hide A H) (hide A H') := fun b o e => by
  by_cases q : b ∈ A
  · rw [hide_none q] at e; cases e
  · rw [hide_at q] at e ⊢; exact h b o q e
theorem hide_sub {A B : List Addr} {H H' : Hp} (s : Same H H') (h : ∀ b, b ∈ B → b ∈ A ∨ H b = none) : Same (hide A H) (hide B H') := fun b o e => by
  by_cases q : b ∈ A
  · rw [hide_none q] at e; cases e
  · rw [hide_at q] at e
    have : b ∉ B := fun z => by
      rcases h b z with y | y
      · exact q y
      · rw [y] at e; cases e
    rw [hide_at this]; exact s b o e
section
variable {σ : L2.St} {H HH : Hp} {ta tb te : TE} {E : Ends} {tu tv : TS} {C p l L : Addr} {g t : OT} {past : List OT} {rows : Rows} {d : D} {ds : List D} {vs : List V} {sl : List (Option D)}
theorem q_asgP {j : Nat} (S : Sl K HH sl σ) (h : EvP te σ H fun v H' => Dt K HH d v) (k : ∀ σ' H', Same H H' → Sl K HH (sl.set j (some d)) σ' → tu E σ' H') : tSeq (tAsg te (gName j)) tu E σ H :=
  h H (Same.refl H) _ fun v H1 e hv => k _ H1 e (S.set j hv)
theorem ev_ixP {i : Int} (s : Same HH H) (ha : Ev K ta σ H (.raw (.ref L))) (hL : HH L = some (.lst vs)) (hd : Dts K HH ds vs) (hb : Ev K tb σ H (.int i)) (h : atI ds i = some d) : EvP (tOp (rIxL K) ta tb) σ H fun v H' => Dt K HH d v := fun H1 a Q q =>
  ha H1 a _ fun x H2 e2 hx => hb H2 (a.trans e2) _ fun y H3 e3 hy => by
    obtain ⟨v, h4, h5⟩ := atI_dts hd h
    exact ⟨L, vs, i, v, hx, hy, SqL.of (e3 _ _ (e2 _ _ (a _ _ (s _ _ hL)))), h4, q v H3 (e2.trans e3) h5⟩
theorem s_forRG {j m : Nat} {ta : TA} {n : Int} {Inv : Nat → L2.St → Hp → Prop} (h : EvA K ta σ H [.int n]) (hm : m = n.toNat) (hn : n ≤ 100000 ∧ -100000 ≤ n) (p0 : ∀ H1, Same H H1 → Inv 0 σ H1)
    (step : ∀ i σ' H' (N : L2.St → Hp → Prop), i < m → Inv i σ' H' → (∀ σ2 H2, Inv (i + 1) σ2 H2 → N σ2 H2) → tu { E with nx := N, ct := N, bk := E.nx } (σ'.set j (some (.int (i : Int)))) H') (done : ∀ σ' H', Inv m σ' H' → E.nx σ' H') : tFor (iRng1 ta) (gName j) tu E σ H :=
  h H (Same.refl H) _ fun vs H1 s1 ⟨v, r, e1, e2, e3⟩ => ⟨n, by rw [e1, show v = .int n from e2, show r = [] from e3], by omega, by omega, for_range (lo := 0) (n := n.toNat) Inv (p0 H1 s1)
    (fun i σ' H' hi p => by
      have e0 : (0 : Int) + (i : Int) = (i : Int) := Int.zero_add _
      rw [e0]
      exact step i σ' H' _ (by omega) p fun _ _ q => q)
    (fun σ' H' p => by rw [← hm] at p; exact done σ' H' p)⟩
theorem q_forRG {j m : Nat} {ta : TA} {n : Int} {Inv : Nat → L2.St → Hp → Prop} (h : EvA K ta σ H [.int n]) (hm : m = n.toNat) (hn : n ≤ 100000 ∧ -100000 ≤ n) (p0 : ∀ H1, Same H H1 → Inv 0 σ H1)
    (step : ∀ i σ' H' (N : L2.St → Hp → Prop), i < m → Inv i σ' H' → (∀ σ2 H2, Inv (i + 1) σ2 H2 → N σ2 H2) → tu { E with nx := N, ct := N, bk := tv E } (σ'.set j (some (.int (i : Int)))) H') (done : ∀ σ' H', Inv m σ' H' → tv E σ' H') : tSeq (tFor (iRng1 ta) (gName j) tu) tv E σ H :=
  s_forRG (E := { E with nx := tv E }) h hm hn p0 step done
theorem ev_tree {E' : XK} (ha : Ev K ta σ H (.raw (.ref p))) (ht : TrAt K C H p l g past) : Ev K (tMeth C "tree" (SpTree K C) [] E' ta tNil) σ H (OT.d g) := fun H1 a Q q =>
  ha H1 a _ fun x H2 e2 hx => by
    have t2 := ht.mono (a.trans e2)
    obtain ⟨dx, vg, vs, h1, h2, h3, h4⟩ := t2.ex
    exact ⟨p, dx, _, hx, h1, tf_noM (by decide +kernel) (by decide +kernel) _ _, p, g, past, by rw [show x = .ref p from hx]; rfl, t2.tr, fun v H3 e3 hv => q v H3 (e2.trans e3) hv⟩
theorem ev_tr {past : List OT} (ha : Ev K ta σ H (.raw (.ref p))) (ht : TrAt K C H p l g past) : EvTr K C ta σ H g past := fun H1 a Q q => ha H1 a _ fun v H2 e2 hv => q v H2 e2 ⟨p, hv, (ht.mono (a.trans e2)).tr⟩
theorem en_all {E' : XK} {CNo : Addr} (ha : Ev K ta σ H (.raw (.ref p))) (he : Ev K te σ H (.str [])) (ht : TrAt K C H p l g past) (ok : TrOk g rows) : EvN K (tMeth C "told" (SpTold K C CNo) [] E' ta (tCons te tNil)) σ H (rows.map rowD) := by
  have := en_told (CNo := CNo) (E := E') (ev_tr ha ht) he ok.rep ok.tb (by decide) (show nameB [] = true from rfl)
  rw [below_nil] at this
  exact this
/-- back() is not None -/
theorem q_back {E' : XK} {CND : Addr} {r : List OT} (ha : Ev K ta σ H (.raw (.ref p))) (ht : TrAt K C H p l g (r ++ [t])) (hz : (r ++ [t]).length ≤ 10000) (k : ∀ H', Keep2 p l H H' → TrAt K C H' p l t r → tv E σ H') :
    tSeq (tIfS (tTest (tOp (fun x y H Q => y = .non ∧ Q (.bl (!decide (x = .non))) H) (tMeth C "back" (SpBack K C CND) [] E' ta tNil) (tC .non))) tu tNext) tv E σ H :=
  ha H (Same.refl H) _ fun x H1 e1 hx => by
    have t1 := ht.mono e1
    obtain ⟨dx, vg, vs, h1, h2, h3, h4⟩ := t1.ex
    refine ⟨p, dx, _, hx, h1, tf_noM (by decide +kernel) (by decide +kernel) _ _, p, l, g, r ++ [t], by rw [show x = .ref p from hx]; rfl, t1, hz, (fun z => by cases r <;> cases z), fun r' t' e H' k2 t2 => ?_⟩
    obtain ⟨e1', e2'⟩ := List.append_inj' e rfl
    cases e2'
    subst e1'
    exact ⟨rfl, false, rfl, k H' (same_k2 e1 k2) t2⟩
end
theorem TrOk.al {g : OT} {rows : Rows} (h : TrOk g rows) : D.al 128 (OT.d g) ∧ D.al 128 (.lst (rows.map rowD)) := ⟨D.al_mono (h.fine.al h.rep) (by decide), D.al_mono (rows_al h.fine.ok (by have := h.cnt; omega)) (by decide)⟩
end
end Rt

namespace Rt
open PySem PySem.Spec PyProof.Rows L2
section
variable {P : Program} {w : World} {K : PySem.W.Frag} {mg : Str → Option Value} {base : Heap}
structure DOk (R : Rows) : Prop where
  dis : Dis R
  ok : ∀ p ∈ R, okT p.1
  len : ∀ p ∈ R, p.1.length ≤ 40
  cnt : R.length ≤ 100
def preB (x : Tx) (p : Tx × Int) : Bool := decide (p.1.take x.length = x)
def grpR (R : Rows) (x : Tx) : Rows := (srtR R).filter (preB x)
def newT (x z y : Tx) : Tx := z ++ y.drop x.length
def keptR (R : Rows) (x : Tx) (stay : Bool) : Rows := R.filter fun p => stay || !preB x p
def brF (R : Rows) (x z : Tx) (stay : Bool) : Tx × D × Rows :=
  if grpR R x = [] then (tx "not there", .bl true, R)
  else if (grpR R x).any (fun p => decide (40 < (newT x z p.1).length)) then (tx "too long", .bl true, R)
  else if (grpR R x).any (fun p => (lookD (keptR R x stay) (newT x z p.1)).isSome) then (tx "taken", .bl true, R)
  else if 100 < (keptR R x stay).length + (grpR R x).length then (tx "too many", .bl true, R)
  else (tx "told", .int ((grpR R x).length : Int), keptR R x stay ++ (grpR R x).map fun p => (newT x z p.1, p.2))
theorem tupK_hide1 {a : Addr} {H : Hp} {kv : List (Key × V)} (h : H a = some (.dK kv)) : TupK H (hide1 a H) := by
  refine ⟨fun b xs e => ?_, fun b o u e => ?_⟩
  · rw [hide1_at fun z => ?_]
    · exact e
    · rw [z, h] at e; cases e
  · rw [hide1_at fun z => ?_]
    · exact e
    · rw [z, h] at e; cases e
theorem hide1_mono {a : Addr} {H H' : Hp} (e : Same H H') : Same (hide1 a H) (hide1 a H') := fun b o h => by
  by_cases q : b = a
  · rw [q, hide1_none] at h; cases h
  · rw [hide1_at q] at h ⊢; exact e _ _ h
theorem same_into {a : Addr} {HH H : Hp} (s : Same HH H) (n : HH a = none) : Same HH (hide1 a H) := fun b o h => by
  rw [hide1_at (ne_of_none h n)]; exact s _ _ h
theorem same_back {a : Addr} {H H' : Hp} {o : HO} (s : Same (hide1 a H) H') (h : H a = some o) (h' : H' a = some o) : Same H H' := fun b u e => by
  by_cases q : b = a
  · rw [q, h] at e; cases e; rw [q]; exact h'
  · exact s b u (by rw [hide1_at q]; exact e)
theorem dts_intsV {H : Hp} : ∀ {cs : List Int} {vs : List V}, Dts K H (cs.map D.int) vs → vs = cs.map V.int
  | [], _, h => h
  | c :: r, _, ⟨v, ws, h1, h2, h3⟩ => by rw [h1, show v = .int c from h2, dts_intsV h3]; rfl
section
variable {σ : L2.St} {H HH : Hp} {ta te : TE} {E : Ends} {tu : TS} {sl : List (Option D)} {a : Addr}
theorem q_asgHs {i : Nat} {es : List D} {kv : List (Key × V)} (S : Sl K HH sl σ) (s : Same HH H) (n : HH a = none) (hat : H a = some (.dK kv)) (im : D.imms es = true) (h : EvN K te σ H es) (k : ∀ σ' H' HH', Same H H' → Same HH HH' → Same HH' H' → HH' a = none → Sl K HH' (sl.set i (some (.lst es))) σ' → tu E σ' H') :
    tSeq (tAsg te (gName i)) tu E σ H := q_asgNs h fun p vs H' hp e hp2 hd => by
  have np : p ≠ a := fun z => by rw [z, hat] at hp; cases hp
  have hat' := e _ _ hat
  exact k _ H' (hide1 a H') e (same_into (s.trans e) n) hide1_same hide1_none ((S.mono (same_into (s.trans e) n)).set i (d := .lst es) (v := .ref p) ⟨p, vs, rfl, by rw [hide1_at np]; exact hp2, Dts.tupK (tupK_hide1 hat') _ im hd⟩)
theorem h_had {j : Nat} {x : Option Int} (S : Sl K HH sl σ) (h : Ev K te σ H (optD x)) (k : ∀ σ' H', Same H H' → Sl K HH (sl.set j (some (optD x))) σ' → tu E σ' H') : tSeq (tAsg te (gName j)) tu E σ H :=
  h H (Same.refl H) _ fun v H1 e hv => k _ H1 e (S.set (d := optD x) j (by cases x <;> exact hv))
/-- over a list, no list changes -/
theorem s_forLV {tl : TE} {ds : List D} {j : Nat} {Inv : Hp → Nat → L2.St → Hp → Prop} (h : Ev K tl σ H (.lst ds)) (p0 : ∀ H1, Same H H1 → Inv H1 0 σ H1) (hs : ∀ H1 i σ' H', Inv H1 i σ' H' → Same H1 H')
    (step : ∀ H1 i d v σ' H' (N : L2.St → Hp → Prop), ds[i]? = some d → Inv H1 i σ' H' → Dt K H' d v → (∀ σ2 H2, Inv H1 (i + 1) σ2 H2 → N σ2 H2) → tu { E with nx := N, ct := N, bk := E.nx } (σ'.set j (some v)) H') (done : ∀ H1 σ' H', Inv H1 ds.length σ' H' → E.nx σ' H') : tFor (iList K tl) (gName j) tu E σ H :=
  h H (Same.refl H) _ fun v H1 e1 ⟨b, vs, h1, h2, h3⟩ => ⟨b, h1, ⟨vs, SqL.of h2⟩, for_list (xs := vs) (fun i σ' H' => Inv H1 i σ' H') (p0 H1 e1) (fun i σ' H' _ p => SqL.of (hs _ _ _ _ p _ _ h2))
    (fun i x σ' H' hx p => by
      obtain ⟨d, hd, hv⟩ := (Dts.mono (hs _ _ _ _ p) _ h3).getv hx
      exact step H1 i d x σ' H' _ hd p hv fun _ _ q => q) (fun σ' H' p => by rw [h3.len] at p; exact done _ σ' H' p)⟩
theorem q_forLV {tl : TE} {tv : TS} {ds : List D} {j : Nat} {Inv : Hp → Nat → L2.St → Hp → Prop} (h : Ev K tl σ H (.lst ds)) (p0 : ∀ H1, Same H H1 → Inv H1 0 σ H1) (hs : ∀ H1 i σ' H', Inv H1 i σ' H' → Same H1 H')
    (step : ∀ H1 i d v σ' H' (N : L2.St → Hp → Prop), ds[i]? = some d → Inv H1 i σ' H' → Dt K H' d v → (∀ σ2 H2, Inv H1 (i + 1) σ2 H2 → N σ2 H2) → tu { E with nx := N, ct := N, bk := tv E } (σ'.set j (some v)) H') (done : ∀ H1 σ' H', Inv H1 ds.length σ' H' → tv E σ' H') : tSeq (tFor (iList K tl) (gName j) tu) tv E σ H := s_forLV (E := { E with nx := tv E }) h p0 hs step done
theorem ev_max {ns : List Int} {m : Int} (ha : Ev K ta σ H (.lst (ns.map D.int))) (hm : m ∈ ns) (hx : ∀ y ∈ ns, y ≤ m) : Ev K (tCB (rMax K) (tCons ta tNil)) σ H (.int m) :=
  ev_cb (ea_cons ha ea_nil) fun vs H1 _ ⟨v, r, h1, ⟨a, ws, e1, e2, e3⟩, h3⟩ Q q => by
    have ew : ws = ns.map V.int := dts_intsV e3
    refine ⟨a, ns, by rw [h1, e1, show r = [] from h3], SqL.of (by rw [← ew]; exact e2), List.length_pos_of_mem hm, fun m' hm' hx' => ?_⟩
    have : m' = m := Int.le_antisymm (hx m' hm') (hx' m hm)
    rw [this]; exact q _ _ (Same.refl _) rfl
end
theorem exists_max : ∀ {ns : List Int}, ns ≠ [] → ∃ m ∈ ns, ∀ y ∈ ns, y ≤ m
  | [], h => absurd rfl h
  | [a], _ => ⟨a, List.mem_cons_self, fun y hy => by rw [List.mem_singleton.mp hy]; exact Int.le_refl _⟩
  | a :: b :: r, _ => by
    obtain ⟨m, hm, hx⟩ := exists_max (ns := b :: r) (by simp)
    by_cases q : a ≤ m
    · refine ⟨m, List.mem_cons_of_mem _ hm, fun y hy => ?_⟩
      rcases List.mem_cons.mp hy with h | h
      · rw [h]; exact q
      · exact hx y h
    · refine ⟨a, List.mem_cons_self, fun y hy => ?_⟩
      rcases List.mem_cons.mp hy with h | h
      · rw [h]; exact Int.le_refl _
      · have := hx y h; omega
theorem srt_lt {R : Rows} (h : Dis R) : (nms (srtR R)).Pairwise (· < ·) := by
  unfold nms
  exact List.pairwise_map.mpr (srtR_srt h)
theorem nms_perm (R : Rows) : (nms (srtR R)).Perm (R.map fun p => p.1) := (srtR_perm R).map _
theorem grp_nms (R : Rows) (x : Tx) : (nms (srtR R)).filter (fun y => decide (y.take x.length = x)) = nms (grpR R x) := by
  unfold nms grpR
  rw [List.filter_map]; rfl
theorem grp_sub {R : Rows} {x : Tx} {p : Tx × Int} (h : p ∈ grpR R x) : p ∈ R := (srtR_perm R).mem_iff.mp (List.mem_filter.mp h).1
theorem grp_pre {R : Rows} {x : Tx} {p : Tx × Int} (h : p ∈ grpR R x) : p.1.take x.length = x := of_decide_eq_true (List.mem_filter.mp h).2
def SpBr12 (K : PySem.W.Frag) : Sp := fun vs H Q _ => ∃ a R x z stay, vs = [.ref a, .str (S x), .str (S z), .bl stay] ∧ H a = some (.dK (kvR R)) ∧ DOk R ∧ x.length ≤ 1000 ∧ z.length ≤ 1000 ∧
  ∀ v H' a', Same H H' → (a' = a ∨ H a' = none) → H' a' = some (.dK (kvR (brF R x z stay).2.2)) → Dt K H' (.tup [.str (brF R x z stay).1, (brF R x z stay).2.1, .raw (.ref a')]) v → Q v H'
theorem cal_branch12 (F : Dfn K mg "_law_branch" s__law_branch ["_law_plain", "_law_one", "_law_other", "_law_stay"]) (BU : Bl mg) : Cal P w K mg base CX0 1 "_law_branch" (SpBr12 K) := by
  refine cal_sp F sc__law_branch (fun vs H Q E h => by obtain ⟨a, R, x, z, stay, rfl, _⟩ := h; rfl) fun cdv A outer s f H vs Q E hr h => ?_
  obtain ⟨a, R, x, z, stay, rfl, hat, ok, hx, hz, k⟩ := h
  refine ⟨_, (pss_cons (ps_setLc (i := 4) (own := [("_law_name", 5)]) (g := gName 5) (by rfl) sc__law_branch.nd rfl rfl (sw_true rfl rfl rfl (by decide +kernel)) (pi_list (pe_callB (call_sortedDA (by rfl)) (by rfl) BU.sorted_ (by decide +kernel) (pa_cons (pv 0) pa_nil))) (blkOk_by (own := [("_law_name", 5)]) (N := N__law_branch) (sc := defScope s__law_branch) (by decide +kernel)) (fun _ _ _ _ _ => pg_name (i := 5) sc__law_branch.nd rfl (Or.inl rfl)) (fun _ _ _ _ _ => (pts_one (pt_cmpR op_eq (pe_slice sl_str (pv 5) po_none (po_some (pe_callB call_len_str (by rfl) BU.len_ PySem.boot_len (pa_cons (pv 1) pa_nil)))) (pv 1) (nomark _)))) (fun _ _ _ _ _ => (pv 5))) (pss_cons (ps_if (pt_cmpR (op_eqD hr.units) (pv 4) (pe_lst pa_nil) (nomark _)) (pss_one (ps_ret (pe_tup (pa_cons pe_str (pa_cons pe_bl (pa_cons (pv 0) pa_nil)))))) pss_nil) (pss_cons (ps_setLc (i := 6) (own := [("_law_name", 5)]) (g := gName 5) (by rfl) sc__law_branch.nd rfl rfl (sw_true rfl rfl rfl (by decide +kernel)) (pi_list (pv 4)) (blkOk_by (own := [("_law_name", 5)]) (N := N__law_branch) (sc := defScope s__law_branch) (by decide +kernel)) (fun _ _ _ _ _ => pg_name (i := 5) sc__law_branch.nd rfl (Or.inl rfl)) (fun _ _ _ _ _ => pts_nil) (fun _ _ _ _ _ => (pe_op op_add_str (pv 2) (pe_slice sl_str (pv 5) (po_some (pe_callB call_len_str (by rfl) BU.len_ PySem.boot_len (pa_cons (pv 1) pa_nil))) po_none)))) (pss_cons (ps_if (pt_cmpR op_gt (pe_callB (cr_max (by rfl)) (by rfl) BU.max_ (by decide +kernel) (pa_cons (pe_lc (own := [("_law_name", 5)]) (g := gName 5) (by rfl) sc__law_branch.nd (pi_list (pv 6)) (blkOk_by (own := [("_law_name", 5)]) (N := N__law_branch) (sc := defScope s__law_branch) (by decide +kernel)) (fun _ _ _ _ _ => pg_name (i := 5) sc__law_branch.nd rfl (Or.inl rfl)) (fun _ _ _ _ _ => pts_nil) (fun _ _ _ _ _ => (pe_callB call_len_str (by rfl) BU.len_ PySem.boot_len (pa_cons (pv 5) pa_nil)))) pa_nil)) pe_int (nomark _)) (pss_one (ps_ret (pe_tup (pa_cons pe_str (pa_cons pe_bl (pa_cons (pv 0) pa_nil)))))) pss_nil) (pss_cons (ps_set (i := 7) sc__law_branch.nd rfl (Or.inl rfl) pe_dnewK) (pss_cons (ps_lock (ps_for PassesOwn.never rfl (pi_keys (pv 0)) (pg_name (i := 5) sc__law_branch.nd rfl (Or.inl rfl)) (pss_one (ps_if (PW.pt (pw_or (pt_val (pv 3)) (pw_or1 (pt_cmpR op_ne (pe_slice sl_str (pv 5) po_none (po_some (pe_callB call_len_str (by rfl) BU.len_ PySem.boot_len (pa_cons (pv 1) pa_nil)))) (pv 1) (nomark _))))) (pss_one (ps_dput (hu_of hr) (pv 7) (pv 5) (pe_dget (hu_of hr) (pv 0) (pv 5) (fun _ _ => rfl)) rfl)) pss_nil)))) (pss_cons (ps_for PassesOwn.never rfl (pi_list (pv 6)) (pg_name (i := 5) sc__law_branch.nd rfl (Or.inl rfl)) (pss_one (ps_if (pt_cmp (pc_dinN (hu_of hr) (pv 5) (pv 7))) (pss_one (ps_ret (pe_tup (pa_cons pe_str (pa_cons pe_bl (pa_cons (pv 0) pa_nil)))))) pss_nil))) (pss_cons (ps_if (pt_cmpR op_gt (pe_op op_add (pe_callB call_lenD (by rfl) BU.len_ PySem.boot_len (pa_cons (pv 7) pa_nil)) (pe_callB call_len_seq (by rfl) BU.len_ PySem.boot_len (pa_cons (pv 6) pa_nil))) pe_int (nomark _)) (pss_one (ps_ret (pe_tup (pa_cons pe_str (pa_cons pe_bl (pa_cons (pv 0) pa_nil)))))) pss_nil) (pss_cons (ps_for PassesOwn.never rfl (pi_range1 (by rfl) BU.range_ (pa_cons (pe_callB call_len_seq (by rfl) BU.len_ PySem.boot_len (pa_cons (pv 4) pa_nil)) pa_nil)) (pg_name (i := 8) sc__law_branch.nd rfl (Or.inl rfl)) (pss_one (ps_dput (hu_of hr) (pv 7) (pe_ix ix_list (pv 6) (pv 8) (fun _ _ => rfl)) (pe_dget (hu_of hr) (pv 0) (pe_ix ix_list (pv 4) (pv 8) (fun _ _ => rfl)) (fun _ _ => rfl)) rfl))) (pss_one (ps_ret (pe_tup (pa_cons pe_str (pa_cons (pe_callB call_len_seq (by rfl) BU.len_ PySem.boot_len (pa_cons (pv 4) pa_nil)) (pa_cons (pv 7) pa_nil))))))))))))))), ?_⟩
  try dsimp only [cxOf]
  have S0 : Sl K (hide1 a H) [some (.raw (.ref a)), some (.str x), some (.str z), some (.bl stay), none, none, none, none, none] (start ["_law_plain", "_law_one", "_law_other", "_law_stay", "_law_group", "_law_name", "_law_fresh", "_law_grown", "_law_k"] [.ref a, .str (S x), .str (S z), .bl stay]) := ⟨_, _, rfl, rfl, _, _, rfl, rfl, _, _, rfl, rfl, _, _, rfl, rfl, none, _, rfl, none, _, rfl, none, _, rfl, none, _, rfl, none, _, rfl, rfl⟩
  generalize start _ [V.ref a, V.str (S x), V.str (S z), V.bl stay] = σ at *
  have hcn := ok.cnt
  have hlen : ∀ y ∈ nms (srtR R), y.length ≤ 40 := fun y hy => by
    obtain ⟨n, hn⟩ := mem_nms.mp hy
    exact ok.len _ ((srtR_perm R).mem_iff.mp hn)
  have hsl : (nms (srtR R)).length ≤ 100 := by unfold nms; rw [List.length_map, (srtR_perm R).length_eq]; exact hcn
  have S0h := S0.mono hide1_same
  have hgl : (grpR R x).length ≤ 100 := Nat.le_trans (List.length_filter_le _ _) (by rw [(srtR_perm R).length_eq]; exact hcn)
  have hret : ∀ {w : Tx} {d : D}, brF R x z stay = (w, d, R) → ∀ v H', Same (hide1 a H) H' → H' a = some (.dK (kvR R)) → Dt K H' (.tup [.str w, d, .raw (.ref a)]) v → Q v H' := fun e v H' s' h' hv => k v H' a (same_back s' hat h') (.inl rfl) (by rw [e]; exact h') (by rw [e]; exact hv)
  refine q_asgHs (a := a) S0 hide1_same hide1_none hat (D.imms_map fun _ _ => rfl) (EvN.to (en_lcL (enc := D.str) (es := nms (srtR R)) (fun y => decide (y.take x.length = x)) D.str (en_dsort (ev_var S0h (i := 0) (by rfl)) (.inl hat) (by omega) (nms_perm R) (srt_lt ok.dis)).ev S0h (by omega) (fun y hy σ' H' e S' => EvT.to (by have := hlen y hy; walk_at "ev") (by rw [cutL_to])) (fun y hy _ σ' H' e S' => by walk_at "ev") (fun _ _ _ => rfl)) (by rw [grp_nms])) fun σ1 H1 HH1 e1 s1 t1 n1 S1 => ?_
  have S1' : Sl K HH1 [some (.raw (.ref a)), some (.str x), some (.str z), some (.bl stay), some (.lst ((nms (grpR R x)).map D.str)), none, none, none, none] σ1 := S1
  have S1h := S1'.mono t1
  have hgd : (D.lst ((nms (grpR R x)).map D.str)).gd 1 := fun d m => by
    obtain ⟨y, hy, rfl⟩ := List.mem_map.mp m
    obtain ⟨n, hn⟩ := mem_nms.mp hy
    exact okT_cps (ok.ok _ (grp_sub hn))
  refine q_if0 (b := (nms (grpR R x)).isEmpty) (et_test (Ev.to (ev_eqNil (ev_var S1h (i := 4) (by rfl)) hgd (by decide)) (by rw [map_isEmpty]))) (fun q H2 e2 => ?_) (fun q H2 e2 => ?_)
  · have hg : grpR R x = [] := by
      have := (isE).mp q
      exact List.map_eq_nil_iff.mp this
    refine s_ret (d := .tup [.str (tx "not there"), .bl true, .raw (.ref a)]) (ev_tup (ea_cons (Ev.to ev_str rfl) (ea_cons ev_bl (ea_cons (ev_var (S1h.mono e2) (i := 0) (by rfl)) ea_nil))) (by show 3 ≤ 100000; decide)) fun v H3 e3 hv => hret (by unfold brF; rw [if_pos hg]) v H3 (s1.trans (t1.trans (e2.trans e3))) ((e1.trans (e2.trans e3)) _ _ hat) hv
  have hg : ¬ grpR R x = [] := fun z => by
    rw [z] at q
    cases q
  have hat2 := (e1.trans e2) _ _ hat
  have t2 := t1.trans e2
  have S2h := S1'.mono t2
  have hgn : ∀ y ∈ nms (grpR R x), y.length ≤ 40 := fun y hy => by
    obtain ⟨n, hn⟩ := mem_nms.mp hy
    exact ok.len _ (grp_sub hn)
  have hgln : (nms (grpR R x)).length ≤ 100 := by unfold nms; rw [List.length_map]; exact hgl
  refine q_asgHs (a := a) S1' t2 n1 hat2 (D.imms_map fun _ _ => rfl) (EvN.to (en_lcL (enc := D.str) (es := nms (grpR R x)) (fun _ => true) (fun y => .str (newT x z y)) (ev_var S2h (i := 4) (by rfl)) S2h (by omega) (fun y hy σ' H' e S' => et_yes) (fun y hy _ σ' H' e S' => by
    have := hgn y hy
    have S5 : Sl K H' [some (.raw (.ref a)), some (.str x), some (.str z), some (.bl stay), some (.lst ((nms (grpR R x)).map D.str)), some (.str y), none, none, none] σ' := S'
    exact ev_addS (ev_var S5 (i := 2) (by rfl)) (ev_slFrom x.length (ev_var S5 (i := 5) (by rfl)) (ev_lenS (ev_var S5 (i := 1) (by rfl)) (by omega)) rfl (by omega)) (by rw [List.length_drop]; omega)) (fun _ _ _ => rfl)) (es := ((grpR R x).map fun p => newT x z p.1).map D.str) (by rw [filt_all]; unfold nms; rw [List.map_map, List.map_map]; rfl)) fun σ3 H3 HH3 e3 s3 t3 n3 S3 => ?_
  have S3' : Sl K HH3 [some (.raw (.ref a)), some (.str x), some (.str z), some (.bl stay), some (.lst ((nms (grpR R x)).map D.str)), none, some (.lst (((grpR R x).map fun p => newT x z p.1).map D.str)), none, none] σ3 := S3
  have S3h := S3'.mono t3
  have s03 := s1.trans s3
  have hat3 := e3 _ _ hat2
  have hFl : ∀ y ∈ (grpR R x).map fun p => newT x z p.1, y.length ≤ 2000 := fun y hy => by
    obtain ⟨p, hp, rfl⟩ := List.mem_map.mp hy
    have := ok.len _ (grp_sub hp)
    unfold newT
    rw [List.length_append, List.length_drop]; omega
  have hFn : ((grpR R x).map fun p => newT x z p.1).length ≤ 100 := by rw [List.length_map]; exact hgl
  obtain ⟨m, hm, hmx⟩ := exists_max (ns := ((grpR R x).map fun p => newT x z p.1).map fun y => (y.length : Int)) (by
    intro e
    exact hg (List.map_eq_nil_iff.mp (List.map_eq_nil_iff.mp e)))
  have hlong : decide ((40 : Int) < m) = (grpR R x).any (fun p => decide (40 < (newT x z p.1).length)) := by
    cases q2 : (grpR R x).any (fun p => decide (40 < (newT x z p.1).length)) with
    | true =>
      obtain ⟨p, hp, h40⟩ := List.any_eq_true.mp q2
      have h1 := hmx ((newT x z p.1).length : Int) (List.mem_map.mpr ⟨_, List.mem_map.mpr ⟨p, hp, rfl⟩, rfl⟩)
      have h2 := of_decide_eq_true h40
      exact decide_eq_true (by omega)
    | false =>
      obtain ⟨y, hy, rfl⟩ := List.mem_map.mp hm
      obtain ⟨p, hp, rfl⟩ := List.mem_map.mp hy
      have := List.any_eq_false.mp q2 p hp
      exact decide_eq_false fun h => this (decide_eq_true (by omega))
  refine q_if0 (b := decide ((40 : Int) < m)) (et_test (ev_gt (ev_max (EvN.to (en_lcL (enc := D.str) (es := (grpR R x).map fun p => newT x z p.1) (fun _ => true) (fun y => .int (y.length : Int)) (ev_var S3h (i := 6) (by rfl)) S3h (by omega) (fun y hy σ' H' e S' => et_yes) (fun y hy _ σ' H' e S' => by
    have := hFl y hy
    have S5 : Sl K H' [some (.raw (.ref a)), some (.str x), some (.str z), some (.bl stay), some (.lst ((nms (grpR R x)).map D.str)), some (.str y), some (.lst (((grpR R x).map fun p => newT x z p.1).map D.str)), none, none] σ' := S'
    exact ev_lenS (ev_var S5 (i := 5) (by rfl)) (by omega)) (fun _ _ _ => rfl)) (es := (((grpR R x).map fun p => newT x z p.1).map fun y => (y.length : Int)).map D.int) (by rw [filt_all]; simp only [List.map_map]; rfl)).ev hm hmx) ev_int)) (fun q2 H4 e4 => ?_) (fun q2 H4 e4 => ?_)
  · rw [hlong] at q2
    exact s_ret (d := .tup [.str (tx "too long"), .bl true, .raw (.ref a)]) (ev_tup (ea_cons (Ev.to ev_str rfl) (ea_cons ev_bl (ea_cons (ev_var (S3h.mono e4) (i := 0) (by rfl)) ea_nil))) (by show 3 ≤ 100000; decide)) fun v H5 e5 hv => hret (by unfold brF; rw [if_neg hg, if_pos q2]) v H5 (s03.trans (t3.trans (e4.trans e5))) ((e4.trans e5) _ _ hat3) hv
  rw [hlong] at q2
  have hlo : ¬ ((grpR R x).any (fun p => decide (40 < (newT x z p.1).length)) = true) := by rw [q2]; decide
  have hat4 := e4 _ _ hat3
  have t4 := t3.trans e4
  clear S3h S2h S1h S0h
  refine q_dnew fun g H5 hg0 e5 hg5 => ?_
  have nga : g ≠ a := fun y => by rw [y, hat4] at hg0; cases hg0
  have nHg : HH3 g = none := Same.free t4 hg0
  have hat5 := e5 _ _ hat4
  have t5 := t4.trans e5
  have S5 := S3'.set 7 (d := .raw (.ref g)) (v := .ref g) rfl
  generalize σ3.set 7 (some (V.ref g)) = σ5 at *
  have S5' : Sl K HH3 [some (.raw (.ref a)), some (.str x), some (.str z), some (.bl stay), some (.lst ((nms (grpR R x)).map D.str)), none, some (.lst (((grpR R x).map fun p => newT x z p.1).map D.str)), some (.raw (.ref g)), none] σ5 := S5
  -- the rows that stay
  refine q_forK (K := K) (R := R) (Inv := fun od i σ' H' => H' a = some (.frz od (.dK (kvR R))) ∧ H' g = some (.dK (kvR (keptR (R.take i) x stay))) ∧ Same HH3 H' ∧ ∃ z5, Sl K HH3 [some (.raw (.ref a)), some (.str x), some (.str z), some (.bl stay), some (.lst ((nms (grpR R x)).map D.str)), z5, some (.lst (((grpR R x).map fun p => newT x z p.1).map D.str)), some (.raw (.ref g)), none] σ') hat5
    (fun od => ev_var (S5'.mono (fun b o h => by rw [upd_ne (ne_of_none h n3)]; exact t5 _ _ h)) (i := 0) (by rfl))
    (fun od H6 e6 => ⟨e6 _ _ upd_same, e6 _ _ (by rw [upd_ne nga]; exact hg5), fun b o h => e6 _ _ (by rw [upd_ne (ne_of_none h n3)]; exact t5 _ _ h), none, S5'⟩) (fun od i σ' H' h => h.1) ?_ ?_
  · rintro od i p σ6 H6 E' hp ⟨ha6, hg6, t6, z5, S6⟩ kN
    have S7 : Sl K HH3 [some (.raw (.ref a)), some (.str x), some (.str z), some (.bl stay), some (.lst ((nms (grpR R x)).map D.str)), some (.str p.1), some (.lst (((grpR R x).map fun p => newT x z p.1).map D.str)), some (.raw (.ref g)), none] (σ6.set 5 (some (.str (S p.1)))) := S6.set 5 (d := .str p.1) (v := .str (S p.1)) rfl
    generalize σ6.set 5 (some (V.str (S p.1))) = σ7 at *
    have hpm := List.mem_of_getElem? hp
    have hpl := ok.len p hpm
    have S7h := S7.mono t6
    have etk : R.take (i + 1) = R.take i ++ [p] := by rw [List.take_add_one, hp]; rfl
    refine s_if (b := stay || !preB x p) (et_or (et_B (ev_var S7h (i := 3) (by rfl))) fun _ => et_test (ev_neS (ev_slTo x.length (ev_var S7h (i := 5) (by rfl)) (ev_lenS (ev_var S7h (i := 1) (by rfl)) (by omega)) rfl (by omega)) (ev_var S7h (i := 1) (by rfl)))) (fun q3 H8 e8 => ?_) (fun q3 H8 e8 => ?_)
    · have S8h := S7h.mono e8
      have hnew : lookD (keptR (R.take i) x stay) p.1 = none := lookD_none.mpr fun u hu e => by
        have hu2 := (List.mem_filter.mp hu).1
        have hd := ok.dis
        rw [show R = R.take i ++ R.drop i from (List.take_append_drop i R).symm] at hd
        have hpd : p ∈ R.drop i := by
          obtain ⟨h1, h2⟩ := List.getElem?_eq_some_iff.mp hp
          rw [List.drop_eq_getElem_cons h1, h2]; exact List.mem_cons_self
        exact (List.pairwise_append.mp hd).2.2 u hu2 p hpd e
      refine s_dput (R := keptR (R.take i) x stay) (x := p.1) (n := p.2) (ev_dget (ev_var S8h (i := 0) (by rfl)) (ev_var S8h (i := 5) (by rfl)) (.inr ⟨od, e8 _ _ ha6⟩) ((lookD_mem ok.dis).mpr hpm)) (ev_var S8h (i := 7) (by rfl)) (ev_var S8h (i := 5) (by rfl)) (e8 _ _ hg6) (Nat.le_trans (List.length_filter_le _ _) (by rw [List.length_take]; omega)) fun H9 k9 hg9 => kN _ _ ⟨k9 _ _ nga.symm (e8 _ _ ha6), ?_, fun b o h => k9 _ _ (ne_of_none h nHg) (e8 _ _ (t6 _ _ h)), _, S7⟩
      rw [hg9]
      unfold putD
      rw [hnew]
      show some (HO.dK (kvR (keptR (R.take i) x stay ++ [(p.1, p.2)]))) = _
      rw [etk]
      unfold keptR
      rw [List.filter_append, List.filter_cons_of_pos (p := fun p => stay || !preB x p) q3]; rfl
    · refine kN _ _ ⟨e8 _ _ ha6, ?_, t6.trans e8, _, S7⟩
      rw [e8 _ _ hg6, etk]
      unfold keptR
      rw [List.filter_append, List.filter_cons_of_neg (p := fun p => stay || !preB x p) (by rw [q3]; decide), List.filter_nil, List.append_nil]
  rintro od σ6 H6 ⟨ha6, hg6, t6, z5, S6⟩
  rw [List.take_of_length_le (Nat.le_refl _)] at hg6
  have t7 : Same HH3 (upd H6 a (.dK (kvR R))) := fun b o h => by rw [upd_ne (ne_of_none h n3)]; exact t6 _ _ h
  have hg7 : (upd H6 a (.dK (kvR R))) g = some (.dK (kvR (keptR R x stay))) := by rw [upd_ne nga]; exact hg6
  have hat7 : (upd H6 a (.dK (kvR R))) a = some (.dK (kvR R)) := upd_same
  generalize upd H6 a (.dK (kvR R)) = H7 at *
  have S7h := S6.mono t7
  have hkn : (keptR R x stay).length ≤ 100 := Nat.le_trans (List.length_filter_le _ _) hcn
  have hexp : ∀ q u : Tx × Int, q ∈ grpR R x → u ∈ grpR R x → newT x z q.1 = newT x z u.1 → q.1 = u.1 := fun q u hq hu e => by
    unfold newT at e
    have e1 := List.append_cancel_left e
    have h1 := List.take_append_drop x.length q.1
    have h2 := List.take_append_drop x.length u.1
    rw [grp_pre hq] at h1
    rw [grp_pre hu] at h2
    rw [← h1, ← h2, e1]
  refine q_forLV (ds := ((grpR R x).map fun p => newT x z p.1).map D.str) (Inv := fun H1 i σ' H' => Same H7 H1 ∧ Same H1 H' ∧ (∃ zz, Sl K HH3 [some (.raw (.ref a)), some (.str x), some (.str z), some (.bl stay), some (.lst ((nms (grpR R x)).map D.str)), zz, some (.lst (((grpR R x).map fun p => newT x z p.1).map D.str)), some (.raw (.ref g)), none] σ') ∧ ∀ y ∈ ((grpR R x).map fun p => newT x z p.1).take i, lookD (keptR R x stay) y = none) (ev_var S7h (i := 6) (by rfl)) (fun H1 e1 => ⟨e1, Same.refl _, ⟨_, S6⟩, fun y hy => by cases hy⟩) (fun H1 i σ' H' h => h.2.1) ?_ ?_
  · rintro H1' i d v σ8 H8 N hd ⟨e71, e8, ⟨zz, S8⟩, hno⟩ hv kN
    obtain ⟨y, hy, rfl⟩ := map_at hd
    have e78 := e71.trans e8
    have S8' : Sl K HH3 [some (.raw (.ref a)), some (.str x), some (.str z), some (.bl stay), some (.lst ((nms (grpR R x)).map D.str)), some (.str y), some (.lst (((grpR R x).map fun p => newT x z p.1).map D.str)), some (.raw (.ref g)), none] (σ8.set 5 (some v)) := S8.set 5 (d := .str y) (v := v) hv
    generalize σ8.set 5 (some v) = σ9 at *
    have t8 := t7.trans e78
    have S8h := S8'.mono t8
    refine s_if (b := (lookD (keptR R x stay) y).isSome) (et_B (ev_din (ev_var S8h (i := 5) (by rfl)) (ev_var S8h (i := 7) (by rfl)) (.inl (e78 _ _ hg7)))) (fun q3 H9 e9 => ?_) (fun q3 H9 e9 => ?_)
    · have htk : (grpR R x).any (fun p => (lookD (keptR R x stay) (newT x z p.1)).isSome) = true := by
        obtain ⟨p, hp, rfl⟩ := List.mem_map.mp (List.mem_of_getElem? hy)
        exact List.any_eq_true.mpr ⟨p, hp, q3⟩
      exact s_ret (d := .tup [.str (tx "taken"), .bl true, .raw (.ref a)]) (ev_tup (ea_cons (Ev.to ev_str rfl) (ea_cons ev_bl (ea_cons (ev_var (S8h.mono e9) (i := 0) (by rfl)) ea_nil))) (by show 3 ≤ 100000; decide)) fun v H10 e10 hv => hret (by unfold brF; rw [if_neg hg, if_neg hlo, if_pos htk]) v H10 (s03.trans (t8.trans (e9.trans e10))) ((e78.trans (e9.trans e10)) _ _ hat7) hv
    · refine kN _ _ ⟨e71, e8.trans e9, ⟨_, S8'⟩, fun u hu => ?_⟩
      rw [List.take_add_one, hy] at hu
      rcases List.mem_append.mp hu with hu | hu
      · exact hno u hu
      · rw [List.mem_singleton.mp hu]
        cases q4 : lookD (keptR R x stay) y with
        | none => rfl
        | some n => rw [q4] at q3; cases q3
  rintro H1' σ8 H8 ⟨e71, e81, ⟨zz, S8⟩, hno⟩
  have e8 := e71.trans e81
  rw [List.length_map, List.take_of_length_le (Nat.le_refl _)] at hno
  have hnt : ¬ ((grpR R x).any (fun p => (lookD (keptR R x stay) (newT x z p.1)).isSome) = true) := fun h => by
    obtain ⟨p, hp, q3⟩ := List.any_eq_true.mp h
    rw [hno _ (List.mem_map.mpr ⟨p, hp, rfl⟩)] at q3
    cases q3
  have hg8 := e8 _ _ hg7
  have hat8 := e8 _ _ hat7
  have t8 := t7.trans e8
  have S8h := S8.mono t8
  refine q_if0 (b := decide ((100 : Int) < ((keptR R x stay).length : Int) + ((grpR R x).length : Int))) (et_test (ev_gt (ev_add (ev_dlen (ev_var S8h (i := 7) (by rfl)) hg8) (Ev.to (ev_lenL (ev_var S8h (i := 6) (by rfl))) (by rw [List.length_map, List.length_map]))) ev_int)) (fun q3 H9 e9 => ?_) (fun q3 H9 e9 => ?_)
  · have q4 := of_decide_eq_true q3
    exact s_ret (d := .tup [.str (tx "too many"), .bl true, .raw (.ref a)]) (ev_tup (ea_cons (Ev.to ev_str rfl) (ea_cons ev_bl (ea_cons (ev_var (S8h.mono e9) (i := 0) (by rfl)) ea_nil))) (by show 3 ≤ 100000; decide)) fun v H10 e10 hv => hret (by unfold brF; rw [if_neg hg, if_neg hlo, if_neg hnt, if_pos (by omega)]) v H10 (s03.trans (t8.trans (e9.trans e10))) ((e9.trans e10) _ _ hat8) hv
  have q4 := of_decide_eq_false q3
  have ebr : brF R x z stay = (tx "told", .int ((grpR R x).length : Int), keptR R x stay ++ (grpR R x).map fun p => (newT x z p.1, p.2)) := by
    unfold brF
    rw [if_neg hg, if_neg hlo, if_neg hnt, if_neg (by omega)]
  have hg9 := e9 _ _ hg8
  have hat9 := e9 _ _ hat8
  have t9 := t8.trans e9
  have S9h := S8.mono t9
  have hgd9 : Dis (grpR R x) := List.Pairwise.filter _ (srtR_srt ok.dis).dis
  refine q_forRG (m := (grpR R x).length) (n := ((grpR R x).length : Int)) (Inv := fun i σ' H' => H' g = some (.dK (kvR (keptR R x stay ++ ((grpR R x).take i).map fun p => (newT x z p.1, p.2)))) ∧ H' a = some (.dK (kvR R)) ∧ Same HH3 H' ∧ ∃ z8, Sl K HH3 [some (.raw (.ref a)), some (.str x), some (.str z), some (.bl stay), some (.lst ((nms (grpR R x)).map D.str)), zz, some (.lst (((grpR R x).map fun p => newT x z p.1).map D.str)), some (.raw (.ref g)), z8] σ') (ea_cons (Ev.to (ev_lenL (ev_var S9h (i := 4) (by rfl))) (by unfold nms; rw [List.length_map, List.length_map])) ea_nil) (by omega) ⟨by omega, by omega⟩ (fun H10 e10 => ⟨by rw [List.take_zero, List.map_nil, List.append_nil]; exact e10 _ _ hg9, e10 _ _ hat9, t9.trans e10, none, S8⟩) ?_ ?_
  · rintro i σ10 H10 N hi ⟨hg10, hat10, t10, z8, S10⟩ kN
    have S11 : Sl K HH3 [some (.raw (.ref a)), some (.str x), some (.str z), some (.bl stay), some (.lst ((nms (grpR R x)).map D.str)), zz, some (.lst (((grpR R x).map fun p => newT x z p.1).map D.str)), some (.raw (.ref g)), some (.int (i : Int))] (σ10.set 8 (some (.int (i : Int)))) := S10.set 8 (d := .int (i : Int)) (v := .int (i : Int)) rfl
    generalize σ10.set 8 (some (V.int (i : Int))) = σ11 at *
    have S11h := S11.mono t10
    have hgi : (nms (grpR R x)).getD i [] = (grpR R x)[i].1 := by
      unfold nms
      rw [List.getD_eq_getElem?_getD, List.getElem?_map, List.getElem?_eq_getElem hi]; rfl
    have hfi : ((grpR R x).map fun p => newT x z p.1).getD i [] = newT x z (grpR R x)[i].1 := by
      rw [List.getD_eq_getElem?_getD, List.getElem?_map, List.getElem?_eq_getElem hi]; rfl
    have hmi : (grpR R x)[i] ∈ grpR R x := List.getElem_mem hi
    have hnl : (nms (grpR R x)).length = (grpR R x).length := List.length_map _
    have hnew : lookD (keptR R x stay ++ ((grpR R x).take i).map fun p => (newT x z p.1, p.2)) (newT x z (grpR R x)[i].1) = none := lookD_none.mpr fun u hu e => by
      rcases List.mem_append.mp hu with hu | hu
      · exact lookD_none.mp (hno _ (List.mem_map.mpr ⟨_, hmi, rfl⟩)) u hu e
      · obtain ⟨w', hw', rfl⟩ := List.mem_map.mp hu
        have e1 := hexp w' _ (List.mem_of_mem_take hw') hmi e
        have hd := hgd9
        rw [show grpR R x = (grpR R x).take i ++ (grpR R x).drop i from (List.take_append_drop i _).symm] at hd
        exact (List.pairwise_append.mp hd).2.2 w' hw' _ (by rw [List.drop_eq_getElem_cons hi]; exact List.mem_cons_self) e1
    refine s_dput (R := keptR R x stay ++ ((grpR R x).take i).map fun p => (newT x z p.1, p.2)) (x := newT x z (grpR R x)[i].1) (n := (grpR R x)[i].2) (ev_dget (x := (grpR R x)[i].1) (ev_var S11h (i := 0) (by rfl)) (ev_ixL (ev_var S11h (i := 4) (by rfl)) (ev_var S11h (i := 8) (by rfl)) (by rw [atI_line (by rw [hnl]; exact hi), hgi])) (.inl hat10) ((lookD_mem ok.dis).mpr (grp_sub hmi))) (ev_var S11h (i := 7) (by rfl)) (ev_ixL (ev_var S11h (i := 6) (by rfl)) (ev_var S11h (i := 8) (by rfl)) (by rw [atI_line (by rw [List.length_map]; exact hi), hfi])) hg10 (by rw [List.length_append, List.length_map, List.length_take]; omega) fun H12 k12 hg12 => kN _ _ ⟨?_, k12 _ _ nga.symm hat10, fun b o h => k12 _ _ (ne_of_none h nHg) (t10 _ _ h), _, S11⟩
    rw [hg12]
    unfold putD
    rw [hnew]
    show some (HO.dK (kvR (_ ++ [(newT x z (grpR R x)[i].1, (grpR R x)[i].2)]))) = _
    rw [List.take_add_one, List.getElem?_eq_getElem hi, List.map_append, List.append_assoc]; rfl
  · rintro σ10 H10 ⟨hg10, hat10, t10, z8, S10⟩
    rw [List.take_of_length_le (Nat.le_refl _)] at hg10
    have S10h := S10.mono t10
    refine s_ret (d := .tup [.str (tx "told"), .int ((grpR R x).length : Int), .raw (.ref g)]) (ev_tup (ea_cons (Ev.to ev_str rfl) (ea_cons (Ev.to (ev_lenL (ev_var S10h (i := 4) (by rfl))) (by unfold nms; rw [List.length_map, List.length_map])) (ea_cons (ev_var S10h (i := 7) (by rfl)) ea_nil))) (by show 3 ≤ 100000; decide)) fun v H11 e11 hv => ?_
    refine k v H11 g (same_back (s03.trans (t10.trans e11)) hat (e11 _ _ hat10)) (.inr ?_) (by rw [ebr]; exact e11 _ _ hg10) (by rw [ebr]; exact hv)
    cases q5 : H g with
    | none => rfl
    | some o =>
      have : (hide1 a H) g = some o := by rw [hide1_at nga]; exact q5
      rw [(s03.trans t4) _ _ this] at hg0
      cases hg0
end
end Rt

namespace Rt
open PySem PySem.Spec PyProof.Rows L2
section
variable {P : Program} {w : World} {K : PySem.W.Frag} {mg : Str → Option Value} {base : Heap}
def txD : D → Tx
  | .str l => l
  | _ => []
def leftR (R : Rows) (way : Int) (x : Tx) : Rows := R.filter fun p => (decide (way = 2) && !preB x p) || (decide (way < 2) && !decide (p.1 = x))
def dueF (R : Rows) (way : Int) (d1 d2 : D) (b1 b2 : Bool) (n : Int) : Tx × D × Rows :=
  if b1 = false ∨ (2 < way ∧ b2 = false) then (tx "no name", .bl true, R)
  else if 2 < way then brF R (txD d1) (txD d2) (decide (way = 4))
  else if 0 < way ∧ (leftR R way (txD d1)).length = R.length then (tx "not there", .bl true, R)
  else if way = 2 then (tx "told", .int ((R.length : Int) - ((leftR R way (txD d1)).length : Int)), leftR R way (txD d1))
  else if way = 0 ∧ lookD R (txD d1) = none ∧ R.length = 100 then (tx "too many", .bl true, R)
  else (tx "told", optD (lookD R (txD d1)), if way = 0 then putD (leftR R way (txD d1)) (txD d1) n else leftR R way (txD d1))
theorem dueF_x {R : Rows} {way : Int} {x : Tx} {d2 : D} {b1 b2 : Bool} {n : Int} : dueF R way (.str x) d2 b1 b2 n = if b1 = false ∨ (2 < way ∧ b2 = false) then (tx "no name", .bl true, R)
  else if 2 < way then brF R x (txD d2) (decide (way = 4))
  else if 0 < way ∧ (leftR R way x).length = R.length then (tx "not there", .bl true, R)
  else if way = 2 then (tx "told", .int ((R.length : Int) - ((leftR R way x).length : Int)), leftR R way x)
  else if way = 0 ∧ lookD R x = none ∧ R.length = 100 then (tx "too many", .bl true, R)
  else (tx "told", optD (lookD R x), if way = 0 then putD (leftR R way x) x n else leftR R way x) := rfl
def SpDue12 (K : PySem.W.Frag) : Sp := fun vs H Q _ => ∃ a R way d1 d2 b1 b2 n v1 v2, vs = [.ref a, .int way, v1, v2, .int n] ∧ H a = some (.dK (kvR R)) ∧ DOk R ∧ Dt K H d1 v1 ∧ Dt K H d2 v2 ∧ ThE d1 b1 ∧ ThE d2 b2 ∧ 0 ≤ way ∧
  ∀ v H' a', Same H H' → (a' = a ∨ H a' = none) → H' a' = some (.dK (kvR (dueF R way d1 d2 b1 b2 n).2.2)) → Dt K H' (.tup [.str (dueF R way d1 d2 b1 b2 n).1, (dueF R way d1 d2 b1 b2 n).2.1, .raw (.ref a')]) v → Q v H'
theorem ThE.str {d : D} (h : ThE d true) : ∃ l, d = .str l ∧ l.length ≤ 40 ∧ okT l := by
  rcases h.1 with ⟨l, rfl, _, e⟩ | ⟨_, e⟩
  · exact ⟨l, rfl, nameB_iff.mp e.symm⟩
  · cases e
theorem leftR_len (R : Rows) (way : Int) (x : Tx) : (leftR R way x).length ≤ R.length := List.length_filter_le _ _
theorem cal_due12 (F : Dfn K mg "_law_due" s__law_due ["_law_plain", "_law_way", "_law_one", "_law_other", "_law_number"]) (BU : Bl mg) (c__law_named : Cal P w K mg base CX0 1 "_law_named" (Fn K Rnamed)) (c__law_branch : Cal P w K mg base CX0 1 "_law_branch" (SpBr12 K)) : Cal P w K mg base CX0 2 "_law_due" (SpDue12 K) := by
  refine cal_sp F sc__law_due (fun vs H Q E h => by obtain ⟨a, R, way, d1, d2, b1, b2, n, v1, v2, rfl, _⟩ := h; rfl) fun cdv A outer s f H vs Q E hr h => ?_
  obtain ⟨a, R, way, d1, d2, b1, b2, n, v1, v2, rfl, hat, ok, hv1, hv2, th1, th2, hw0, k⟩ := h
  refine ⟨_, (pss_cons (ps_if (PW.pt (pw_or (pt_not (pt_val (pe_c c__law_named hr (by omega) (by rfl) (pa_cons (pv 2) pa_nil)))) (pw_or1 (PW.pt (pw_and (pt_cmpR op_gt (pv 1) pe_int (nomark _)) (pw_and1 (pt_not (pt_val (pe_c c__law_named hr (by omega) (by rfl) (pa_cons (pv 3) pa_nil)))))))))) (pss_one (ps_ret (pe_tup (pa_cons pe_str (pa_cons pe_bl (pa_cons (pv 0) pa_nil)))))) pss_nil) (pss_cons (ps_if (pt_cmpR op_gt (pv 1) pe_int (nomark _)) (pss_one (ps_ret (pe_c c__law_branch hr (by omega) (by rfl) (pa_cons (pv 0) (pa_cons (pv 2) (pa_cons (pv 3) (pa_cons (pe_cmpR op_eq (pv 1) pe_int (nomark _)) pa_nil))))))) pss_nil) (pss_cons (ps_set (i := 5) sc__law_due.nd rfl (Or.inl rfl) pe_dnewK) (pss_cons (ps_lock (ps_for PassesOwn.never rfl (pi_keys (pv 0)) (pg_name (i := 6) sc__law_due.nd rfl (Or.inl rfl)) (pss_one (ps_if (PW.pt (pw_or (PW.pt (pw_and (pt_cmpR op_eq (pv 1) pe_int (nomark _)) (pw_and1 (pt_cmpR op_ne (pe_slice sl_str (pv 6) po_none (po_some (pe_callB call_len_str (by rfl) BU.len_ PySem.boot_len (pa_cons (pv 2) pa_nil)))) (pv 2) (nomark _))))) (pw_or1 (PW.pt (pw_and (pt_cmpR op_lt (pv 1) pe_int (nomark _)) (pw_and1 (pt_cmpR op_ne (pv 6) (pv 2) (nomark _)))))))) (pss_one (ps_dput (hu_of hr) (pv 5) (pv 6) (pe_dget (hu_of hr) (pv 0) (pv 6) (fun _ _ => rfl)) rfl)) pss_nil)))) (pss_cons (ps_if (PW.pt (pw_and (pt_cmpR op_gt (pv 1) pe_int (nomark _)) (pw_and1 (pt_cmpR op_eq (pe_callB call_lenD (by rfl) BU.len_ PySem.boot_len (pa_cons (pv 5) pa_nil)) (pe_callB call_lenD (by rfl) BU.len_ PySem.boot_len (pa_cons (pv 0) pa_nil)) (nomark _))))) (pss_one (ps_ret (pe_tup (pa_cons pe_str (pa_cons pe_bl (pa_cons (pv 0) pa_nil)))))) pss_nil) (pss_cons (ps_if (pt_cmpR op_eq (pv 1) pe_int (nomark _)) (pss_one (ps_ret (pe_tup (pa_cons pe_str (pa_cons (pe_op op_sub (pe_callB call_lenD (by rfl) BU.len_ PySem.boot_len (pa_cons (pv 0) pa_nil)) (pe_callB call_lenD (by rfl) BU.len_ PySem.boot_len (pa_cons (pv 5) pa_nil))) (pa_cons (pv 5) pa_nil)))))) pss_nil) (pss_cons (ps_if (PW.pt (pw_and (pt_cmpR op_eq (pv 1) pe_int (nomark _)) (pw_and (pt_cmp (pc_dnotinN (hu_of hr) (pv 2) (pv 0))) (pw_and1 (pt_cmpR op_eq (pe_callB call_lenD (by rfl) BU.len_ PySem.boot_len (pa_cons (pv 0) pa_nil)) pe_int (nomark _)))))) (pss_one (ps_ret (pe_tup (pa_cons pe_str (pa_cons pe_bl (pa_cons (pv 0) pa_nil)))))) pss_nil) (pss_cons (ps_set (i := 7) sc__law_due.nd rfl (Or.inl rfl) (pe_dget1 (hu_of hr) (pv 0) (pv 2) ⟨by rfl, by rfl, by rfl, by rfl⟩)) (pss_cons (ps_if (pt_cmpR op_eq (pv 1) pe_int (nomark _)) (pss_one (ps_dput (hu_of hr) (pv 5) (pv 2) (pv 4) rfl)) pss_nil) (pss_one (ps_ret (pe_tup (pa_cons pe_str (pa_cons (pv 7) (pa_cons (pv 5) pa_nil))))))))))))))), ?_⟩
  try dsimp only [cxOf]
  have tk := tupK_hide1 (a := a) hat
  have S0 : Sl K (hide1 a H) [some (.raw (.ref a)), some (.int way), some d1, some d2, some (.int n), none, none, none] (start ["_law_plain", "_law_way", "_law_one", "_law_other", "_law_number", "_law_grown", "_law_name", "_law_had"] [.ref a, .int way, v1, v2, .int n]) := ⟨_, _, rfl, rfl, _, _, rfl, rfl, _, _, rfl, Dt.tupK tk _ th1.1.imm hv1, _, _, rfl, Dt.tupK tk _ th2.1.imm hv2, _, _, rfl, rfl, none, _, rfl, none, _, rfl, none, _, rfl, rfl⟩
  generalize start _ [V.ref a, V.int way, v1, v2, V.int n] = σ at *
  have hcn := ok.cnt
  have S0h := S0.mono hide1_same
  have hret : ∀ {w : Tx} {d : D}, dueF R way d1 d2 b1 b2 n = (w, d, R) → ∀ v H', Same (hide1 a H) H' → H' a = some (.dK (kvR R)) → Dt K H' (.tup [.str w, d, .raw (.ref a)]) v → Q v H' := fun e v H' s' h' hv => k v H' a (same_back s' hat h') (.inl rfl) (by rw [e]; exact h') (by rw [e]; exact hv)
  refine q_if0 (b := !b1 || (decide (2 < way) && !b2)) (et_or (et_not (et_B (ev_call (ds := [d1]) (ea_cons (ev_var S0h (i := 2) (by rfl)) ea_nil) ⟨d1, b1, rfl, th1, rfl⟩))) fun _ => et_and (et_test (ev_gt (ev_var S0h (i := 1) (by rfl)) ev_int)) fun _ => et_not (et_B (ev_call (ds := [d2]) (ea_cons (ev_var S0h (i := 3) (by rfl)) ea_nil) ⟨d2, b2, rfl, th2, rfl⟩))) (fun q H1 e1 => ?_) (fun q H1 e1 => ?_)
  · have hn : b1 = false ∨ (2 < way ∧ b2 = false) := by
      rw [Bool.or_eq_true, Bool.and_eq_true, decide_eq_true_eq, Bool.not_eq_true', Bool.not_eq_true'] at q
      exact q
    exact s_ret (d := .tup [.str (tx "no name"), .bl true, .raw (.ref a)]) (ev_tup (ea_cons (Ev.to ev_str rfl) (ea_cons ev_bl (ea_cons (ev_var (S0h.mono e1) (i := 0) (by rfl)) ea_nil))) (by show 3 ≤ 100000; decide)) fun v H3 e3 hv => hret (by unfold dueF; rw [if_pos hn]) v H3 (hide1_same.trans (e1.trans e3)) ((e1.trans e3) _ _ hat) hv
  have hnn : ¬ (b1 = false ∨ (2 < way ∧ b2 = false)) := fun z => by
    rw [show (!b1 || (decide (2 < way) && !b2)) = true from by
      rw [Bool.or_eq_true, Bool.and_eq_true, decide_eq_true_eq, Bool.not_eq_true', Bool.not_eq_true']
      exact z] at q
    cases q
  have hb1 : b1 = true := by
    cases b1 with
    | true => rfl
    | false => exact absurd (.inl rfl) hnn
  subst hb1
  obtain ⟨x, rfl, hx, hxo⟩ := th1.str
  have S1h := S0h.mono e1
  have hat1 := e1 _ _ hat
  refine q_if0 (b := decide (2 < way)) (et_test (ev_gt (ev_var S1h (i := 1) (by rfl)) ev_int)) (fun q1 H2 e2 => ?_) (fun q1 H2 e2 => ?_)
  · have q1' := of_decide_eq_true q1
    have hb2 : b2 = true := by
      cases b2 with
      | true => rfl
      | false => exact absurd (.inr ⟨q1', rfl⟩) hnn
    subst hb2
    obtain ⟨z, rfl, hz, hzo⟩ := th2.str
    have S2h := S1h.mono e2
    have e02 := e1.trans e2
    have ed : dueF R way (.str x) (.str z) true true n = brF R x z (decide (way = 4)) := by unfold dueF; rw [if_neg hnn, if_pos q1']; rfl
    show tCall (SpBr12 K) [] E0 _ σ H2 _
    exact (show EvA K _ σ H2 [.raw (.ref a), .str x, .str z, .bl (decide (way = 4))] from ea_cons (ev_var S2h (i := 0) (by rfl)) (ea_cons (ev_var S2h (i := 2) (by rfl)) (ea_cons (ev_var S2h (i := 3) (by rfl)) (ea_cons (ev_eqI (ev_var S2h (i := 1) (by rfl)) ev_int) ea_nil)))) H2 (Same.refl H2) _ fun us H3 e3 ⟨u1, r1, h1, g1, u2, r2, h2, g2, u3, r3, h3, g3, u4, r4, h4, g4, g5⟩ => ⟨a, R, x, z, decide (way = 4), by rw [h1, h2, h3, h4, show u1 = .ref a from g1, show u2 = .str (S x) from g2, show u3 = .str (S z) from g3, show u4 = .bl (decide (way = 4)) from g4, show r4 = [] from g5]; rfl, e3 _ _ (e02 _ _ hat), ok, by omega, by omega, fun v H' a' s' hn' hd' hv' => k v H' a' ((e02.trans e3).trans s') (hn'.imp_right fun h => Same.free (e02.trans e3) h) (by rw [ed]; exact hd') (by rw [ed]; exact hv')⟩
  have q1' := of_decide_eq_false q1
  have hat2 := e2 _ _ hat1
  have t2 : Same (hide1 a H) H2 := hide1_same.trans (e1.trans e2)
  clear S1h S0h
  refine q_dnew fun g H5 hg0 e5 hg5 => ?_
  have nga : g ≠ a := fun y => by rw [y, hat2] at hg0; cases hg0
  have nHg : (hide1 a H) g = none := Same.free t2 hg0
  have nHg2 : H g = none := Same.free (e1.trans e2) hg0
  have hat5 := e5 _ _ hat2
  have t5 := t2.trans e5
  have S5 := S0.set 5 (d := .raw (.ref g)) (v := .ref g) rfl
  generalize σ.set 5 (some (V.ref g)) = σ5 at *
  have S5' : Sl K (hide1 a H) [some (.raw (.ref a)), some (.int way), some (.str x), some d2, some (.int n), some (.raw (.ref g)), none, none] σ5 := S5
  refine q_forK (K := K) (R := R) (Inv := fun od i σ' H' => H' a = some (.frz od (.dK (kvR R))) ∧ H' g = some (.dK (kvR (leftR (R.take i) way x))) ∧ Same (hide1 a H) H' ∧ ∃ z6, Sl K (hide1 a H) [some (.raw (.ref a)), some (.int way), some (.str x), some d2, some (.int n), some (.raw (.ref g)), z6, none] σ') hat5
    (fun od => ev_var (S5'.mono (fun b o h => by rw [upd_ne (ne_of_none h hide1_none)]; exact t5 _ _ h)) (i := 0) (by rfl))
    (fun od H6 e6 => ⟨e6 _ _ upd_same, e6 _ _ (by rw [upd_ne nga]; exact hg5), fun b o h => e6 _ _ (by rw [upd_ne (ne_of_none h hide1_none)]; exact t5 _ _ h), none, S5'⟩) (fun od i σ' H' h => h.1) ?_ ?_
  · rintro od i p σ6 H6 E' hp ⟨ha6, hg6, t6, z6, S6⟩ kN
    have S7 : Sl K (hide1 a H) [some (.raw (.ref a)), some (.int way), some (.str x), some d2, some (.int n), some (.raw (.ref g)), some (.str p.1), none] (σ6.set 6 (some (.str (S p.1)))) := S6.set 6 (d := .str p.1) (v := .str (S p.1)) rfl
    generalize σ6.set 6 (some (V.str (S p.1))) = σ7 at *
    have hpm := List.mem_of_getElem? hp
    have hpl := ok.len p hpm
    have S7h := S7.mono t6
    have etk : R.take (i + 1) = R.take i ++ [p] := by rw [List.take_add_one, hp]; rfl
    refine s_if (b := (decide (way = 2) && !preB x p) || (decide (way < 2) && !decide (p.1 = x))) (et_or (et_and (et_test (ev_eqI (ev_var S7h (i := 1) (by rfl)) ev_int)) fun _ => et_test (ev_neS (ev_slTo x.length (ev_var S7h (i := 6) (by rfl)) (ev_lenS (ev_var S7h (i := 2) (by rfl)) (by omega)) rfl (by omega)) (ev_var S7h (i := 2) (by rfl)))) fun _ => et_and (et_test (ev_lt (ev_var S7h (i := 1) (by rfl)) ev_int)) fun _ => et_test (ev_neS (ev_var S7h (i := 6) (by rfl)) (ev_var S7h (i := 2) (by rfl)))) (fun q3 H8 e8 => ?_) (fun q3 H8 e8 => ?_)
    · have S8h := S7h.mono e8
      have hnew : lookD (leftR (R.take i) way x) p.1 = none := lookD_none.mpr fun u hu e => by
        have hu2 := (List.mem_filter.mp hu).1
        have hd := ok.dis
        rw [show R = R.take i ++ R.drop i from (List.take_append_drop i R).symm] at hd
        have hpd : p ∈ R.drop i := by
          obtain ⟨h1, h2⟩ := List.getElem?_eq_some_iff.mp hp
          rw [List.drop_eq_getElem_cons h1, h2]; exact List.mem_cons_self
        exact (List.pairwise_append.mp hd).2.2 u hu2 p hpd e
      refine s_dput (R := leftR (R.take i) way x) (x := p.1) (n := p.2) (ev_dget (ev_var S8h (i := 0) (by rfl)) (ev_var S8h (i := 6) (by rfl)) (.inr ⟨od, e8 _ _ ha6⟩) ((lookD_mem ok.dis).mpr hpm)) (ev_var S8h (i := 5) (by rfl)) (ev_var S8h (i := 6) (by rfl)) (e8 _ _ hg6) (Nat.le_trans (leftR_len _ _ _) (by rw [List.length_take]; omega)) fun H9 k9 hg9 => kN _ _ ⟨k9 _ _ nga.symm (e8 _ _ ha6), ?_, fun b o h => k9 _ _ (ne_of_none h nHg) (e8 _ _ (t6 _ _ h)), _, S7⟩
      rw [hg9]
      unfold putD
      rw [hnew]
      show some (HO.dK (kvR (leftR (R.take i) way x ++ [(p.1, p.2)]))) = _
      rw [etk]
      unfold leftR
      rw [List.filter_append, List.filter_cons_of_pos (p := fun p => (decide (way = 2) && !preB x p) || (decide (way < 2) && !decide (p.1 = x))) q3]; rfl
    · refine kN _ _ ⟨e8 _ _ ha6, ?_, t6.trans e8, _, S7⟩
      rw [e8 _ _ hg6, etk]
      unfold leftR
      rw [List.filter_append, List.filter_cons_of_neg (p := fun p => (decide (way = 2) && !preB x p) || (decide (way < 2) && !decide (p.1 = x))) (by rw [q3]; decide), List.filter_nil, List.append_nil]
  rintro od σ6 H6 ⟨ha6, hg6, t6, z6, S6⟩
  rw [List.take_of_length_le (Nat.le_refl _)] at hg6
  have t7 : Same (hide1 a H) (upd H6 a (.dK (kvR R))) := fun b o h => by rw [upd_ne (ne_of_none h hide1_none)]; exact t6 _ _ h
  have hg7 : (upd H6 a (.dK (kvR R))) g = some (.dK (kvR (leftR R way x))) := by rw [upd_ne nga]; exact hg6
  have hat7 : (upd H6 a (.dK (kvR R))) a = some (.dK (kvR R)) := upd_same
  generalize upd H6 a (.dK (kvR R)) = H7 at *
  have S7h := S6.mono t7
  have hkn := leftR_len R way x
  refine q_if0 (b := decide (0 < way) && decide (((leftR R way x).length : Int) = (R.length : Int))) (et_and (et_test (ev_gt (ev_var S7h (i := 1) (by rfl)) ev_int)) fun _ => et_test (ev_eqI (ev_dlen (ev_var S7h (i := 5) (by rfl)) hg7) (ev_dlen (ev_var S7h (i := 0) (by rfl)) hat7))) (fun q2 H8 e8 => ?_) (fun q2 H8 e8 => ?_)
  · rw [Bool.and_eq_true, decide_eq_true_eq, decide_eq_true_eq] at q2
    exact s_ret (d := .tup [.str (tx "not there"), .bl true, .raw (.ref a)]) (ev_tup (ea_cons (Ev.to ev_str rfl) (ea_cons ev_bl (ea_cons (ev_var (S7h.mono e8) (i := 0) (by rfl)) ea_nil))) (by show 3 ≤ 100000; decide)) fun v H9 e9 hv => hret (by rw [dueF_x, if_neg hnn, if_neg q1', if_pos ⟨q2.1, by omega⟩]) v H9 (t7.trans (e8.trans e9)) ((e8.trans e9) _ _ hat7) hv
  have q2' : ¬ (0 < way ∧ (leftR R way x).length = R.length) := fun ⟨z1, z2⟩ => by
    rw [z2, decide_eq_true z1, decide_eq_true rfl] at q2; cases q2
  have hg8 := e8 _ _ hg7
  have hat8 := e8 _ _ hat7
  have t8 := t7.trans e8
  have S8h := S7h.mono e8
  have hretg : ∀ {w : Tx} {d : D} {R' : Rows}, dueF R way (.str x) d2 true b2 n = (w, d, R') → ∀ v H', Same (hide1 a H) H' → H' a = some (.dK (kvR R)) → H' g = some (.dK (kvR R')) → Dt K H' (.tup [.str w, d, .raw (.ref g)]) v → Q v H' := fun e v H' s' h' hg' hv => k v H' g (same_back s' hat h') (.inr nHg2) (by rw [e]; exact hg') (by rw [e]; exact hv)
  refine q_if0 (b := decide (way = 2)) (et_test (ev_eqI (ev_var S8h (i := 1) (by rfl)) ev_int)) (fun q3 H9 e9 => ?_) (fun q3 H9 e9 => ?_)
  · have q3' := of_decide_eq_true q3
    have S9h := S8h.mono e9
    have hg9 := e9 _ _ hg8
    have hat9 := e9 _ _ hat8
    exact s_ret (d := .tup [.str (tx "told"), .int ((R.length : Int) - ((leftR R way x).length : Int)), .raw (.ref g)]) (ev_tup (ea_cons (Ev.to ev_str rfl) (ea_cons (ev_sub (ev_dlen (ev_var S9h (i := 0) (by rfl)) hat9) (ev_dlen (ev_var S9h (i := 5) (by rfl)) hg9)) (ea_cons (ev_var S9h (i := 5) (by rfl)) ea_nil))) (by show 3 ≤ 100000; decide)) fun v H10 e10 hv => hretg (R' := leftR R way x) (by rw [dueF_x, if_neg hnn, if_neg q1', if_neg q2', if_pos q3']) v H10 (t8.trans (e9.trans e10)) (e10 _ _ hat9) (e10 _ _ hg9) hv
  have q3' := of_decide_eq_false q3
  have hg9 := e9 _ _ hg8
  have hat9 := e9 _ _ hat8
  have t9 := t8.trans e9
  have S9h := S8h.mono e9
  refine q_if0 (b := decide (way = 0) && (!(lookD R x).isSome && decide ((R.length : Int) = 100))) (et_and (et_test (ev_eqI (ev_var S9h (i := 1) (by rfl)) ev_int)) fun _ => et_and (et_B (ev_dnotin (ev_var S9h (i := 2) (by rfl)) (ev_var S9h (i := 0) (by rfl)) (.inl hat9))) fun _ => et_test (ev_eqI (ev_dlen (ev_var S9h (i := 0) (by rfl)) hat9) ev_int)) (fun q4 H10 e10 => ?_) (fun q4 H10 e10 => ?_)
  · rw [Bool.and_eq_true, Bool.and_eq_true, decide_eq_true_eq, decide_eq_true_eq, Bool.not_eq_true'] at q4
    obtain ⟨w1, w2, w3⟩ := q4
    have hnone : lookD R x = none := by
      cases h : lookD R x with
      | none => rfl
      | some m => rw [h] at w2; cases w2
    exact s_ret (d := .tup [.str (tx "too many"), .bl true, .raw (.ref a)]) (ev_tup (ea_cons (Ev.to ev_str rfl) (ea_cons ev_bl (ea_cons (ev_var (S9h.mono e10) (i := 0) (by rfl)) ea_nil))) (by show 3 ≤ 100000; decide)) fun v H11 e11 hv => hret (by rw [dueF_x, if_neg hnn, if_neg q1', if_neg q2', if_neg q3', if_pos ⟨w1, hnone, by omega⟩]) v H11 (t9.trans (e10.trans e11)) ((e10.trans e11) _ _ hat9) hv
  have q4' : ¬ (way = 0 ∧ lookD R x = none ∧ R.length = 100) := fun ⟨z1, z2, z3⟩ => by
    rw [z2, z3, decide_eq_true z1] at q4; cases q4
  have hg10 := e10 _ _ hg9
  have hat10 := e10 _ _ hat9
  have t10 := t9.trans e10
  have S10h := S6.mono t10
  refine h_had (x := lookD R x) S6 (ev_dget1 (ev_var S10h (i := 0) (by rfl)) (ev_var S10h (i := 2) (by rfl)) (.inl hat10)) fun σ11 H11 e11 S11 => ?_
  have S11' : Sl K (hide1 a H) [some (.raw (.ref a)), some (.int way), some (.str x), some d2, some (.int n), some (.raw (.ref g)), z6, some (optD (lookD R x))] σ11 := S11
  have hg11 := e11 _ _ hg10
  have hat11 := e11 _ _ hat10
  have t11 := t10.trans e11
  have S11h := S11'.mono t11
  have ed : dueF R way (.str x) d2 true b2 n = (tx "told", optD (lookD R x), if way = 0 then putD (leftR R way x) x n else leftR R way x) := by
    rw [dueF_x, if_neg hnn, if_neg q1', if_neg q2', if_neg q3', if_neg q4']
  refine q_jn (R := fun σ' H' => σ' = σ11 ∧ Same (hide1 a H) H' ∧ H' a = some (.dK (kvR R)) ∧ H' g = some (.dK (kvR (if way = 0 then putD (leftR R way x) x n else leftR R way x)))) (fun N hN => ?_) ?_
  · refine s_if (b := decide (way = 0)) (et_test (ev_eqI (ev_var S11h (i := 1) (by rfl)) ev_int)) (fun q5 H12 e12 => ?_) (fun q5 H12 e12 => ?_)
    · have S12h := S11h.mono e12
      refine s_dput (R := leftR R way x) (x := x) (n := n) (ev_var S12h (i := 4) (by rfl)) (ev_var S12h (i := 5) (by rfl)) (ev_var S12h (i := 2) (by rfl)) (e12 _ _ hg11) (by omega) fun H13 k13 hg13 => hN _ _ ⟨rfl, fun b o h => k13 _ _ (ne_of_none h nHg) (e12 _ _ (t11 _ _ h)), k13 _ _ nga.symm (e12 _ _ hat11), ?_⟩
      rw [if_pos (of_decide_eq_true q5)]; exact hg13
    · refine hN _ _ ⟨rfl, t11.trans e12, e12 _ _ hat11, ?_⟩
      rw [if_neg (of_decide_eq_false q5)]; exact e12 _ _ hg11
  rintro σ12 H12 ⟨rfl, t12, hat12, hg12⟩
  have S12h := S11'.mono t12
  exact s_ret (d := .tup [.str (tx "told"), optD (lookD R x), .raw (.ref g)]) (ev_tup (ea_cons (Ev.to ev_str rfl) (ea_cons (ev_var S12h (i := 7) (by rfl)) (ea_cons (ev_var S12h (i := 5) (by rfl)) ea_nil))) (by show 3 ≤ 100000; decide)) fun v H13 e13 hv => hretg ed v H13 (t12.trans e13) (e13 _ _ hat12) (e13 _ _ hg12) hv
end
end Rt

namespace Rt
open PySem PySem.Spec PyProof.Rows L2
section
variable {P : Program} {w : World} {K : PySem.W.Frag} {mg : Str → Option Value} {base : Heap}
/-- a def that is called with the error that is caught: cls its class, a its place -/
structure CalE (P : Program) (w : World) (K : PySem.W.Frag) (mg : Str → Option Value) (base : Heap) (k : Nat) (x : Str) (sp : Value → Addr → Hp → VK → Prop) : Prop where
  ex : ∃ (f : Addr) (fd : FuncData) (ps : List Str), (∀ (A : Around) (outer : List Env) (s : Shared) (H : Hp) (args : Args) (us : List Value) (Q : VK) (p : Addr × Obj) (cls : Value), L2H.RoomH k A → L2H.PinOk outer H s p → Env0 P w K mg base A outer s H → BindsTo s fd args (ps.zip us) → Vals [.ref p.1] us →
    Zc cls none p.2 → (∃ vs, p.2.data = .fields vs) → sp cls p.1 H Q → codeAny (model P w) A (.call (.ref f) args) (CR CX0 outer P w H s Q E0) s) ∧ ps.length = 1 ∧ mg x = some (.ref f) ∧ PySem.W.keepIn K (.ref f) = true ∧ Binds K fd ps []
theorem cal_E {x : Str} {st : Stmt} {N ps : List Str} {k : Nat} {sp : Value → Addr → Hp → VK → Prop} (F : Dfn K mg x st ps) (S : FnScope N ps (defScope st)) (hl : ps.length = 1)
    (hbody : ∀ (cdv : Value) (A : Around) (outer : List Env) (s : Shared) (f : Addr) (H : Hp) (Q : VK) (p : Addr × Obj) (cls : Value), Zc cls none p.2 → (∃ vs, p.2.data = .fields vs) → sp cls p.1 H Q →
      ∃ t, PSs (L2H.cxH CX0 P w K mg base N x (defScope st) f cdv A outer s H E0 p) (defBody st) t ∧ t { nx := fun _ H' => Q .non H', rt := Q } (start N [.ref p.1]) H) : CalE P w K mg base (k + 1) x sp := by
  obtain ⟨f, fd, F, m, b⟩ := F.ex
  have kp := F.kp
  obtain ⟨oc, od, kV, doc, pm, an, cdv, ct, osl, rfl, lk, hcd⟩ := F.ex
  refine ⟨f, _, ps, fun A outer s H args us Q p cls hr hpin e0 hb r hz hf hsp => ?_, hl, m, kp, b⟩
  have KX : K.In s.heap := e0.mod.kin.keeps fun b o e => (e0.bs b o e).1
  have lim : s.heap.NoLimit := e0.mod.nolimit.keeps fun b o e => (e0.bs b o e).1
  have hkind : ∀ y ∈ ps.zip us, (defScope st).names.lookup y.1 = some .local ∨ ((defScope st).names.lookup y.1 = some .cell ∧ ((cellsFrom (s.heap.objs.size + 1) (defScope st).names []).lookup y.1).isSome = true) := fun ⟨n, v⟩ hy => by
    rcases S.par n (List.of_mem_zip hy).1 with q | q
    · exact .inl q
    · exact .inr ⟨q, PySem.W.cellsFrom_some _ _ _ (.inl q)⟩
  refine codeAny_call_function hr.depth (KX _ _ lk) rfl S.co S.gen rfl (PySem.W.codeRec_of KX hcd) (hb _ _ _ _ ?_)
  refine wpAny_newFunctionEnv_cells S.kind hkind fun env he s1 xx => ?_
  subst he
  refine ⟨lim.keeps xx.toInCall.keep, codeAny_func ?_⟩
  obtain ⟨t, ht, hq⟩ := hbody cdv A outer s f H Q p cls hz hf hsp
  have I : Inv (L2H.cxH CX0 P w K mg base N x (defScope st) f cdv A outer s H E0 p) [] (L2.start N [.ref p.1]) H s1 := L2H.inv_startH S hpin e0 (by rw [hl]; rfl) r xx
  refine wpAny_mono (ht.run [] s1 (L2.start N [.ref p.1]) H _ I hq) (fun fl s' hs => ?_) fun e s' hs => hs
  have fin : ∀ {σ' : L2.St} {H' : Hp} {v : V} {u : Value}, Inv (L2H.cxH CX0 P w K mg base N x (defScope st) f cdv A outer s H E0 p) [] σ' H' s' → RelV v u → Q v H' → CE outer P w H s Q u s' :=
    fun {σ' H' v u} J rv q => ⟨v, H', J.os, J.bare, J.base, J.hok, rv, q⟩
  cases fl with
  | ret u =>
    obtain ⟨v, σ', H', J, rv, q⟩ := hs
    exact fin J rv q
  | next =>
    obtain ⟨σ', H', J, q⟩ := hs
    exact fin (v := V.non) (u := Value.none) J rfl q
  | brk =>
    obtain ⟨_, _, _, q⟩ := hs
    exact False.elim q
  | cont =>
    obtain ⟨_, _, _, q⟩ := hs
    exact False.elim q
def tCallE (cls : Value) (a : Addr) (sp : Value → Addr → Hp → VK → Prop) (t : TA) : TE := fun σ H Q => t σ H fun vs H1 => vs = [.ref a] ∧ sp cls a H1 Q
theorem pe_callE {X : Cx} {k j : Nat} {x : Str} {sp : Value → Addr → Hp → VK → Prop} {a : Addr} {oe : Obj} {cls : Value} {d : Option Addr} {pn : List (Addr × Obj)} {q pos : Pos} {e : Expr} {t : TA} (c : CalE X.prog X.w X.K X.mg X.base k x sp) (hr : Room j X.A) (hk : k ≤ j) (h2 : d = none) (hz : Zc cls d oe) (hf : ∃ vs, oe.data = .fields vs)
    (hg : Gl X x) (ha : PA (X.suite a ((a, oe) :: pn)) [e] t) (hdb : (x == ("__debug__" : Str)) = false := by decide) (he : starEach [e] X.env = [(false, eval e X.env)] := by rfl) : PE (X.suite a ((a, oe) :: pn)) (.Call (.Name x q) [e] [] pos) (tCallE cls a sp t) := by
  subst h2
  obtain ⟨f, fd, ps, F, hl, hm, kp, hb⟩ := c.ex
  refine ⟨fun pins s σ H Q I h => ?_⟩
  refine wpAny_Call_Name_kw (ld_glob (X := X.suite a ((a, oe) :: pn)) I hg hm ?_ hdb)
  refine PySem.W.callWith_K (h₀ := X.base) I.ok.mod.kin kp (thn (ha.run pos pins s σ H _ I h) fun us s1 ⟨vs, H1, I1, r, ev, q⟩ => ⟨I1.kIn, ?_⟩) he rfl
  subst ev
  have b := hb s1 us I1.kIn (by rw [List.append_nil, ← r.length, hl]; rfl)
  rw [List.append_nil] at b
  have P1 := I1.pin (a, oe) (List.mem_append_left _ List.mem_cons_self)
  have hpin : L2H.PinOk X.stack H1 s1 (a, oe) := ⟨P1.1, P1.2.1, fun hm => (List.mem_cons.mp (I1.stkSub a hm)).elim P1.2.2.1 P1.2.2.2.1, P1.2.2.2.2⟩
  have hr' : L2H.RoomH k (X.suite a ((a, oe) :: pn)).A := ⟨(hr.mono hk).dp, (hr.mono hk).un⟩
  refine wpAny_call (codeAny_mono (F _ X.stack s1 H1 ⟨us, []⟩ us Q (a, oe) cls hr' hpin I1.env0 b r hz hf q) fun r s' hq => ?_)
  cases r with
  | error e => exact False.elim hq
  | ok fl =>
    cases fl with
    | ret u => exact I1.after hq
    | next => exact False.elim hq
    | brk => exact False.elim hq
    | cont => exact False.elim hq
theorem call_isEP {X : Cx} {p : Addr × Obj} {D : Addr} (hp : p ∈ X.pn) (C : ExcC X.K D) (hz : Zc (.ref D) none p.2) (hf : ∃ vs, p.2.data = .fields vs) : CallR X (.builtin "isinstance") (rIsE X.K D p.1) := by
  intro pins s σ H xs us Q I r h
  obtain ⟨c, cv, b, rfl, hcv, e, q⟩ := h
  cases r with
  | cons rx rr =>
    cases rr with
    | cons rt rr =>
      cases rr
      cases rx
      have ec := hcv _ rt
      subst ec
      obtain ⟨hget, _⟩ := I.pin p (List.mem_append.mpr (.inl hp))
      obtain ⟨a, oe⟩ := p
      obtain ⟨vs, hv⟩ := hf
      have J : PySem.W.InstAt s.heap a oe D none := by
        obtain ⟨oc, od, oda, osl⟩ := oe
        obtain ⟨h1, h2⟩ := hz
        dsimp only at h1 h2 hv
        subst h1 h2 hv
        exact ⟨hget, rfl, rfl, trivial⟩
      exact PySem.W.kia_one (PySem.W.handS_kitx_exc C.hg C.hk C.hs C.hd C.ha C.hn C.ht C.hm) I.kIn J e (fun z => nomatch z) fun tk => ⟨.bl b, H, I.kept (t' := tk) fun _ _ z => z, rfl, q⟩
theorem kit_self {K : PySem.W.Frag} {A : Addr} : PySem.W.kitOne K (.ref A) (.ref A) = some true := by
  unfold PySem.W.kitOne
  rw [if_pos (beq_self_eq_true _)]
section
variable {σ : L2.St} {H HH : Hp} {ta tb te to : TE} {E : Ends} {tu tv : TS} {L : Addr}
/-- words.append(x) -/
theorem s_appS {ls : List Tx} {x : Tx} (hL : HH L = none) (sH : Same HH H) (hat : H L = some (.lst ((ls.map S).map V.str))) (ho : Ev K to σ H (.raw (.ref L))) (h1 : Ev K te σ H (.str x)) (hz : ls.length ≤ 1000)
    (k : ∀ H', Same HH H' → H' L = some (.lst (((ls ++ [x]).map S).map V.str)) → E.nx σ H') : tDrop (tBM K "list" rAppend to (tCons te tNil)) E σ H :=
  ho H (Same.refl H) _ fun o H1 e1 ho1 => by
    refine ⟨by rw [show o = .ref L from ho1]; exact .inl ⟨rfl, _, SqL.of (e1 _ _ hat)⟩, h1 H1 e1 _ fun v H2 e2 hv => ?_⟩
    have e := e1.trans e2
    refine ⟨L, _, v, ho1, rfl, e _ _ hat, smallLt (by rw [List.length_map, List.length_map]; omega), k _ (fun b o h => ?_) (by rw [upd_same, List.map_append, List.map_append, show v = .str (S x) from hv]; rfl)⟩
    rw [upd_ne (ne_of_none h hL)]
    exact e _ _ (sH _ _ h)
theorem q_wd {tt : TT} {ls : List Tx} {x : Tx} {b : Bool} (hL : HH L = none) (sH : Same HH H) (hat : H L = some (.lst ((ls.map S).map V.str))) (ht : EvT K tt σ H b) (ho : ∀ H', Same HH H' → Ev K to σ H' (.raw (.ref L))) (h1 : ∀ H', Same HH H' → Ev K te σ H' (.str x)) (hz : ls.length ≤ 1000)
    (k : ∀ H', Same HH H' → H' L = some (.lst (((ls ++ if b then [x] else []).map S).map V.str)) → tv E σ H') : tSeq (tIfS tt (tDrop (tBM K "list" rAppend to (tCons te tNil))) tNext) tv E σ H := by
  refine q_if0 ht (fun q H1 e1 => ?_) (fun q H1 e1 => ?_)
  · exact s_appS (E := { E with nx := tv E }) hL (sH.trans e1) (e1 _ _ hat) (ho _ (sH.trans e1)) (h1 _ (sH.trans e1)) hz fun H' s' h' => k H' s' (by rw [q]; exact h')
  · refine k H1 (sH.trans e1) ?_
    rw [q]
    show H1 L = some (.lst (((ls ++ []).map S).map V.str))
    rw [List.append_nil]; exact e1 _ _ hat
end
end
end Rt

namespace Rt
open PySem PySem.Spec PyProof.Rows L2
section
variable {P : Program} {w : World} {K : PySem.W.Frag} {mg : Str → Option Value} {base : Heap}
def wordsL : List Tx := [tx "no name", tx "not there", tx "too long", tx "taken", tx "too many", tx "nothing done", tx "no note"]
def wIf (b : Bool) (x : Tx) : List Tx := if b then [x] else []
def SpWordB (K : PySem.W.Frag) (C1 C2 C3 C4 C5 C6 C7 : Addr) (cls : Value) (_ : Addr) (H : Hp) (Q : VK) : Prop := ∃ (D : Addr) (b1 b2 b3 b4 b5 b6 b7 : Bool), cls = .ref D ∧ ExcC K D ∧ PySem.W.kitOne K (.ref D) (.ref C1) = some b1 ∧ PySem.W.kitOne K (.ref D) (.ref C2) = some b2 ∧ PySem.W.kitOne K (.ref D) (.ref C3) = some b3 ∧ PySem.W.kitOne K (.ref D) (.ref C4) = some b4 ∧
  PySem.W.kitOne K (.ref D) (.ref C5) = some b5 ∧ PySem.W.kitOne K (.ref D) (.ref C6) = some b6 ∧ PySem.W.kitOne K (.ref D) (.ref C7) = some b7 ∧ PySem.W.kitOne K (.ref D) (.type "ValueError") = some true ∧
  ∀ v H', Same H H' → Dt K H' (.tup [.str (TL.joinL [] (([] ++ wIf b1 (tx "no name")) ++ wIf b2 (tx "not there") ++ wIf b3 (tx "too long") ++ wIf b4 (tx "taken") ++ wIf b5 (tx "too many") ++ wIf b6 (tx "nothing done") ++ wIf b7 (tx "no note"))), .bl true]) v → Q v H'
theorem cal_word_of {CNoName CNotThere CTooLong CTaken CTooMany CNothingDone CNoNote CTrailError : Addr} (F : Dfn K mg "_law_word_of" s__law_word_of ["_law_e"]) (BU : Bl mg) (x_NoName : Xc K mg "NoName" CNoName CTrailError) (x_NotThere : Xc K mg "NotThere" CNotThere CTrailError) (x_TooLong : Xc K mg "TooLong" CTooLong CTrailError) (x_Taken : Xc K mg "Taken" CTaken CTrailError)
    (x_TooMany : Xc K mg "TooMany" CTooMany CTrailError) (x_NothingDone : Xc K mg "NothingDone" CNothingDone CTrailError) (x_NoNote : Xc K mg "NoNote" CNoNote CTrailError) : CalE P w K mg base 1 "_law_word_of" (SpWordB K CNoName CNotThere CTooLong CTaken CTooMany CNothingDone CNoNote) := by
  have m_NoName := x_NoName.g
  have m_NotThere := x_NotThere.g
  have m_Taken := x_Taken.g
  have m_TooLong := x_TooLong.g
  have m_TooMany := x_TooMany.g
  have m_NothingDone := x_NothingDone.g
  have m_NoNote := x_NoNote.g
  refine cal_E F sc__law_word_of rfl fun cdv A outer s f H Q p cls hzc hfl hsp => ?_
  obtain ⟨D, b1, b2, b3, b4, b5, b6, b7, rfl, hexc, h1, h2, h3, h4, h5, h6, h7, h8, k⟩ := hsp
  refine ⟨_, (pss_cons (ps_set (i := 1) sc__law_word_of.nd rfl (Or.inl rfl) (pe_lst pa_nil)) (pss_cons (ps_if (pt_val (pe_callB (call_isEP (p := p) List.mem_cons_self hexc hzc hfl) (by rfl) BU.isinstance_ (by decide +kernel) (pa_cons (pv 0) (pa_cons (pe_glob (v := .ref CNoName) (by rfl) m_NoName rfl) pa_nil)))) (pss_one (ps_expr (pe_bm PySem.F.plainAttrs_list PySem.F.slot_list_append PySem.F.type_list_append mt_append (pv 1) (pa_cons pe_str pa_nil)))) pss_nil) (pss_cons (ps_if (pt_val (pe_callB (call_isEP (p := p) List.mem_cons_self hexc hzc hfl) (by rfl) BU.isinstance_ (by decide +kernel) (pa_cons (pv 0) (pa_cons (pe_glob (v := .ref CNotThere) (by rfl) m_NotThere rfl) pa_nil)))) (pss_one (ps_expr (pe_bm PySem.F.plainAttrs_list PySem.F.slot_list_append PySem.F.type_list_append mt_append (pv 1) (pa_cons pe_str pa_nil)))) pss_nil) (pss_cons (ps_if (pt_val (pe_callB (call_isEP (p := p) List.mem_cons_self hexc hzc hfl) (by rfl) BU.isinstance_ (by decide +kernel) (pa_cons (pv 0) (pa_cons (pe_glob (v := .ref CTooLong) (by rfl) m_TooLong rfl) pa_nil)))) (pss_one (ps_expr (pe_bm PySem.F.plainAttrs_list PySem.F.slot_list_append PySem.F.type_list_append mt_append (pv 1) (pa_cons pe_str pa_nil)))) pss_nil) (pss_cons (ps_if (pt_val (pe_callB (call_isEP (p := p) List.mem_cons_self hexc hzc hfl) (by rfl) BU.isinstance_ (by decide +kernel) (pa_cons (pv 0) (pa_cons (pe_glob (v := .ref CTaken) (by rfl) m_Taken rfl) pa_nil)))) (pss_one (ps_expr (pe_bm PySem.F.plainAttrs_list PySem.F.slot_list_append PySem.F.type_list_append mt_append (pv 1) (pa_cons pe_str pa_nil)))) pss_nil) (pss_cons (ps_if (pt_val (pe_callB (call_isEP (p := p) List.mem_cons_self hexc hzc hfl) (by rfl) BU.isinstance_ (by decide +kernel) (pa_cons (pv 0) (pa_cons (pe_glob (v := .ref CTooMany) (by rfl) m_TooMany rfl) pa_nil)))) (pss_one (ps_expr (pe_bm PySem.F.plainAttrs_list PySem.F.slot_list_append PySem.F.type_list_append mt_append (pv 1) (pa_cons pe_str pa_nil)))) pss_nil) (pss_cons (ps_if (pt_val (pe_callB (call_isEP (p := p) List.mem_cons_self hexc hzc hfl) (by rfl) BU.isinstance_ (by decide +kernel) (pa_cons (pv 0) (pa_cons (pe_glob (v := .ref CNothingDone) (by rfl) m_NothingDone rfl) pa_nil)))) (pss_one (ps_expr (pe_bm PySem.F.plainAttrs_list PySem.F.slot_list_append PySem.F.type_list_append mt_append (pv 1) (pa_cons pe_str pa_nil)))) pss_nil) (pss_cons (ps_if (pt_val (pe_callB (call_isEP (p := p) List.mem_cons_self hexc hzc hfl) (by rfl) BU.isinstance_ (by decide +kernel) (pa_cons (pv 0) (pa_cons (pe_glob (v := .ref CNoNote) (by rfl) m_NoNote rfl) pa_nil)))) (pss_one (ps_expr (pe_bm PySem.F.plainAttrs_list PySem.F.slot_list_append PySem.F.type_list_append mt_append (pv 1) (pa_cons pe_str pa_nil)))) pss_nil) (pss_one (ps_ret (pe_tup (pa_cons (pe_join pe_str (pv 1)) (pa_cons (pe_callB (call_isEP (p := p) List.mem_cons_self hexc hzc hfl) (by rfl) BU.isinstance_ (by decide +kernel) (pa_cons (pv 0) (pa_cons (pe_bltn (v := .ty "ValueError") (by rfl) BU.ValueError_ (by decide +kernel) rfl) pa_nil))) pa_nil))))))))))))), ?_⟩
  try dsimp only [L2H.cxH, cxOf]
  have S0 : Sl K H [some (.raw (.ref p.1)), none] (start ["_law_e", "_law_words"] [.ref p.1]) := ⟨_, _, rfl, rfl, none, _, rfl, rfl⟩
  generalize start _ [V.ref p.1] = σ at *
  refine q_asgNs (K := K) (es := []) (en_lst (ds := []) ea_nil (by decide)) fun L vs1 H1 hL0 e1 hL1 hd1 => ?_
  have ev1 : vs1 = [] := hd1
  subst ev1
  have S1 := S0.set 1 (d := .raw (.ref L)) (v := .ref L) rfl
  generalize σ.set 1 (some (V.ref L)) = σ1 at *
  have Z : Sl K H [some (.raw (.ref p.1)), some (.raw (.ref L))] σ1 := S1
  have isE : ∀ {H' : Hp} {c : V} {cv : Value} {b : Bool}, Same H H' → (∀ u, RelV c u → u = cv) → PySem.W.kitOne K (.ref D) cv = some b → Ev K (tCB (rIsE K D p.1) (tCons (tVar 0) (tCons (tC c) tNil))) σ1 H' (.bl b) := fun s hc hk => ev_isE (ev_var (Z.mono s) (i := 0) (by rfl)) hc hk
  have ho : ∀ H', Same H H' → Ev K (tVar 1) σ1 H' (.raw (.ref L)) := fun H' s => ev_var (Z.mono s) (i := 1) (by rfl)
  refine q_wd (b := b1) (ls := []) (x := tx "no name") hL0 e1 hL1 (et_B (isE e1 rel_ref h1)) ho (fun H' s => Ev.to ev_str rfl) (by decide) fun H2 s2 a2 => ?_
  refine q_wd (b := b2) (x := tx "not there") hL0 s2 a2 (et_B (isE s2 rel_ref h2)) ho (fun H' s => Ev.to ev_str rfl) (by cases b1 <;> decide) fun H3 s3 a3 => ?_
  refine q_wd (b := b3) (x := tx "too long") hL0 s3 a3 (et_B (isE s3 rel_ref h3)) ho (fun H' s => Ev.to ev_str rfl) (by cases b1 <;> cases b2 <;> decide) fun H4 s4 a4 => ?_
  refine q_wd (b := b4) (x := tx "taken") hL0 s4 a4 (et_B (isE s4 rel_ref h4)) ho (fun H' s => Ev.to ev_str rfl) (by cases b1 <;> cases b2 <;> cases b3 <;> decide) fun H5 s5 a5 => ?_
  refine q_wd (b := b5) (x := tx "too many") hL0 s5 a5 (et_B (isE s5 rel_ref h5)) ho (fun H' s => Ev.to ev_str rfl) (by cases b1 <;> cases b2 <;> cases b3 <;> cases b4 <;> decide) fun H6 s6 a6 => ?_
  refine q_wd (b := b6) (x := tx "nothing done") hL0 s6 a6 (et_B (isE s6 rel_ref h6)) ho (fun H' s => Ev.to ev_str rfl) (by cases b1 <;> cases b2 <;> cases b3 <;> cases b4 <;> cases b5 <;> decide) fun H7 s7 a7 => ?_
  refine q_wd (b := b7) (x := tx "no note") hL0 s7 a7 (et_B (isE s7 rel_ref h7)) ho (fun H' s => Ev.to ev_str rfl) (by cases b1 <;> cases b2 <;> cases b3 <;> cases b4 <;> cases b5 <;> cases b6 <;> decide) fun H8 s8 a8 => ?_
  have hlen : ∀ l ∈ ([] ++ wIf b1 (tx "no name")) ++ wIf b2 (tx "not there") ++ wIf b3 (tx "too long") ++ wIf b4 (tx "taken") ++ wIf b5 (tx "too many") ++ wIf b6 (tx "nothing done") ++ wIf b7 (tx "no note"), l.length ≤ 20 := by
    cases b1 <;> cases b2 <;> cases b3 <;> cases b4 <;> cases b5 <;> cases b6 <;> cases b7 <;> decide +kernel
  have hcn : (([] ++ wIf b1 (tx "no name")) ++ wIf b2 (tx "not there") ++ wIf b3 (tx "too long") ++ wIf b4 (tx "taken") ++ wIf b5 (tx "too many") ++ wIf b6 (tx "nothing done") ++ wIf b7 (tx "no note")).length ≤ 7 := by
    cases b1 <;> cases b2 <;> cases b3 <;> cases b4 <;> cases b5 <;> cases b6 <;> cases b7 <;> decide +kernel
  refine s_ret (d := .tup [.str (TL.joinL [] (([] ++ wIf b1 (tx "no name")) ++ wIf b2 (tx "not there") ++ wIf b3 (tx "too long") ++ wIf b4 (tx "taken") ++ wIf b5 (tx "too many") ++ wIf b6 (tx "nothing done") ++ wIf b7 (tx "no note"))), .bl true]) (ev_tup (ea_cons (ev_join (s := []) (B := 20) (Ev.to ev_str rfl) (ev_own (ho _ s8) a8 (dts_S _)) hlen ?_) (ea_cons (isE s8 rel_ty h8) ea_nil)) (by show 2 ≤ 100000; decide)) fun v H9 e9 hv => k v H9 (s8.trans e9) hv
  show _ * 20 + _ * 0 ≤ 16777216
  omega
end
end Rt

namespace Rt
open PySem PySem.Spec PyProof.Rows L2
section
variable {P : Program} {w : World} {K : PySem.W.Frag} {mg : Str → Option Value} {base : Heap}
inductive TOut where
  | err (c : Addr)
  | did (t : OT) (past : List OT) (d : D)
def liftO (past : List OT) (g : OT) : Out → TOut
  | .err c => .err c
  | .did t d => .did t (past ++ [g]) d
def WordOf (C1 C2 C3 C4 C5 C6 c : Addr) (w : Tx) : Prop := (c = C1 ∧ w = tx "no name") ∨ (c = C2 ∧ w = tx "not there") ∨ (c = C3 ∧ w = tx "too long") ∨ (c = C4 ∧ w = tx "taken") ∨ (c = C5 ∧ w = tx "too many") ∨ (c = C6 ∧ w = tx "nothing done")
/-- what a deed of this way does -/
def Otr (C1 C2 C3 C4 C5 C6 : Addr) (way : Int) (g : OT) (rows : Rows) (past : List OT) (v1 v2 : V) (b1 b2 : Bool) (n : Int) (o : TOut) : Prop :=
  (way = 0 → ∃ u, Okeep C1 C5 g rows v1 b1 n u ∧ o = liftO past g u) ∧ (way = 1 → ∃ u, Odrop C1 C2 g v1 b1 u ∧ o = liftO past g u) ∧ (way = 2 → ∃ u, Oprune C1 C2 g v1 b1 u ∧ o = liftO past g u) ∧
  (way = 3 → ∃ u, Omove C1 C2 C3 C4 g v1 v2 b1 b2 u ∧ o = liftO past g u) ∧ (way = 4 → ∃ u, Ograft C1 C2 C3 C4 C5 g rows v1 v2 b1 b2 u ∧ o = liftO past g u) ∧ (way = 5 → (past = [] → o = .err C6) ∧ ∀ r t, past = r ++ [t] → o = .did t r .non)
def TOut.Q (K : PySem.W.Frag) (C p l : Addr) (W : Addr → Tx → Prop) (H : Hp) (Q : VK) : TOut → Prop
  | .err c => ∃ w, W c w ∧ ∀ v H', Same H H' → Dt K H' (.tup [.str w, .bl true]) v → Q v H'
  | .did t past d => ∀ v H', Keep2 p l H H' → TrAt K C H' p l t past → Dt K H' (.tup [.str (tx "told"), d]) v → Q v H'
def SpTried (K : PySem.W.Frag) (C C1 C2 C3 C4 C5 C6 : Addr) : Sp := fun vs H Q _ => ∃ p l g past rows way d1 d2 b1 b2 n v1 v2, vs = [.ref p, .int way, v1, v2, .int n] ∧ Dt K H d1 v1 ∧ Dt K H d2 v2 ∧ ThD d1 b1 ∧ ThD d2 b2 ∧ TrAt K C H p l g past ∧ past.length ≤ 10000 ∧ TrOk g rows ∧
  ((0 ≤ way ∧ way ≤ 5 ∧ ∃ o, Otr C1 C2 C3 C4 C5 C6 way g rows past v1 v2 b1 b2 n o ∧ o.Q K C p l (WordOf C1 C2 C3 C4 C5 C6) H Q) ∨
   (way = 6 ∧ (b1 = false → ∀ v H', Same H H' → Dt K H' (.tup [.str (tx "no name"), .bl true]) v → Q v H') ∧ (b1 = true → ∀ x, d1 = .str x → ∀ t q ws H', H q = none → H t = none → Same H H' → H' q = some (.lst ws) → Dts K H' ((belowR rows x).map rowD) ws → H' t = some (.tup [.str (S (tx "told")), .ref q]) → Q (.ref t) H')))
theorem thd_val {d : D} {b : Bool} {H H' : Hp} {v v' : V} (h : ThD d b) (h1 : Dt K H d v) (h2 : Dt K H' d v') : v = v' := by
  rcases h with ⟨l, rfl, _, _⟩ | ⟨rfl | ⟨i, rfl⟩, _⟩
  · exact (show v = .str (S l) from h1).trans (show v' = .str (S l) from h2).symm
  · exact (show v = .non from h1).trans (show v' = .non from h2).symm
  · exact (show v = .int i from h1).trans (show v' = .int i from h2).symm
section
variable {σ : L2.St} {H : Hp} {ta tb tc : TE} {C p l CNo CNot CLong CTaken CMany CND : Addr} {g : OT} {past : List OT} {rows : Rows} {E : L2.St → XK} {Q : VK} {d d1 d2 : D} {b b1 b2 : Bool} {n : Int} {v0 v1 v2 : V} {o : Out}
theorem t_keep (ha : Ev K ta σ H (.raw (.ref p))) (hb : Ev K tb σ H d) (hc : Ev K tc σ H (.int n)) (hd : ThD d b) (h0 : Dt K H d v0) (ht : TrAt K C H p l g past) (hz : past.length ≤ 10000) (ok : TrOk g rows) (ho : Okeep CNo CMany g rows v0 b n o)
    (kE : ∀ c, o = .err c → ∀ H', Same H H' → E σ (.ref c) none H') (kQ : ∀ t e, o = .did t e → ∀ v H', Keep2 p l H H' → TrAt K C H' p l t (past ++ [g]) → Dt K H' e v → Q v H') : tMethS C "keep" (SpKeep K C CNo CMany) E ta (tCons tb (tCons tc tNil)) σ H Q :=
  ha H (Same.refl H) _ fun x H1 e1 hx => by
    obtain ⟨dx, vg, vs, h1, h2, h3, h4⟩ := (ht.mono e1).ex
    refine ⟨p, dx, _, hx, h1, tf_noM (by decide +kernel) (by decide +kernel) _ _, hb H1 e1 _ fun y H2 e2 hy => hc H2 (e1.trans e2) _ fun z H3 e3 hz3 => ?_⟩
    have e := (e1.trans e2).trans e3
    rw [← thd_val hd hy h0] at ho
    refine ⟨p, l, g, past, rows, y, b, n, o, by rw [show x = .ref p from hx, show z = .int n from hz3], ht.mono e, hz, ok, hd.th (Dt.mono e3 _ hy), ho, ?_⟩
    cases o with
    | err c => exact fun H' s => kE c rfl H' (e.trans s)
    | did t u => exact fun v H' k2 t2 hv => kQ t u rfl v H' (same_k2 e k2) t2 hv
theorem t_drop (ha : Ev K ta σ H (.raw (.ref p))) (hb : Ev K tb σ H d) (hd : ThD d b) (h0 : Dt K H d v0) (ht : TrAt K C H p l g past) (hz : past.length ≤ 10000) (ok : TrOk g rows) (ho : Odrop CNo CNot g v0 b o)
    (kE : ∀ c, o = .err c → ∀ H', Same H H' → E σ (.ref c) none H') (kQ : ∀ t e, o = .did t e → ∀ v H', Keep2 p l H H' → TrAt K C H' p l t (past ++ [g]) → Dt K H' e v → Q v H') : tMethS C "drop" (SpDrop K C CNo CNot) E ta (tCons tb tNil) σ H Q :=
  ha H (Same.refl H) _ fun x H1 e1 hx => by
    obtain ⟨dx, vg, vs, h1, h2, h3, h4⟩ := (ht.mono e1).ex
    refine ⟨p, dx, _, hx, h1, tf_noM (by decide +kernel) (by decide +kernel) _ _, hb H1 e1 _ fun y H2 e2 hy => ?_⟩
    have e := e1.trans e2
    rw [← thd_val hd hy h0] at ho
    refine ⟨p, l, g, past, rows, y, b, o, by rw [show x = .ref p from hx], ht.mono e, hz, ok, hd.th hy, ho, ?_⟩
    cases o with
    | err c => exact fun H' s => kE c rfl H' (e.trans s)
    | did t u => exact fun v H' k2 t2 hv => kQ t u rfl v H' (same_k2 e k2) t2 hv
theorem t_prune (ha : Ev K ta σ H (.raw (.ref p))) (hb : Ev K tb σ H d) (hd : ThD d b) (h0 : Dt K H d v0) (ht : TrAt K C H p l g past) (hz : past.length ≤ 10000) (ok : TrOk g rows) (ho : Oprune CNo CNot g v0 b o)
    (kE : ∀ c, o = .err c → ∀ H', Same H H' → E σ (.ref c) none H') (kQ : ∀ t e, o = .did t e → ∀ v H', Keep2 p l H H' → TrAt K C H' p l t (past ++ [g]) → Dt K H' e v → Q v H') : tMethS C "prune" (SpPrune K C CNo CNot) E ta (tCons tb tNil) σ H Q :=
  ha H (Same.refl H) _ fun x H1 e1 hx => by
    obtain ⟨dx, vg, vs, h1, h2, h3, h4⟩ := (ht.mono e1).ex
    refine ⟨p, dx, _, hx, h1, tf_noM (by decide +kernel) (by decide +kernel) _ _, hb H1 e1 _ fun y H2 e2 hy => ?_⟩
    have e := e1.trans e2
    rw [← thd_val hd hy h0] at ho
    refine ⟨p, l, g, past, rows, y, b, o, by rw [show x = .ref p from hx], ht.mono e, hz, ok, hd.th hy, ho, ?_⟩
    cases o with
    | err c => exact fun H' s => kE c rfl H' (e.trans s)
    | did t u => exact fun v H' k2 t2 hv => kQ t u rfl v H' (same_k2 e k2) t2 hv
theorem t_move (ha : Ev K ta σ H (.raw (.ref p))) (hb : Ev K tb σ H d1) (hc : Ev K tc σ H d2) (hd1 : ThD d1 b1) (hd2 : ThD d2 b2) (h1' : Dt K H d1 v1) (h2' : Dt K H d2 v2) (ht : TrAt K C H p l g past) (hz : past.length ≤ 10000) (ok : TrOk g rows) (ho : Omove CNo CNot CLong CTaken g v1 v2 b1 b2 o)
    (kE : ∀ c, o = .err c → ∀ H', Same H H' → E σ (.ref c) none H') (kQ : ∀ t e, o = .did t e → ∀ v H', Keep2 p l H H' → TrAt K C H' p l t (past ++ [g]) → Dt K H' e v → Q v H') : tMethS C "move" (SpMove K C CNo CNot CLong CTaken) E ta (tCons tb (tCons tc tNil)) σ H Q :=
  ha H (Same.refl H) _ fun x H1 e1 hx => by
    obtain ⟨dx, vg, vs, h1, h2, h3, h4⟩ := (ht.mono e1).ex
    refine ⟨p, dx, _, hx, h1, tf_noM (by decide +kernel) (by decide +kernel) _ _, hb H1 e1 _ fun y H2 e2 hy => hc H2 (e1.trans e2) _ fun z H3 e3 hz3 => ?_⟩
    have e := (e1.trans e2).trans e3
    rw [← thd_val hd1 hy h1', ← thd_val hd2 hz3 h2'] at ho
    refine ⟨p, l, g, past, rows, y, z, b1, b2, o, by rw [show x = .ref p from hx], ht.mono e, hz, ok, hd1.th (Dt.mono e3 _ hy), hd2.th hz3, ho, ?_⟩
    cases o with
    | err c => exact fun H' s => kE c rfl H' (e.trans s)
    | did t u => exact fun v H' k2 t2 hv => kQ t u rfl v H' (same_k2 e k2) t2 hv
theorem t_graft (ha : Ev K ta σ H (.raw (.ref p))) (hb : Ev K tb σ H d1) (hc : Ev K tc σ H d2) (hd1 : ThD d1 b1) (hd2 : ThD d2 b2) (h1' : Dt K H d1 v1) (h2' : Dt K H d2 v2) (ht : TrAt K C H p l g past) (hz : past.length ≤ 10000) (ok : TrOk g rows) (ho : Ograft CNo CNot CLong CTaken CMany g rows v1 v2 b1 b2 o)
    (kE : ∀ c, o = .err c → ∀ H', Same H H' → E σ (.ref c) none H') (kQ : ∀ t e, o = .did t e → ∀ v H', Keep2 p l H H' → TrAt K C H' p l t (past ++ [g]) → Dt K H' e v → Q v H') : tMethS C "graft" (SpGraft K C CNo CNot CLong CTaken CMany) E ta (tCons tb (tCons tc tNil)) σ H Q :=
  ha H (Same.refl H) _ fun x H1 e1 hx => by
    obtain ⟨dx, vg, vs, h1, h2, h3, h4⟩ := (ht.mono e1).ex
    refine ⟨p, dx, _, hx, h1, tf_noM (by decide +kernel) (by decide +kernel) _ _, hb H1 e1 _ fun y H2 e2 hy => hc H2 (e1.trans e2) _ fun z H3 e3 hz3 => ?_⟩
    have e := (e1.trans e2).trans e3
    rw [← thd_val hd1 hy h1', ← thd_val hd2 hz3 h2'] at ho
    refine ⟨p, l, g, past, rows, y, z, b1, b2, o, by rw [show x = .ref p from hx], ht.mono e, hz, ok, hd1.th (Dt.mono e3 _ hy), hd2.th hz3, ho, ?_⟩
    cases o with
    | err c => exact fun H' s => kE c rfl H' (e.trans s)
    | did t u => exact fun v H' k2 t2 hv => kQ t u rfl v H' (same_k2 e k2) t2 hv
theorem keep2_same' {p l : Addr} {H H1 H2 : Hp} (k : Keep2 p l H H1) (e : Same H1 H2) : Keep2 p l H H2 := fun b o n1 n2 h => e _ _ (k b o n1 n2 h)
/-- ("told", .. ) where the second is a method's call -/
theorem s_told {te : TE} {x : Str} {Ee : Ends} (h : te σ H fun v H' => ∀ t, H' t = none → Ee.rt (.ref t) (upd H' t (.tup [.str x, v]))) : tRet (tTup (tCons (tC (.str x)) (tCons te tNil))) Ee σ H := by
  show te σ H fun v H' => 2 ≤ sizeLine ∧ ∀ t, H' t = none → Ee.rt (.ref t) (upd H' t (.tup [.str x, v]))
  have h2 : (2 ≤ sizeLine) = True := eq_true (small (by decide))
  simp only [h2, true_and]
  exact h
end
end
end Rt

namespace Rt
open PySem L2
theorem dis_perm {l m : Rows} (h : l.Perm m) (d : Dis m) : Dis l := (h.pairwise_iff (fun {_ _} q => q.symm)).mpr d
theorem trok_mem {t : OT} {rows R : Rows} (tok : TrOk t rows) (hd : Dis R) (h : ∀ p, p ∈ R ↔ p ∈ rows) : TrOk t (srtR R) ∧ DOk R := by
  have e : srtR R = rows := srtR_is hd tok.fine.srt h
  rw [e]
  refine ⟨tok, hd, fun p hp => tok.fine.ok p ((h p).mp hp), fun p hp => tok.fine.len p ((h p).mp hp), ?_⟩
  rw [← (srtR_perm R).length_eq, e]; exact tok.cnt
theorem trok_perm {t : OT} {rows R : Rows} (tok : TrOk t rows) (h : R.Perm rows) : TrOk t (srtR R) ∧ DOk R := trok_mem tok (dis_perm h tok.fine.srt.dis) fun _ => h.mem_iff
theorem find_look {g : OT} {R : Rows} (ok : DOk R) (tok : TrOk g (srtR R)) (x : Tx) : OT.find g x = lookD R x := by
  have h : ∀ n, OT.find g x = some n ↔ lookD R x = some n := fun n => by rw [lookD_mem ok.dis, tok.rep.find, (srtR_perm R).mem_iff]
  cases q : OT.find g x with
  | none =>
    cases q2 : lookD R x with
    | none => rfl
    | some n => rw [(h n).mpr q2] at q; cases q
  | some n => exact ((h n).mp q).symm
/-- the outcome and what is due agree -/
def Dm (C1 C2 C3 C4 C5 C6 : Addr) (R : Rows) (r : Tx × D × Rows) (u : Out) : Prop := (∃ c, u = .err c ∧ WordOf C1 C2 C3 C4 C5 C6 c r.1 ∧ r.2.1 = .bl true ∧ r.2.2 = R) ∨ (∃ t, u = .did t r.2.1 ∧ r.1 = tx "told" ∧ TrOk t (srtR r.2.2) ∧ DOk r.2.2)
section
variable {C1 C2 C3 C4 C5 C6 : Addr} {R : Rows} {g : OT} {H : Hp} {d1 d2 : D} {b1 b2 : Bool} {n : Int} {v1 v2 : V}
theorem due_noname {way : Int} (h : b1 = false ∨ (2 < way ∧ b2 = false)) : dueF R way d1 d2 b1 b2 n = (tx "no name", .bl true, R) := by unfold dueF; rw [if_pos h]
theorem the_val {d : D} {v : V} (th : ThE d true) (h : Dt K H d v) : ∃ x, d = .str x ∧ v = .str (S x) ∧ x.length ≤ 40 ∧ okT x := by
  obtain ⟨l, rfl, h1, h2⟩ := th.str
  exact ⟨l, rfl, h, h1, h2⟩
theorem left_lt {way : Int} {x : Tx} (hw : way < 2) : leftR R way x = R.filter fun p => !decide (p.1 = x) := by
  unfold leftR
  congr 1
  funext p
  rw [decide_eq_false (by omega), decide_eq_true hw]; rfl
theorem left_2 {x : Tx} : leftR R 2 x = R.filter fun p => !preB x p := by
  unfold leftR
  congr 1
  funext p
  rw [decide_eq_true rfl, decide_eq_false (by decide)]
  cases preB x p <;> cases decide (p.1 = x) <;> rfl
theorem look_left {way : Int} {x : Tx} (hw : way < 2) : lookD (leftR R way x) x = none := lookD_none.mpr fun p hp e => by
  rw [left_lt hw] at hp
  have := (List.mem_filter.mp hp).2
  rw [decide_eq_true e] at this; cases this
theorem due_keep (ok : DOk R) (tok : TrOk g (srtR R)) (th1 : ThE d1 b1) (h1 : Dt K H d1 v1) : ∃ u, Okeep C1 C5 g (srtR R) v1 b1 n u ∧ Dm C1 C2 C3 C4 C5 C6 R (dueF R 0 d1 d2 b1 b2 n) u := by
  cases b1 with
  | false => exact ⟨.err C1, ⟨fun _ => rfl, fun z => by cases z⟩, .inl ⟨C1, rfl, by rw [due_noname (.inl rfl)]; exact .inl ⟨rfl, rfl⟩, by rw [due_noname (.inl rfl)], by rw [due_noname (.inl rfl)]⟩⟩
  | true =>
    obtain ⟨x, rfl, rfl, hl, hx⟩ := the_val th1 h1
    have inj : ∀ x', V.str (S x) = .str (S x') → x' = x := fun x' e => (S_inj (V.str.inj e)).symm
    have hf := find_look ok tok x
    have hlen : (srtR R).length = R.length := (srtR_perm R).length_eq
    have e0 : dueF R 0 (.str x) d2 true b2 n = if lookD R x = none ∧ R.length = 100 then (tx "too many", .bl true, R) else (tx "told", optD (lookD R x), putD (leftR R 0 x) x n) := by
      rw [dueF_x, if_neg (by rintro (z | ⟨z, _⟩); cases z; omega), if_neg (by decide), if_neg (fun z => absurd z.1 (by decide)), if_neg (by decide)]
      by_cases q : lookD R x = none ∧ R.length = 100
      · rw [if_pos ⟨rfl, q⟩, if_pos q]
      · rw [if_neg (fun z => q z.2), if_neg q, if_pos rfl]
    rw [e0]
    by_cases q : lookD R x = none ∧ R.length = 100
    · rw [if_pos q]
      exact ⟨.err C5, ⟨fun z => (by cases z), fun _ x' e => by rw [inj x' e]; exact ⟨fun _ => rfl, fun z => absurd ⟨by rw [hf]; exact q.1, by rw [hlen]; exact q.2⟩ z⟩⟩, .inl ⟨C5, rfl, .inr (.inr (.inr (.inr (.inl ⟨rfl, rfl⟩)))), rfl, rfl⟩⟩
    · rw [if_neg q]
      have q' : ¬ (OT.find g x = none ∧ (srtR R).length = 100) := fun z => q ⟨by rw [← hf]; exact z.1, by rw [← hlen]; exact z.2⟩
      obtain ⟨r, hr, hfr⟩ := OT.put_ex tok.rep.1 x n
      have tok' := tok.put hx hl hr hfr q'
      have ep : putD (leftR R 0 x) x n = leftR R 0 x ++ [(x, n)] := by
        unfold putD
        rw [look_left (by decide)]; rfl
      have hd : Dis (leftR R 0 x ++ [(x, n)]) := List.pairwise_append.mpr ⟨dis_filter ok.dis _, List.pairwise_singleton _ _, fun p hp q hq => by
        rw [List.mem_singleton.mp hq]
        exact lookD_none.mp (look_left (by decide)) p hp⟩
      have hm : ∀ p, p ∈ leftR R 0 x ++ [(x, n)] ↔ p ∈ OT.names (some r) := fun p => by
        rw [← tok'.rep.find p.1 p.2]
        show _ ↔ r.find p.1 = some p.2
        rw [hfr, List.mem_append, List.mem_singleton]
        by_cases c : p.1 = x
        · rw [if_pos c]
          constructor
          · rintro (z | z)
            · exact absurd c (lookD_none.mp (look_left (by decide)) p z)
            · rw [z]
          · intro z
            refine .inr ?_
            obtain ⟨p1, p2⟩ := p
            have z' : n = p2 := Option.some.inj z
            have c' : p1 = x := c
            rw [z', c']
        · rw [if_neg c, find_look ok tok p.1, lookD_mem_at ok.dis]
          constructor
          · rintro (z | z)
            · exact (List.mem_filter.mp z).1
            · rw [z] at c; exact absurd rfl c
          · intro z
            refine .inl ?_
            rw [left_lt (by decide)]
            exact List.mem_filter.mpr ⟨z, by rw [decide_eq_false c]; rfl⟩
      obtain ⟨a1, a2⟩ := trok_mem tok' hd hm
      refine ⟨.did (some r) (optD (OT.find g x)), ⟨fun z => (by cases z), fun _ x' e => by rw [inj x' e]; exact ⟨fun z => absurd z q', fun _ => ⟨r, hr, hfr, rfl⟩⟩⟩, .inr ⟨some r, by rw [hf], rfl, ?_, ?_⟩⟩
      · rw [ep]; exact a1
      · rw [ep]; exact a2
theorem due_drop (ok : DOk R) (tok : TrOk g (srtR R)) (th1 : ThE d1 b1) (h1 : Dt K H d1 v1) : ∃ u, Odrop C1 C2 g v1 b1 u ∧ Dm C1 C2 C3 C4 C5 C6 R (dueF R 1 d1 d2 b1 b2 n) u := by
  cases b1 with
  | false => exact ⟨.err C1, ⟨fun _ => rfl, fun z => by cases z⟩, .inl ⟨C1, rfl, by rw [due_noname (.inl rfl)]; exact .inl ⟨rfl, rfl⟩, by rw [due_noname (.inl rfl)], by rw [due_noname (.inl rfl)]⟩⟩
  | true =>
    obtain ⟨x, rfl, rfl, hl, hx⟩ := the_val th1 h1
    have inj : ∀ x', V.str (S x) = .str (S x') → x' = x := fun x' e => (S_inj (V.str.inj e)).symm
    have hf := find_look ok tok x
    have hfl : (leftR R 1 x).length = R.length ↔ lookD R x = none := by
      rw [left_lt (by decide), List.length_filter_eq_length_iff, lookD_none]
      exact forall_congr' fun p => imp_congr Iff.rfl (by rw [Bool.not_eq_true', decide_eq_false_iff_not])
    have e0 : dueF R 1 (.str x) d2 true b2 n = if lookD R x = none then (tx "not there", .bl true, R) else (tx "told", optD (lookD R x), leftR R 1 x) := by
      rw [dueF_x, if_neg (by rintro (z | ⟨z, _⟩); cases z; omega), if_neg (by decide)]
      by_cases q : lookD R x = none
      · rw [if_pos ⟨by decide, hfl.mpr q⟩, if_pos q]
      · rw [if_neg (fun z => q (hfl.mp z.2)), if_neg (by decide), if_neg (fun z => absurd z.1 (by decide)), if_neg q, if_neg (by decide)]
    rw [e0]
    cases q : lookD R x with
    | none =>
      rw [if_pos rfl]
      exact ⟨.err C2, ⟨fun z => (by cases z), fun _ x' e => by rw [inj x' e]; exact ⟨fun _ => rfl, fun m z => (by rw [hf, q] at z; cases z)⟩⟩, .inl ⟨C2, rfl, .inr (.inl ⟨rfl, rfl⟩), rfl, rfl⟩⟩
    | some m =>
      rw [if_neg (by intro z; cases z)]
      obtain ⟨r, hr⟩ := ThinR.ex tok.rep.1 x
      have tok' := tok.thin hr
      have hm : ∀ p, p ∈ leftR R 1 x ↔ p ∈ OT.names r := fun p => by
        rw [← tok'.rep.find p.1 p.2, hr.f, left_lt (by decide), List.mem_filter]
        by_cases c : p.1 = x
        · rw [if_pos c, decide_eq_true c]
          exact ⟨fun z => (by cases z.2), fun z => by cases z⟩
        · rw [if_neg c, decide_eq_false c, find_look ok tok, lookD_mem_at ok.dis]
          exact ⟨fun z => z.1, fun z => ⟨z, rfl⟩⟩
      obtain ⟨a1, a2⟩ := trok_mem tok' (dis_filter ok.dis _) hm
      refine ⟨.did r (.int m), ⟨fun z => (by cases z), fun _ x' e => ?_⟩, .inr ⟨r, rfl, rfl, a1, a2⟩⟩
      rw [inj x' e]
      refine ⟨fun z => (by rw [hf, q] at z; cases z), fun k z => ⟨r, hr, ?_⟩⟩
      rw [hf, q] at z
      cases z
      rfl
theorem grp_gone {x : Tx} (tok : TrOk g (srtR R)) {a c : OT} (hc : CutR g x a c) : OT.names c = (grpR R x).map (fun p => (p.1.drop x.length, p.2)) ∧ (c = none ↔ grpR R x = []) ∧ OT.names a = stayR (srtR R) x := by
  obtain ⟨r1, r2⟩ := hc.reps tok.rep
  have e : OT.names c = (grpR R x).map (fun p => (p.1.drop x.length, p.2)) := r2.2
  refine ⟨e, ⟨fun z => ?_, fun z => ?_⟩, r1.2⟩
  · rw [z] at e
    exact List.map_eq_nil_iff.mp e.symm
  · rw [z] at e
    exact r2.uniq (b := none) ⟨trivial, by rw [← r2.2, e]; rfl⟩
theorem filt_perm {f : Tx × Int → Bool} : (R.filter f).Perm ((srtR R).filter f) := ((srtR_perm R).filter f).symm
theorem left_cnt {x : Tx} : (leftR R 2 x).length + (grpR R x).length = R.length := by
  rw [left_2]
  have h := filt_split R fun p => preB x p
  have e : (grpR R x).length = (R.filter fun p => preB x p).length := by
    unfold grpR
    exact ((srtR_perm R).filter _).length_eq
  omega
theorem due_prune (ok : DOk R) (tok : TrOk g (srtR R)) (th1 : ThE d1 b1) (h1 : Dt K H d1 v1) : ∃ u, Oprune C1 C2 g v1 b1 u ∧ Dm C1 C2 C3 C4 C5 C6 R (dueF R 2 d1 d2 b1 b2 n) u := by
  cases b1 with
  | false => exact ⟨.err C1, ⟨fun _ => rfl, fun z => by cases z⟩, .inl ⟨C1, rfl, by rw [due_noname (.inl rfl)]; exact .inl ⟨rfl, rfl⟩, by rw [due_noname (.inl rfl)], by rw [due_noname (.inl rfl)]⟩⟩
  | true =>
    obtain ⟨x, rfl, rfl, hl, hx⟩ := the_val th1 h1
    have inj : ∀ x', V.str (S x) = .str (S x') → x' = x := fun x' e => (S_inj (V.str.inj e)).symm
    obtain ⟨a, c, hc⟩ := CutR.ex tok.rep.1 x
    obtain ⟨hn, hcn, ha⟩ := grp_gone tok hc
    have hlc := left_cnt (R := R) (x := x)
    have hfl : (leftR R 2 x).length = R.length ↔ grpR R x = [] := by
      rw [← List.length_eq_zero_iff]; omega
    have e0 : dueF R 2 (.str x) d2 true b2 n = if grpR R x = [] then (tx "not there", .bl true, R) else (tx "told", .int ((R.length : Int) - ((leftR R 2 x).length : Int)), leftR R 2 x) := by
      rw [dueF_x, if_neg (by rintro (z | ⟨z, _⟩); cases z; omega), if_neg (by decide)]
      by_cases q : grpR R x = []
      · rw [if_pos ⟨by decide, hfl.mpr q⟩, if_pos q]
      · rw [if_neg (fun z => q (hfl.mp z.2)), if_pos rfl, if_neg q]
    rw [e0]
    by_cases q : grpR R x = []
    · rw [if_pos q]
      exact ⟨.err C2, ⟨fun z => (by cases z), fun _ x' e => by rw [inj x' e]; exact ⟨a, c, hc, fun _ => rfl, fun z => absurd (hcn.mpr q) z⟩⟩, .inl ⟨C2, rfl, .inr (.inl ⟨rfl, rfl⟩), rfl, rfl⟩⟩
    · rw [if_neg q]
      have hp : (leftR R 2 x).Perm (stayR (srtR R) x) := by
        rw [left_2]
        exact filt_perm
      obtain ⟨a1, a2⟩ := trok_perm (tok.cut hc) hp
      refine ⟨.did a (.int ((OT.names c).length : Int)), ⟨fun z => (by cases z), fun _ x' e => by rw [inj x' e]; exact ⟨a, c, hc, fun z => absurd (hcn.mp z) q, fun _ => rfl⟩⟩, .inr ⟨a, ?_, rfl, a1, a2⟩⟩
      rw [hn, List.length_map]
      exact congrArg (Out.did a) (congrArg D.int (by omega))
theorem long_any {x z : Tx} (tok : TrOk g (srtR R)) {a c : OT} (hc : CutR g x a c) : LongR c z ↔ (grpR R x).any (fun p => decide (40 < (newT x z p.1).length)) = true := by
  unfold LongR
  rw [(grp_gone tok hc).1, List.any_eq_true]
  constructor
  · rintro ⟨p, hp, h⟩
    obtain ⟨q, hq, rfl⟩ := List.mem_map.mp hp
    exact ⟨q, hq, decide_eq_true (by unfold newT; rw [List.length_append]; exact h)⟩
  · rintro ⟨q, hq, h⟩
    exact ⟨_, List.mem_map.mpr ⟨q, hq, rfl⟩, by have := of_decide_eq_true h; unfold newT at this; rw [List.length_append] at this; exact this⟩
theorem fresh_is {x z : Tx} : freshR (srtR R) x z = (grpR R x).map fun p => (newT x z p.1, p.2) := rfl
theorem taken_any {x z : Tx} {K0 : Rows} {t : OT} {c : OT} (rk : Rep (srtR K0) t) (rf : Rep (freshR (srtR R) x z) (OT.pre z c)) : Disj t (OT.pre z c) ↔ ¬ ((grpR R x).any (fun p => (lookD K0 (newT x z p.1)).isSome) = true) := by
  rw [disj_rows rk rf, List.any_eq_true]
  constructor
  · rintro h ⟨p, hp, q⟩
    have := h (newT x z p.1, p.2) (by rw [fresh_is]; exact List.mem_map.mpr ⟨p, hp, rfl⟩)
    refine this ?_
    cases e : lookD K0 (newT x z p.1) with
    | none => rw [e] at q; cases q
    | some m =>
      unfold lookD at e
      cases e2 : K0.find? fun u => decide (u.1 = newT x z p.1) with
      | none => rw [e2] at e; cases e
      | some u =>
        have h0 := List.find?_some (p := fun u : Tx × Int => decide (u.1 = newT x z p.1)) e2
        have h1 : u.1 = newT x z p.1 := of_decide_eq_true h0
        have h2 := List.mem_of_find?_eq_some e2
        exact List.mem_map.mpr ⟨u, (srtR_perm K0).mem_iff.mpr h2, h1⟩
  · intro h p hp hm
    rw [fresh_is] at hp
    obtain ⟨q, hq, rfl⟩ := List.mem_map.mp hp
    refine h ⟨q, hq, ?_⟩
    obtain ⟨u, hu, e⟩ := List.mem_map.mp hm
    have hu' := (srtR_perm K0).mem_iff.mp hu
    cases e2 : lookD K0 (newT x z q.1) with
    | some m => rfl
    | none => exact absurd e (lookD_none.mp e2 u hu')
theorem kept_t {x : Tx} : keptR R x true = R := by
  unfold keptR
  exact List.filter_eq_self.mpr fun p _ => rfl
theorem kept_f {x : Tx} : keptR R x false = leftR R 2 x := by
  unfold keptR
  rw [left_2]; rfl
theorem branch_noname (h : b1 = false ∨ b2 = false) {way : Int} (hw : 2 < way) : dueF R way d1 d2 b1 b2 n = (tx "no name", .bl true, R) := due_noname (h.imp_right fun z => ⟨hw, z⟩)
theorem due_move (ok : DOk R) (tok : TrOk g (srtR R)) (th1 : ThE d1 b1) (th2 : ThE d2 b2) (h1 : Dt K H d1 v1) (h2 : Dt K H d2 v2) : ∃ u, Omove C1 C2 C3 C4 g v1 v2 b1 b2 u ∧ Dm C1 C2 C3 C4 C5 C6 R (dueF R 3 d1 d2 b1 b2 n) u := by
  by_cases hb : b1 = false ∨ b2 = false
  · rw [branch_noname hb (by decide)]
    exact ⟨.err C1, ⟨fun _ => rfl, fun z1 z2 => by rcases hb with q | q <;> simp_all⟩, .inl ⟨C1, rfl, .inl ⟨rfl, rfl⟩, rfl, rfl⟩⟩
  obtain ⟨rfl, rfl⟩ := or_ff hb
  obtain ⟨x, rfl, rfl, hl, hx⟩ := the_val th1 h1
  obtain ⟨z, rfl, rfl, hl2, hz⟩ := the_val th2 h2
  have inj : ∀ {x x'}, V.str (S x) = .str (S x') → x' = x := fun e => (S_inj (V.str.inj e)).symm
  obtain ⟨a, c, hc⟩ := CutR.ex tok.rep.1 x
  obtain ⟨hn, hcn, ha⟩ := grp_gone tok hc
  have e0 : dueF R 3 (.str x) (.str z) true true n = brF R x z false := by
    rw [dueF_x, if_neg (by rintro (q | ⟨_, q⟩) <;> cases q), if_pos (by decide)]; rfl
  rw [e0]
  unfold brF
  by_cases q : grpR R x = []
  · rw [if_pos q]
    exact ⟨.err C2, ⟨fun w => absurd w hb, fun _ _ x' z' e e2 => by rw [inj e, inj e2]; exact ⟨a, c, hc, fun _ => rfl, fun w => absurd (hcn.mpr q) w, fun w => absurd (hcn.mpr q) w⟩⟩, .inl ⟨C2, rfl, .inr (.inl ⟨rfl, rfl⟩), rfl, rfl⟩⟩
  rw [if_neg q]
  have qc : ¬ c = none := fun w => q (hcn.mp w)
  by_cases hL : LongR c z
  · rw [if_pos ((long_any tok hc).mp hL)]
    exact ⟨.err C3, ⟨fun w => absurd w hb, fun _ _ x' z' e e2 => by rw [inj e, inj e2]; exact ⟨a, c, hc, fun w => absurd w qc, fun _ _ => rfl, fun _ w => absurd hL w⟩⟩, .inl ⟨C3, rfl, .inr (.inr (.inl ⟨rfl, rfl⟩)), rfl, rfl⟩⟩
  rw [if_neg fun w => hL ((long_any tok hc).mpr w)]
  have hp : (keptR R x false).Perm (stayR (srtR R) x) := by
    rw [kept_f, left_2]
    exact filt_perm
  have ra := tok.cut hc
  have esrt : srtR (keptR R x false) = stayR (srtR R) x := srtR_is (dis_filter ok.dis _) ra.fine.srt fun _ => hp.mem_iff
  have rf := fresh_rep (z := z) (hc.reps tok.rep).2
  have htk := taken_any (R := R) (K0 := keptR R x false) (t := a) (x := x) (z := z) (c := c) (by rw [esrt]; exact ra.rep) rf
  have hcnt := left_cnt (R := R) (x := x)
  have hkl : (keptR R x false).length = (leftR R 2 x).length := by rw [kept_f]
  by_cases d : Disj a (OT.pre z c)
  · rw [if_neg (htk.mp d), if_neg (by have := ok.cnt; omega)]
    obtain ⟨s, hs⟩ := JoinR.ex hc.ok1 (OT.pre_ok hc.ok2 z)
    have tokm := tok.move hc hz hl2 hL d hs
    have hpp : (keptR R x false ++ (grpR R x).map fun p => (newT x z p.1, p.2)).Perm (srtR (stayR (srtR R) x ++ freshR (srtR R) x z)) := (hp.append (.refl _)).trans (srtR_perm _).symm
    obtain ⟨a1, a2⟩ := trok_perm tokm hpp
    refine ⟨.did s (.int ((OT.names c).length : Int)), ⟨fun w => absurd w hb, fun _ _ x' z' e e2 => by rw [inj e, inj e2]; exact ⟨a, c, hc, fun w => absurd w qc, fun _ w => absurd w hL, fun _ _ => ⟨fun w => absurd d w, fun _ => ⟨s, hs, rfl⟩⟩⟩⟩, .inr ⟨s, ?_, rfl, a1, a2⟩⟩
    rw [hn, List.length_map]
  · have hany : (grpR R x).any (fun p => (lookD (keptR R x false) (newT x z p.1)).isSome) = true := Classical.byContradiction fun w => d (htk.mpr w)
    rw [if_pos hany]
    exact ⟨.err C4, ⟨fun w => absurd w hb, fun _ _ x' z' e e2 => by rw [inj e, inj e2]; exact ⟨a, c, hc, fun w => absurd w qc, fun _ w => absurd w hL, fun _ _ => ⟨fun _ => rfl, fun w => absurd w d⟩⟩⟩, .inl ⟨C4, rfl, .inr (.inr (.inr (.inl ⟨rfl, rfl⟩))), rfl, rfl⟩⟩
theorem due_graft (ok : DOk R) (tok : TrOk g (srtR R)) (th1 : ThE d1 b1) (th2 : ThE d2 b2) (h1 : Dt K H d1 v1) (h2 : Dt K H d2 v2) : ∃ u, Ograft C1 C2 C3 C4 C5 g (srtR R) v1 v2 b1 b2 u ∧ Dm C1 C2 C3 C4 C5 C6 R (dueF R 4 d1 d2 b1 b2 n) u := by
  by_cases hb : b1 = false ∨ b2 = false
  · rw [branch_noname hb (by decide)]
    exact ⟨.err C1, ⟨fun _ => rfl, fun z1 z2 => by rcases hb with q | q <;> simp_all⟩, .inl ⟨C1, rfl, .inl ⟨rfl, rfl⟩, rfl, rfl⟩⟩
  obtain ⟨rfl, rfl⟩ := or_ff hb
  obtain ⟨x, rfl, rfl, hl, hx⟩ := the_val th1 h1
  obtain ⟨z, rfl, rfl, hl2, hz⟩ := the_val th2 h2
  have inj : ∀ {x x'}, V.str (S x) = .str (S x') → x' = x := fun e => (S_inj (V.str.inj e)).symm
  obtain ⟨a, c, hc⟩ := CutR.ex tok.rep.1 x
  obtain ⟨hn, hcn, ha⟩ := grp_gone tok hc
  have e0 : dueF R 4 (.str x) (.str z) true true n = brF R x z true := by
    rw [dueF_x, if_neg (by rintro (q | ⟨_, q⟩) <;> cases q), if_pos (by decide)]; rfl
  rw [e0]
  unfold brF
  rw [kept_t]
  by_cases q : grpR R x = []
  · rw [if_pos q]
    exact ⟨.err C2, ⟨fun w => absurd w hb, fun _ _ x' z' e e2 => by rw [inj e, inj e2]; exact ⟨a, c, hc, fun _ => rfl, fun w => absurd (hcn.mpr q) w, fun w => absurd (hcn.mpr q) w⟩⟩, .inl ⟨C2, rfl, .inr (.inl ⟨rfl, rfl⟩), rfl, rfl⟩⟩
  rw [if_neg q]
  have qc : ¬ c = none := fun w => q (hcn.mp w)
  by_cases hL : LongR c z
  · rw [if_pos ((long_any tok hc).mp hL)]
    exact ⟨.err C3, ⟨fun w => absurd w hb, fun _ _ x' z' e e2 => by rw [inj e, inj e2]; exact ⟨a, c, hc, fun w => absurd w qc, fun _ _ => rfl, fun _ w => absurd hL w⟩⟩, .inl ⟨C3, rfl, .inr (.inr (.inl ⟨rfl, rfl⟩)), rfl, rfl⟩⟩
  rw [if_neg fun w => hL ((long_any tok hc).mpr w)]
  have rf := fresh_rep (z := z) (hc.reps tok.rep).2
  have htk := taken_any (R := R) (K0 := R) (t := g) (x := x) (z := z) (c := c) tok.rep rf
  have hlen : (srtR R).length = R.length := (srtR_perm R).length_eq
  have hnl : (OT.names c).length = (grpR R x).length := by rw [hn, List.length_map]
  by_cases d : Disj g (OT.pre z c)
  · rw [if_neg (htk.mp d)]
    by_cases hm : 100 < R.length + (grpR R x).length
    · rw [if_pos hm]
      exact ⟨.err C5, ⟨fun w => absurd w hb, fun _ _ x' z' e e2 => by rw [inj e, inj e2]; exact ⟨a, c, hc, fun w => absurd w qc, fun _ w => absurd w hL, fun _ _ => ⟨fun w => absurd d w, fun _ _ => rfl, fun _ w => by omega⟩⟩⟩, .inl ⟨C5, rfl, .inr (.inr (.inr (.inr (.inl ⟨rfl, rfl⟩)))), rfl, rfl⟩⟩
    · rw [if_neg hm]
      obtain ⟨s, hs⟩ := JoinR.ex tok.rep.1 (OT.pre_ok hc.ok2 z)
      have tokm := tok.graft hc hz hl2 hL d (by omega) hs
      have hpp : (R ++ (grpR R x).map fun p => (newT x z p.1, p.2)).Perm (srtR (srtR R ++ freshR (srtR R) x z)) := ((srtR_perm R).symm.append (.refl _)).trans (srtR_perm _).symm
      obtain ⟨a1, a2⟩ := trok_perm tokm hpp
      refine ⟨.did s (.int ((OT.names c).length : Int)), ⟨fun w => absurd w hb, fun _ _ x' z' e e2 => by rw [inj e, inj e2]; exact ⟨a, c, hc, fun w => absurd w qc, fun _ w => absurd w hL, fun _ _ => ⟨fun w => absurd d w, fun _ w => by omega, fun _ _ => ⟨s, hs, rfl⟩⟩⟩⟩, .inr ⟨s, ?_, rfl, a1, a2⟩⟩
      rw [hnl]
  · have hany : (grpR R x).any (fun p => (lookD R (newT x z p.1)).isSome) = true := Classical.byContradiction fun w => d (htk.mpr w)
    rw [if_pos hany]
    exact ⟨.err C4, ⟨fun w => absurd w hb, fun _ _ x' z' e e2 => by rw [inj e, inj e2]; exact ⟨a, c, hc, fun w => absurd w qc, fun _ w => absurd w hL, fun _ _ => ⟨fun _ => rfl, fun w => absurd w d, fun w => absurd w d⟩⟩⟩, .inl ⟨C4, rfl, .inr (.inr (.inr (.inl ⟨rfl, rfl⟩))), rfl, rfl⟩⟩
/-- what a deed of way 0 to 4 does is what is due -/
theorem due_all (ok : DOk R) (tok : TrOk g (srtR R)) (th1 : ThE d1 b1) (th2 : ThE d2 b2) (h1 : Dt K H d1 v1) (h2 : Dt K H d2 v2) {way : Int} (w0 : 0 ≤ way) (w4 : way ≤ 4) (past : List OT) :
    ∃ u, Otr C1 C2 C3 C4 C5 C6 way g (srtR R) past v1 v2 b1 b2 n (liftO past g u) ∧ Dm C1 C2 C3 C4 C5 C6 R (dueF R way d1 d2 b1 b2 n) u := by
  have hw : way = 0 ∨ way = 1 ∨ way = 2 ∨ way = 3 ∨ way = 4 := by omega
  rcases hw with rfl | rfl | rfl | rfl | rfl
  · obtain ⟨u, hu, hm⟩ := due_keep (C1 := C1) (C2 := C2) (C3 := C3) (C4 := C4) (C5 := C5) (C6 := C6) (d2 := d2) (b2 := b2) (n := n) ok tok th1 h1
    exact ⟨u, ⟨fun _ => ⟨u, hu, rfl⟩, fun z => absurd z (by decide), fun z => absurd z (by decide), fun z => absurd z (by decide), fun z => absurd z (by decide), fun z => absurd z (by decide)⟩, hm⟩
  · obtain ⟨u, hu, hm⟩ := due_drop (C1 := C1) (C2 := C2) (C3 := C3) (C4 := C4) (C5 := C5) (C6 := C6) (d2 := d2) (b2 := b2) (n := n) ok tok th1 h1
    exact ⟨u, ⟨fun z => absurd z (by decide), fun _ => ⟨u, hu, rfl⟩, fun z => absurd z (by decide), fun z => absurd z (by decide), fun z => absurd z (by decide), fun z => absurd z (by decide)⟩, hm⟩
  · obtain ⟨u, hu, hm⟩ := due_prune (C1 := C1) (C2 := C2) (C3 := C3) (C4 := C4) (C5 := C5) (C6 := C6) (d2 := d2) (b2 := b2) (n := n) ok tok th1 h1
    exact ⟨u, ⟨fun z => absurd z (by decide), fun z => absurd z (by decide), fun _ => ⟨u, hu, rfl⟩, fun z => absurd z (by decide), fun z => absurd z (by decide), fun z => absurd z (by decide)⟩, hm⟩
  · obtain ⟨u, hu, hm⟩ := due_move (C1 := C1) (C2 := C2) (C3 := C3) (C4 := C4) (C5 := C5) (C6 := C6) (n := n) ok tok th1 th2 h1 h2
    exact ⟨u, ⟨fun z => absurd z (by decide), fun z => absurd z (by decide), fun z => absurd z (by decide), fun _ => ⟨u, hu, rfl⟩, fun z => absurd z (by decide), fun z => absurd z (by decide)⟩, hm⟩
  · obtain ⟨u, hu, hm⟩ := due_graft (C1 := C1) (C2 := C2) (C3 := C3) (C4 := C4) (C5 := C5) (C6 := C6) (n := n) ok tok th1 th2 h1 h2
    exact ⟨u, ⟨fun z => absurd z (by decide), fun z => absurd z (by decide), fun z => absurd z (by decide), fun z => absurd z (by decide), fun _ => ⟨u, hu, rfl⟩, fun z => absurd z (by decide)⟩, hm⟩
end
end Rt

namespace Rt
open PySem PySem.Spec PyProof.Rows L2
section
variable {P : Program} {w : World} {K : PySem.W.Frag} {mg : Str → Option Value} {base : Heap}
def Rwhole : List D → D → Prop := fun ds d => ∃ i : Int, ds = [.int i] ∧ d = .bl true
theorem Rwhole_mk {i : Int} : Rwhole [.int i] (.bl true) := ⟨i, rfl, rfl⟩
local macro_rules | `(tactic| walk_at "call") => `(tactic| with_reducible exact Rt.Rwhole_mk)
theorem cal_whole (F : Dfn K mg "_law_whole" s__law_whole ["_law_told"]) (BU : Bl mg) : Cal P w K mg base CX0 1 "_law_whole" (Fn K Rwhole) := by
  refine cal_fn F sc__law_whole (fun ds d h => by obtain ⟨a, rfl, _⟩ := h; rfl) fun cdv A outer s f H vs ds d hr hR S0 => ?_
  obtain ⟨i, rfl, rfl⟩ := hR
  refine ⟨_, (pss_one (ps_ret (pe_and (pe_callB call_isi (by rfl) BU.isinstance_ (by decide +kernel) (pa_cons (pv 0) (pa_cons (pe_bltn (v := .ty "int") (by rfl) BU.int_ (by decide +kernel) rfl) pa_nil))) (pe_one (pe_not (pe_callB call_isi (by rfl) BU.isinstance_ (by decide +kernel) (pa_cons (pv 0) (pa_cons (pe_bltn (v := .ty "bool") (by rfl) BU.bool_ (by decide +kernel) rfl) pa_nil)))))))), fun nx Q kn kr => ?_⟩
  try dsimp only [cxOf]
  generalize start _ vs = σ at *
  exact s_ret (d := .bl true) (ev_andT (by walk_at "ev") (by walk_at "evq")) fun v H1 e1 hv => kr v H1 e1 hv
end
end Rt
local macro_rules | `(tactic| walk_at "call") => `(tactic| with_reducible exact Rt.Rwhole_mk)
namespace Rt
open PySem PySem.Spec PyProof.Rows L2
section
variable {P : Program} {w : World} {K : PySem.W.Frag} {mg : Str → Option Value} {base : Heap}
/-- x is True -/
def rIsT : R2 := fun x y H Q => y = .bl true ∧ Q (.bl (decide (x = .bl true))) H
theorem op_isTr {X : Cx} : OpR X (compareOp .Is) rIsT := by
  intro pins s σ H x y v u Q I rx ry h
  obtain ⟨rfl, q⟩ := h
  cases (show u = Value.bool true from ry)
  have fin : ∀ b, b = decide (x = .bl true) → ∃ y H1, Inv X pins σ H1 s ∧ RelV y (Value.bool b) ∧ Q y H1 := fun b e => ⟨.bl b, H, I, rfl, by rw [e]; exact q⟩
  cases x with
  | non => cases (show v = Value.none from rx); exact wpAny_is_other rfl (fun z => by cases z) (fin false rfl)
  | bl b =>
    cases (show v = Value.bool b from rx)
    cases b with
    | true => exact wpAny_is_self rfl (fin true rfl)
    | false => exact wpAny_is_other rfl (fun z => by cases z) (fin false rfl)
  | int i => obtain ⟨t, rfl⟩ := rx; exact wpAny_is_other rfl (fun z => by cases z) (fin false rfl)
  | str i => obtain ⟨t, rfl⟩ := rx; exact wpAny_is_other rfl (fun z => by cases z) (fin false rfl)
  | byt i => obtain ⟨t, rfl⟩ := rx; exact wpAny_is_other rfl (fun z => by cases z) (fin false rfl)
  | flt i => obtain ⟨t, rfl⟩ := rx; exact wpAny_is_other rfl (fun z => by cases z) (fin false rfl)
  | ref a => cases (show v = Value.ref a from rx); exact wpAny_is_other rfl (fun z => by cases z) (fin false rfl)
  | ty n => cases (show v = Value.type n from rx); exact wpAny_is_other rfl (fun z => by cases z) (fin false rfl)
/-- data that k12's helper tells alike: True too -/
def D.al2 : Nat → D → Prop
  | _ + 1, .non => True
  | _ + 1, .bl b => b = true
  | _ + 1, .int _ => True
  | _ + 1, .str l => cpsOk l
  | n + 1, .tup ds => ds.length ≤ 10000 ∧ ∀ d ∈ ds, D.al2 n d
  | n + 1, .lst ds => ds.length ≤ 10000 ∧ ∀ d ∈ ds, D.al2 n d
  | _, _ => False
theorem D.al2_up : ∀ (n : Nat) (d : D), D.al2 n d → D.al2 (n + 1) d
  | 0, _, h => h.elim
  | n + 1, .non, _ => trivial
  | n + 1, .int _, _ => trivial
  | n + 1, .str _, h => h
  | n + 1, .tup ds, h => ⟨h.1, fun d m => D.al2_up n d (h.2 d m)⟩
  | n + 1, .lst ds, h => ⟨h.1, fun d m => D.al2_up n d (h.2 d m)⟩
  | n + 1, .bl _, h => h
  | n + 1, .raw _, h => h.elim
  | n + 1, .scr _, h => h.elim
theorem D.al2_mono {n m : Nat} {d : D} (h : D.al2 n d) (l : n ≤ m) : D.al2 m d := by
  obtain ⟨k, rfl⟩ : ∃ k, m = n + k := ⟨m - n, by omega⟩
  clear l
  induction k with
  | zero => exact h
  | succ k ih => exact D.al2_up _ _ ih
theorem rows_al2 {rows : Rows} (h : ∀ p ∈ rows, okT p.1) (hc : rows.length ≤ 10000) : D.al2 3 (.lst (rows.map rowD)) := by
  refine ⟨by rw [List.length_map]; exact hc, fun d m => ?_⟩
  obtain ⟨p, hp, rfl⟩ := List.mem_map.mp m
  refine ⟨by show 2 ≤ 10000; decide, fun e he => ?_⟩
  rcases List.mem_cons.mp he with rfl | he
  · exact okT_cps (h p hp)
  · rcases List.mem_cons.mp he with rfl | he
    · trivial
    · cases he
def Ralike2 (N : Nat) : List D → D → Prop := fun ds r => ∃ d, ds = [d, d] ∧ D.al2 N d ∧ r = .bl true
theorem Ralike2.of {N M : Nat} {d : D} (h : D.al2 N d) (l : N ≤ M) : Ralike2 M [d, d] (.bl true) := ⟨d, rfl, D.al2_mono h l, rfl⟩
def D.isTr : D → Bool
  | .bl b => b
  | _ => false
theorem ev_isTr {σ : L2.St} {H : Hp} {ta : TE} {n : Nat} {d : D} (hd : D.al2 n d) (ha : Ev K ta σ H d) : Ev K (tOp rIsT ta (tC (.bl true))) σ H (.bl d.isTr) :=
  ev_op ha ev_bl fun v w H1 _ hv hw Q q => ⟨hw, q _ _ (Same.refl _) (by
    show V.bl (decide (v = .bl true)) = V.bl d.isTr
    congr 1
    cases n with
    | zero => exact hd.elim
    | succ n =>
      cases d with
      | non => rw [show v = .non from hv]; rfl
      | bl b => rw [show v = .bl b from hv]; cases b <;> rfl
      | int i => rw [show v = .int i from hv]; rfl
      | str l => rw [show v = .str (S l) from hv]; rfl
      | tup xs => obtain ⟨a, vs, rfl, _⟩ := hv; rfl
      | lst xs => obtain ⟨a, vs, rfl, _⟩ := hv; rfl
      | raw _ => exact hd.elim
      | scr _ => exact hd.elim)⟩
theorem cal_alike (F : Dfn K mg "_law_alike" s__law_alike ["_law_told", "_law_due_here"]) (BU : Bl mg) (c__law_whole : Cal P w K mg base CX0 1 "_law_whole" (Fn K Rwhole)) : ∀ N, N ≤ 290 → Cal P w K mg base CX0 (N + 1) "_law_alike" (Fn K (Ralike2 N))
  | 0, _ => cal_none F fun vs H Q E h => by
    obtain ⟨_, _, _, ⟨d, _, h, _⟩, _⟩ := h
    exact h.elim
  | N + 1, hN => by
    have c__law_alike := cal_alike F BU c__law_whole N (by omega)
    refine cal_fn F sc__law_alike (fun ds d h => by obtain ⟨a, rfl, _⟩ := h; rfl) fun cdv A outer s f H vs ds d hr hR S0 => ?_
    obtain ⟨d, rfl, hd, rfl⟩ := hR
    refine ⟨_, (pss_cons (ps_if (pt_cmpR op_isN (pv 1) pe_non (nomark _)) (pss_one (ps_ret (pe_cmpR op_isN (pv 0) pe_non (nomark _)))) pss_nil) (pss_cons (ps_if (pt_cmpR op_isTr (pv 1) pe_bl (nomark _)) (pss_one (ps_ret (pe_cmpR op_isTr (pv 0) pe_bl (nomark _)))) pss_nil) (pss_cons (ps_if (pt_val (pe_callB call_isi (by rfl) BU.isinstance_ (by decide +kernel) (pa_cons (pv 1) (pa_cons (pe_bltn (v := .ty "str") (by rfl) BU.str_ (by decide +kernel) rfl) pa_nil)))) (pss_one (ps_ret (pe_and (pe_callB call_isi (by rfl) BU.isinstance_ (by decide +kernel) (pa_cons (pv 0) (pa_cons (pe_bltn (v := .ty "str") (by rfl) BU.str_ (by decide +kernel) rfl) pa_nil))) (pe_one (pe_cmpR (op_eqD hr.units) (pv 0) (pv 1) (nomark _)))))) pss_nil) (pss_cons (ps_if (pt_val (pe_callB call_isi (by rfl) BU.isinstance_ (by decide +kernel) (pa_cons (pv 1) (pa_cons (pe_bltn (v := .ty "int") (by rfl) BU.int_ (by decide +kernel) rfl) pa_nil)))) (pss_one (ps_ret (pe_and (pe_c c__law_whole hr (by omega) (by rfl) (pa_cons (pv 0) pa_nil)) (pe_one (pe_cmpR (op_eqD hr.units) (pv 0) (pv 1) (nomark _)))))) pss_nil) (pss_cons (ps_if (PW.pt (pw_and (pt_val (pe_callB call_isi (by rfl) BU.isinstance_ (by decide +kernel) (pa_cons (pv 1) (pa_cons (pe_bltn (v := .ty "tuple") (by rfl) BU.tuple_ (by decide +kernel) rfl) pa_nil)))) (pw_and1 (pt_not (pt_val (pe_callB call_isi (by rfl) BU.isinstance_ (by decide +kernel) (pa_cons (pv 0) (pa_cons (pe_bltn (v := .ty "tuple") (by rfl) BU.tuple_ (by decide +kernel) rfl) pa_nil)))))))) (pss_one (ps_ret pe_bl)) pss_nil) (pss_cons (ps_if (PW.pt (pw_and (pt_val (pe_callB call_isi (by rfl) BU.isinstance_ (by decide +kernel) (pa_cons (pv 1) (pa_cons (pe_bltn (v := .ty "list") (by rfl) BU.list_ (by decide +kernel) rfl) pa_nil)))) (pw_and1 (pt_not (pt_val (pe_callB call_isi (by rfl) BU.isinstance_ (by decide +kernel) (pa_cons (pv 0) (pa_cons (pe_bltn (v := .ty "list") (by rfl) BU.list_ (by decide +kernel) rfl) pa_nil)))))))) (pss_one (ps_ret pe_bl)) pss_nil) (pss_cons (ps_if (pt_cmpR op_ne (pe_callB call_len_seq (by rfl) BU.len_ PySem.boot_len (pa_cons (pv 0) pa_nil)) (pe_callB call_len_seq (by rfl) BU.len_ PySem.boot_len (pa_cons (pv 1) pa_nil)) (nomark _)) (pss_one (ps_ret pe_bl)) pss_nil) (pss_cons (ps_for PassesOwn.never rfl (pi_range1 (by rfl) BU.range_ (pa_cons (pe_callB call_len_seq (by rfl) BU.len_ PySem.boot_len (pa_cons (pv 1) pa_nil)) pa_nil)) (pg_name (i := 2) sc__law_alike.nd rfl (Or.inl rfl)) (pss_one (ps_if (pt_not (pt_val (pe_c c__law_alike hr (by omega) (by rfl) (pa_cons (pe_ix ix_seq (pv 0) (pv 2) (fun _ _ => rfl)) (pa_cons (pe_ix ix_seq (pv 1) (pv 2) (fun _ _ => rfl)) pa_nil))))) (pss_one (ps_ret pe_bl)) pss_nil))) (pss_one (ps_ret pe_bl)))))))))), fun nx Q kn kr => ?_⟩
    try dsimp only [cxOf]
    generalize start _ vs = σ at *
    cases d with
    | non =>
      refine q_ifT (by walk_at "etq") fun H1 e1 => ?_
      have S1 := S0.mono e1
      exact s_ret (d := .bl true) (by walk_at "evq") fun v H2 e2 hv => kr v H2 (e1.trans e2) hv
    | int i =>
      refine q_ifF0 (by walk_at "etq") fun H0 e0 => ?_
      have S00 := S0.mono e0
      refine q_ifF0 (EvT.to (et_test (ev_isTr (n := N + 1) hd (ev_var S00 (i := 1) (by rfl)))) (by rfl)) fun H1 e1' => ?_
      have e1 := e0.trans e1'
      have S1 := S0.mono e1
      refine q_ifF0 (by walk_at "etq") fun H2 e2 => ?_
      have S2 := S1.mono e2
      refine q_ifT (by walk_at "etq") fun H3 e3 => ?_
      have S3 := S2.mono e3
      exact s_ret (d := .bl true) (ev_andT (ev_call (by walk_at "ev") Rwhole_mk) (ev_eqRefl (n := 0) (d := .int i) (by walk_at "ev") (by walk_at "ev") trivial (by decide))) fun v H4 e4 hv => kr v H4 (((e1.trans e2).trans e3).trans e4) hv
    | str l =>
      refine q_ifF0 (by walk_at "etq") fun H0 e0 => ?_
      have S00 := S0.mono e0
      refine q_ifF0 (EvT.to (et_test (ev_isTr (n := N + 1) hd (ev_var S00 (i := 1) (by rfl)))) (by rfl)) fun H1 e1' => ?_
      have e1 := e0.trans e1'
      have S1 := S0.mono e1
      refine q_ifT (by walk_at "etq") fun H2 e2 => ?_
      have S2 := S1.mono e2
      exact s_ret (d := .bl true) (ev_andT (by walk_at "ev") (ev_eqRefl (n := 0) (d := .str l) (by walk_at "ev") (by walk_at "ev") hd (by decide))) fun v H3 e3 hv => kr v H3 ((e1.trans e2).trans e3) hv
    | tup xs =>
      have hd' := hd
      obtain ⟨hl, hx⟩ : xs.length ≤ 10000 ∧ ∀ d ∈ xs, D.al2 N d := hd'
      refine q_ifF0 (by walk_at "etq") fun H0 e0 => ?_
      have S00 := S0.mono e0
      refine q_ifF0 (EvT.to (et_test (ev_isTr (n := N + 1) hd (ev_var S00 (i := 1) (by rfl)))) (by rfl)) fun H1 e1' => ?_
      have e1 := e0.trans e1'
      have S1 := S0.mono e1
      refine q_ifF0 (by walk_at "etq") fun H2 e2 => ?_
      have S2 := S1.mono e2
      refine q_ifF0 (by walk_at "etq") fun H3 e3 => ?_
      have S3 := S2.mono e3
      refine q_ifF0 (et_andT (by walk_at "etq") (by walk_at "etq")) fun H4 e4 => ?_
      have S4 := S3.mono e4
      refine q_ifF0 (et_andF (by walk_at "etq")) fun H5 e5 => ?_
      have S5 := S4.mono e5
      refine q_ifF0 (EvT.to (by walk_at "ev") (by simp)) fun H6 e6 => ?_
      have S6 := S5.mono e6
      refine q_forR xs.length (by walk_at "ev") (by omega) (by omega) (fun k ds => ∃ x, ds = [some (.tup xs), some (.tup xs), x]) S6 ⟨none, rfl⟩ ?_ ?_
      · rintro k hk ds σ7 H7 N2 ⟨x, rfl⟩ e7 S7 kN
        have ha : atI xs (k : Int) = some xs[k] := atI_nat (List.getElem?_eq_getElem hk)
        exact s_ifF (tu := _) (EvT.to (et_not (et_B (ev_call (by walk_at "ev") ⟨xs[k], rfl, hx _ (List.getElem_mem _), rfl⟩))) (by rfl)) fun H8 e8 => kN _ _ _ ⟨_, rfl⟩ e8 (S7.mono e8)
      · rintro ds σ7 H7 ⟨x, rfl⟩ e7 S7
        exact s_ret (K := K) ev_bl fun v H8 e8 hv => kr v H8 (((((((e1.trans e2).trans e3).trans e4).trans e5).trans e6).trans e7).trans e8) hv
    | lst xs =>
      have hd' := hd
      obtain ⟨hl, hx⟩ : xs.length ≤ 10000 ∧ ∀ d ∈ xs, D.al2 N d := hd'
      refine q_ifF0 (by walk_at "etq") fun H0 e0 => ?_
      have S00 := S0.mono e0
      refine q_ifF0 (EvT.to (et_test (ev_isTr (n := N + 1) hd (ev_var S00 (i := 1) (by rfl)))) (by rfl)) fun H1 e1' => ?_
      have e1 := e0.trans e1'
      have S1 := S0.mono e1
      refine q_ifF0 (by walk_at "etq") fun H2 e2 => ?_
      have S2 := S1.mono e2
      refine q_ifF0 (by walk_at "etq") fun H3 e3 => ?_
      have S3 := S2.mono e3
      refine q_ifF0 (et_andF (by walk_at "etq")) fun H4 e4 => ?_
      have S4 := S3.mono e4
      refine q_ifF0 (et_andT (by walk_at "etq") (by walk_at "etq")) fun H5 e5 => ?_
      have S5 := S4.mono e5
      refine q_ifF0 (EvT.to (by walk_at "ev") (by simp)) fun H6 e6 => ?_
      have S6 := S5.mono e6
      refine q_forR xs.length (by walk_at "ev") (by omega) (by omega) (fun k ds => ∃ x, ds = [some (.lst xs), some (.lst xs), x]) S6 ⟨none, rfl⟩ ?_ ?_
      · rintro k hk ds σ7 H7 N2 ⟨x, rfl⟩ e7 S7 kN
        have ha : atI xs (k : Int) = some xs[k] := atI_nat (List.getElem?_eq_getElem hk)
        exact s_ifF (tu := _) (EvT.to (et_not (et_B (ev_call (by walk_at "ev") ⟨xs[k], rfl, hx _ (List.getElem_mem _), rfl⟩))) (by rfl)) fun H8 e8 => kN _ _ _ ⟨_, rfl⟩ e8 (S7.mono e8)
      · rintro ds σ7 H7 ⟨x, rfl⟩ e7 S7
        exact s_ret (K := K) ev_bl fun v H8 e8 hv => kr v H8 (((((((e1.trans e2).trans e3).trans e4).trans e5).trans e6).trans e7).trans e8) hv
    | bl b =>
      obtain rfl : b = true := hd
      refine q_ifF0 (by walk_at "etq") fun H0 e0 => ?_
      have S00 := S0.mono e0
      refine q_ifT (EvT.to (et_test (ev_isTr (n := N + 1) (d := .bl true) rfl (ev_var S00 (i := 1) (by rfl)))) (by rfl)) fun H1 e1 => ?_
      exact s_ret (d := .bl true) (Ev.to (ev_isTr (n := N + 1) (d := .bl true) rfl (ev_var (S00.mono e1) (i := 0) (by rfl))) rfl) fun v H2 e2 hv => kr v H2 ((e0.trans e1).trans e2) hv
    | raw _ => exact hd.elim
    | scr _ => exact hd.elim
end
end Rt

namespace Rt
open PySem PySem.Spec PyProof.Rows L2
section
variable {P : Program} {w : World} {K : PySem.W.Frag} {mg : Str → Option Value} {base : Heap}
def encF (e : Int × D × D) : D := .tup [.int e.1, e.2.1, e.2.2]
def firstT (b : Int) (w : Tx) : List (Int × D × D) :=
  if b = 1 then [(4, .str (tx "z"), .str (tx "y")), (0, .str (tx "yy"), .str []), (0, .str (w ++ [97]), .str []), (0, .str (tx "0"), .str []), (4, .str [], .str (tx "a")), (4, .str [], .str (w.take 39))]
  else if b = 3 then [(3, .str (tx "p"), .str (tx "qq")), (4, .str (tx "p"), .str (tx "qq")), (3, .str (tx "zz"), .int 7), (0, .str (tx "p"), .str [])]
  else []
theorem ThE.name {l : Tx} (h : nameB l = true) : ThE (.str l) true := ⟨.inl ⟨l, rfl, by have := (nameB_iff.mp h).1; omega, h.symm⟩, fun _ _ z => by cases z⟩
theorem firstT_ok {b : Int} {w : Tx} (hw : w.length = 40) (ho : okT w) : (firstT b w).length ≤ 6 ∧ ∀ e ∈ firstT b w, 0 ≤ e.1 ∧ e.1 ≤ 4 ∧ (∃ b1, ThE e.2.1 b1) ∧ ∃ b2, ThE e.2.2 b2 := by
  unfold firstT
  split
  · refine ⟨by show 6 ≤ 6; decide, fun e he => ?_⟩
    simp only [List.mem_cons, List.not_mem_nil, or_false] at he
    rcases he with rfl | rfl | rfl | rfl | rfl | rfl
    · exact ⟨by decide, by decide, ⟨_, .name (by decide +kernel)⟩, ⟨_, .name (by decide +kernel)⟩⟩
    · exact ⟨by decide, by decide, ⟨_, .name (by decide +kernel)⟩, ⟨_, .name (by decide +kernel)⟩⟩
    · refine ⟨by show (0 : Int) ≤ 0; decide, by show (0 : Int) ≤ 4; decide, ⟨false, .inl ⟨_, rfl, ?_, ?_⟩, fun l e _ => .inl ?_⟩, ⟨_, .name (by decide +kernel)⟩⟩
      · rw [List.length_append, hw]; decide
      · cases q : nameB (w ++ [97]) with
        | false => rfl
        | true => have := (nameB_iff.mp q).1; rw [List.length_append, hw] at this; exact absurd this (by decide)
      · rw [← D.str.inj e, List.length_append, hw]; decide
    · exact ⟨by decide, by decide, ⟨_, .name (by decide +kernel)⟩, ⟨_, .name (by decide +kernel)⟩⟩
    · exact ⟨by decide, by decide, ⟨_, .name (by decide +kernel)⟩, ⟨_, .name (by decide +kernel)⟩⟩
    · exact ⟨by show (0 : Int) ≤ 4; decide, by show (4 : Int) ≤ 4; decide, ⟨_, .name (by decide +kernel)⟩, ⟨_, .name (nameB_iff.mpr ⟨by rw [List.length_take]; omega, okT_take _ ho⟩)⟩⟩
  · split
    · refine ⟨by decide, fun e he => ?_⟩
      simp only [List.mem_cons, List.not_mem_nil, or_false] at he
      rcases he with rfl | rfl | rfl | rfl
      · exact ⟨by decide, by decide, ⟨_, .name (by decide +kernel)⟩, ⟨_, .name (by decide +kernel)⟩⟩
      · exact ⟨by decide, by decide, ⟨_, .name (by decide +kernel)⟩, ⟨_, .name (by decide +kernel)⟩⟩
      · exact ⟨by decide, by decide, ⟨_, .name (by decide +kernel)⟩, ⟨false, .inr ⟨.inr ⟨7, rfl⟩, rfl⟩, fun l e => by cases e⟩⟩
      · exact ⟨by decide, by decide, ⟨_, .name (by decide +kernel)⟩, ⟨_, .name (by decide +kernel)⟩⟩
    · exact ⟨by decide, fun e he => by cases he⟩
def Rfirst : List D → List D → Prop := fun ds es => ∃ (b : Int) (w : Tx), ds = [.int b, .str w] ∧ w.length = 40 ∧ es = (firstT b w).map encF
theorem cal_first (F : Dfn K mg "_law_first_deeds" s__law_first_deeds ["_law_begin", "_law_word"]) (BU : Bl mg) : Cal P w K mg base CX0 1 "_law_first_deeds" (FnN K Rfirst) := by
  refine cal_fnN F sc__law_first_deeds (fun ds d h => by obtain ⟨a, b, rfl, _⟩ := h; rfl) fun cdv A outer s f H vs ds es hr hR S0 => ?_
  obtain ⟨b, wd, rfl, hw, rfl⟩ := hR
  refine ⟨_, (pss_cons (ps_if (pt_cmpR op_eq (pv 0) pe_int (nomark _)) (pss_cons (ps_set (i := 2) sc__law_first_deeds.nd rfl (Or.inl rfl) (pe_lst (pa_cons (pe_tup (pa_cons pe_int (pa_cons pe_str (pa_cons pe_str pa_nil)))) (pa_cons (pe_tup (pa_cons pe_int (pa_cons pe_str (pa_cons pe_str pa_nil)))) (pa_cons (pe_tup (pa_cons pe_int (pa_cons (pe_op op_add_str (pv 1) pe_str) (pa_cons pe_str pa_nil)))) (pa_cons (pe_tup (pa_cons pe_int (pa_cons pe_str (pa_cons pe_str pa_nil)))) pa_nil)))))) (pss_one (ps_ret (pe_op op_cat (pv 2) (pe_lst (pa_cons (pe_tup (pa_cons pe_int (pa_cons pe_str (pa_cons pe_str pa_nil)))) (pa_cons (pe_tup (pa_cons pe_int (pa_cons pe_str (pa_cons (pe_slice sl_str (pv 1) po_none (po_some pe_int)) pa_nil)))) pa_nil))))))) pss_nil) (pss_cons (ps_if (pt_cmpR op_eq (pv 0) pe_int (nomark _)) (pss_one (ps_ret (pe_lst (pa_cons (pe_tup (pa_cons pe_int (pa_cons pe_str (pa_cons pe_str pa_nil)))) (pa_cons (pe_tup (pa_cons pe_int (pa_cons pe_str (pa_cons pe_str pa_nil)))) (pa_cons (pe_tup (pa_cons pe_int (pa_cons pe_str (pa_cons pe_int pa_nil)))) (pa_cons (pe_tup (pa_cons pe_int (pa_cons pe_str (pa_cons pe_str pa_nil)))) pa_nil))))))) pss_nil) (pss_one (ps_ret (pe_lst pa_nil))))), fun nx Q k => ?_⟩
  try dsimp only [cxOf]
  generalize start _ vs = σ at *
  have S0' : Sl K H [some (.int b), some (.str wd), none] σ := S0
  have t3 : ∀ {σ : L2.St} {H : Hp} {ta tb tc : TE} {e : Int × D × D}, Ev K ta σ H (.int e.1) → Ev K tb σ H e.2.1 → Ev K tc σ H e.2.2 → Ev K (tTup (tCons ta (tCons tb (tCons tc tNil)))) σ H (encF e) := fun h1 h2 h3 => ev_tup (ea_cons h1 (ea_cons h2 (ea_cons h3 ea_nil))) (by show 3 ≤ 100000; decide)
  refine q_if0 (b := decide (b = 1)) (et_test (ev_eqI (ev_var S0' (i := 0) (by rfl)) ev_int)) (fun q H1 e1 => ?_) (fun q H1 e1 => ?_)
  · have S1 := S0'.mono e1
    refine q_asg S1 (d := .lst ([(4, .str (tx "z"), .str (tx "y")), (0, .str (tx "yy"), .str []), (0, .str (wd ++ [97]), .str []), (0, .str (tx "0"), .str [])].map encF)) (ev_lst (ea_cons (t3 (e := (4, .str (tx "z"), .str (tx "y"))) ev_int (Ev.to ev_str rfl) (Ev.to ev_str rfl)) (ea_cons (t3 (e := (0, .str (tx "yy"), .str [])) ev_int (Ev.to ev_str rfl) (Ev.to ev_str rfl)) (ea_cons (t3 (e := (0, .str (wd ++ [97]), .str [])) ev_int (ev_addS (b := [97]) (ev_var S1 (i := 1) (by rfl)) (Ev.to ev_str rfl) (by rw [hw]; decide)) (Ev.to ev_str rfl)) (ea_cons (t3 (e := (0, .str (tx "0"), .str [])) ev_int (Ev.to ev_str rfl) (Ev.to ev_str rfl)) ea_nil)))) (by show 4 ≤ 100000; decide)) fun σ2 H2 e2 S2 => ?_
    refine s_retN (EvN.to (en_cat (ev_var S2 (i := 2) (by rfl)) (ev_lst (ds := [(4, .str [], .str (tx "a")), (4, .str [], .str (wd.take 39))].map encF) (ea_cons (t3 (e := (4, .str [], .str (tx "a"))) ev_int (Ev.to ev_str rfl) (Ev.to ev_str rfl)) (ea_cons (t3 (e := (4, .str [], .str (wd.take 39))) ev_int (Ev.to ev_str rfl) (ev_slTo 39 (ev_var S2 (i := 1) (by rfl)) ev_int rfl (by rw [hw]; decide))) ea_nil)) (by show 2 ≤ 100000; decide)) (by show 4 + 2 ≤ 100000; decide)) (by unfold firstT; rw [if_pos (of_decide_eq_true q)]; rfl)) fun p ws H' hp e hp2 hd => k p ws H' (Same.free (e1.trans e2) hp) ((e1.trans e2).trans e) hp2 hd
  have q1 := of_decide_eq_false q
  have S1 := S0'.mono e1
  refine q_if0 (b := decide (b = 3)) (et_test (ev_eqI (ev_var S1 (i := 0) (by rfl)) ev_int)) (fun q2 H2 e2 => ?_) (fun q2 H2 e2 => ?_)
  · have S2 := S1.mono e2
    refine s_retN (EvN.to (en_lst (ds := [(3, .str (tx "p"), .str (tx "qq")), (4, .str (tx "p"), .str (tx "qq")), (3, .str (tx "zz"), .int 7), (0, .str (tx "p"), .str [])].map encF) (ea_cons (t3 (e := (3, .str (tx "p"), .str (tx "qq"))) ev_int (Ev.to ev_str rfl) (Ev.to ev_str rfl)) (ea_cons (t3 (e := (4, .str (tx "p"), .str (tx "qq"))) ev_int (Ev.to ev_str rfl) (Ev.to ev_str rfl)) (ea_cons (t3 (e := (3, .str (tx "zz"), .int 7)) ev_int (Ev.to ev_str rfl) ev_int) (ea_cons (t3 (e := (0, .str (tx "p"), .str [])) ev_int (Ev.to ev_str rfl) (Ev.to ev_str rfl)) ea_nil)))) (by show 4 ≤ 100000; decide)) (by unfold firstT; rw [if_neg q1, if_pos (of_decide_eq_true q2)])) fun p ws H' hp e hp2 hd => k p ws H' (Same.free (e1.trans e2) hp) ((e1.trans e2).trans e) hp2 hd
  · exact s_retN (EvN.to (en_lst (ds := []) ea_nil (by decide)) (by unfold firstT; rw [if_neg q1, if_neg (of_decide_eq_false q2)]; rfl)) fun p ws H' hp e hp2 hd => k p ws H' (Same.free (e1.trans e2) hp) ((e1.trans e2).trans e) hp2 hd
end
end Rt

namespace Rt
open PySem PySem.Spec PyProof.Rows L2
section
variable {P : Program} {w : World} {K : PySem.W.Frag} {mg : Str → Option Value} {base : Heap}
/-- what stands there is a list, an object or a dict -/
def MutA (H : Hp) (A : List Addr) : Prop := ∀ b ∈ A, (∃ vs, H b = some (.lst vs)) ∨ (∃ C dx fs, H b = some (.ins C dx fs)) ∨ ∃ kv : List (Key × V), H b = some (.dK kv)
theorem MutA.tupK {H : Hp} {A : List Addr} (m : MutA H A) : TupK H (hide A H) := by
  refine ⟨fun b xs e => ?_, fun b o u e => ?_⟩
  · rw [hide_at fun z => ?_]
    · exact e
    · rcases m b z with ⟨vs, q⟩ | ⟨C, dx, fs, q⟩ | ⟨kv, q⟩ <;> (rw [e] at q; cases q)
  · rw [hide_at fun z => ?_]
    · exact e
    · rcases m b z with ⟨vs, q⟩ | ⟨C, dx, fs, q⟩ | ⟨kv, q⟩ <;> (rw [e] at q; cases q)
theorem MutA.mono {H H' : Hp} {A : List Addr} (m : MutA H A) (e : Same H H') : MutA H' A := fun b hb => by
  rcases m b hb with ⟨vs, q⟩ | ⟨C, dx, fs, q⟩ | ⟨kv, q⟩
  · exact .inl ⟨vs, e _ _ q⟩
  · exact .inr (.inl ⟨C, dx, fs, e _ _ q⟩)
  · exact .inr (.inr ⟨kv, e _ _ q⟩)
theorem MutA.ne {H : Hp} {A : List Addr} {a : Addr} (m : MutA H A) (h : H a = none) : a ∉ A := fun z => by
  rcases m a z with ⟨vs, q⟩ | ⟨C, dx, fs, q⟩ | ⟨kv, q⟩ <;> (rw [h] at q; cases q)
theorem into_hide {H HH : Hp} {A : List Addr} (s : Same HH H) (n : ∀ b ∈ A, HH b = none) : Same HH (hide A H) := fun b o h => by
  rw [hide_at fun z => by rw [n b z] at h; cases h]
  exact s _ _ h
section
variable {σ : L2.St} {H HH H' : Hp} {ta tb tc te : TE} {E : Ends} {tu tv : TS} {sl : List (Option D)} {A : List Addr} {C p l x : Addr} {g : OT} {past : List OT} {rows : Rows}
theorem q_asgA {i : Nat} {es : List D} (S : Sl K HH sl σ) (s : Same HH H) (n : ∀ b ∈ A, HH b = none) (m : MutA H A) (im : D.imms es = true) (h : EvN K te σ H es) (k : ∀ σ' H' HH', Same H H' → Same HH HH' → Same HH' H' → (∀ b ∈ A, HH' b = none) → Sl K HH' (sl.set i (some (.lst es))) σ' → tu E σ' H') :
    tSeq (tAsg te (gName i)) tu E σ H := q_asgNs h fun q vs H' hp e hp2 hd => by
  have nq := m.ne hp
  exact k _ H' (hide A H') e (into_hide (s.trans e) n) hide_same (fun b hb => hide_none hb) ((S.mono (into_hide (s.trans e) n)).set i (d := .lst es) (v := .ref q) ⟨q, vs, rfl, by rw [hide_at nq]; exact hp2, Dts.tupK (m.mono e).tupK _ im hd⟩)
theorem s_asgA {i : Nat} {es : List D} (S : Sl K HH sl σ) (s : Same HH H) (n : ∀ b ∈ A, HH b = none) (m : MutA H A) (im : D.imms es = true) (h : EvN K te σ H es) (k : ∀ σ' H' HH', Same H H' → Same HH HH' → Same HH' H' → (∀ b ∈ A, HH' b = none) → Sl K HH' (sl.set i (some (.lst es))) σ' → E.nx σ' H') :
    tAsg te (gName i) E σ H := q_asgA (E := E) (tu := tNext) S s n m im h k
theorem TrAt.keepX (h : TrAt K C H p l g past) (k : ∀ b o, b ≠ x → H b = some o → H' b = some o) (hx : (∃ vs, H x = some (.lst vs)) ∨ ∃ kv : List (Key × V), H x = some (.dK kv)) (np : x ≠ p) (nl : x ≠ l) : TrAt K C H' p l g past := by
  obtain ⟨dx, vg, vs, h1, h2, h3, h4⟩ := h.ex
  have t : TupK H H' := by
    refine ⟨fun b xs e => k b _ (fun z => ?_) e, fun b o u e => k b _ (fun z => ?_) e⟩ <;> (rw [z] at e; rcases hx with ⟨vs, q⟩ | ⟨kv, q⟩ <;> (rw [e] at q; cases q))
  exact ⟨dx, vg, vs, k _ _ np.symm h1, Dt.tupK t _ (OT.imm g) h2, k _ _ nl.symm h3, Dts.tupK t _ (past_imm past) h4⟩
theorem TrAt.neX {o : HO} (h : TrAt K C H p l g past) (ho : H x = some o) (h1 : ∀ C dx fs, o ≠ .ins C dx fs) : x ≠ p := fun z => by
  obtain ⟨dx, vg, vs, q1, _⟩ := h.ex
  rw [z, q1] at ho
  exact h1 _ _ _ (Option.some.inj ho).symm
theorem q_forLN {tl : TE} {ds : List D} {j : Nat} {Inv : Addr → List V → Nat → L2.St → Hp → Prop} (h : EvN K tl σ H ds) (p0 : ∀ a vs H1, H a = none → Same H H1 → H1 a = some (.lst vs) → Dts K H1 ds vs → Inv a vs 0 σ H1)
    (hl : ∀ a vs i σ' H', Inv a vs i σ' H' → SqL K H' a vs) (step : ∀ a vs i v σ' H' (N : L2.St → Hp → Prop), vs[i]? = some v → Inv a vs i σ' H' → (∀ σ2 H2, Inv a vs (i + 1) σ2 H2 → N σ2 H2) → tu { E with nx := N, ct := N, bk := tv E } (σ'.set j (some v)) H')
    (done : ∀ a vs σ' H', Inv a vs vs.length σ' H' → tv E σ' H') : tSeq (tFor (iList K tl) (gName j) tu) tv E σ H :=
  h H (Same.refl H) _ fun a vs H1 ha e1 h1 h2 => ⟨a, rfl, ⟨vs, SqL.of h1⟩, for_list (xs := vs) (Inv a vs) (p0 a vs H1 ha e1 h1 h2) (fun i σ' H' _ p => hl a vs i σ' H' p)
    (fun i x σ' H' hx p => step a vs i x σ' H' _ hx p fun _ _ q => q) (fun σ' H' p => done a vs σ' H' p)⟩
theorem s_forLN {tl : TE} {ds : List D} {j : Nat} {Inv : Addr → List V → Nat → L2.St → Hp → Prop} (h : EvN K tl σ H ds) (p0 : ∀ a vs H1, H a = none → Same H H1 → H1 a = some (.lst vs) → Dts K H1 ds vs → Inv a vs 0 σ H1)
    (hl : ∀ a vs i σ' H', Inv a vs i σ' H' → SqL K H' a vs) (step : ∀ a vs i v σ' H' (N : L2.St → Hp → Prop), vs[i]? = some v → Inv a vs i σ' H' → (∀ σ2 H2, Inv a vs (i + 1) σ2 H2 → N σ2 H2) → tu { E with nx := N, ct := N, bk := E.nx } (σ'.set j (some v)) H')
    (done : ∀ a vs σ' H', Inv a vs vs.length σ' H' → E.nx σ' H') : tFor (iList K tl) (gName j) tu E σ H := q_forLN (tv := tNext) (E := E) h p0 hl step done
theorem s_keepO {CNo CMany : Addr} {E' : XK} {y : Tx} {n : Int} {t : OT} {d : D} (ha : Ev K ta σ H (.raw (.ref p))) (hb : Ev K tb σ H (.str y)) (hc : Ev K tc σ H (.int n)) (ht : TrAt K C H p l g past) (hz : past.length ≤ 10000) (ok : TrOk g rows) (hl : y.length ≤ 40) (hy : okT y) (ho : Okeep CNo CMany g rows (.str (S y)) true n (.did t d))
    (k : ∀ H', Keep2 p l H H' → TrAt K C H' p l t (past ++ [g]) → E.nx σ H') : tDrop (tMeth C "keep" (SpKeep K C CNo CMany) [] E' ta (tCons tb (tCons tc tNil))) E σ H :=
  ha H (Same.refl H) _ fun v H1 e1 hv => by
    obtain ⟨dx, vg, vs, h1, h2, h3, h4⟩ := (ht.mono e1).ex
    refine ⟨p, dx, _, hv, h1, tf_noM (by decide +kernel) (by decide +kernel) _ _, hb H1 e1 _ fun u H2 e2 hu => hc H2 (e1.trans e2) _ fun z H3 e3 hz3 => ?_⟩
    have e := (e1.trans e2).trans e3
    have hnm : nameB y = true := nameB_iff.mpr ⟨hl, hy⟩
    exact ⟨p, l, g, past, rows, u, true, n, .did t d, by rw [show v = .ref p from hv, show z = .int n from hz3]; rfl, ht.mono e, hz, ok, by rw [show u = .str (S y) from hu, ← hnm]; exact Thing.str (Nat.le_trans hl (by decide)), by rw [show u = .str (S y) from hu]; exact ho, fun v H' k2 t2 _ => k H' (same_k2 e k2) t2⟩
theorem s_graftO {CNo CNot CLong CTaken CMany : Addr} {E' : XK} {y z : Tx} {t : OT} {d : D} (ha : Ev K ta σ H (.raw (.ref p))) (hb : Ev K tb σ H (.str y)) (hc : Ev K tc σ H (.str z)) (ht : TrAt K C H p l g past) (hz : past.length ≤ 10000) (ok : TrOk g rows) (ny : nameB y = true) (nz : nameB z = true) (ho : Ograft CNo CNot CLong CTaken CMany g rows (.str (S y)) (.str (S z)) true true (.did t d))
    (k : ∀ H', Keep2 p l H H' → TrAt K C H' p l t (past ++ [g]) → E.nx σ H') : tDrop (tMeth C "graft" (SpGraft K C CNo CNot CLong CTaken CMany) [] E' ta (tCons tb (tCons tc tNil))) E σ H :=
  ha H (Same.refl H) _ fun v H1 e1 hv => by
    obtain ⟨dx, vg, vs, h1, h2, h3, h4⟩ := (ht.mono e1).ex
    refine ⟨p, dx, _, hv, h1, tf_noM (by decide +kernel) (by decide +kernel) _ _, hb H1 e1 _ fun u H2 e2 hu => hc H2 (e1.trans e2) _ fun u3 H3 e3 hz3 => ?_⟩
    have e := (e1.trans e2).trans e3
    exact ⟨p, l, g, past, rows, u, u3, true, true, .did t d, by rw [show v = .ref p from hv]; rfl, ht.mono e, hz, ok, by rw [show u = .str (S y) from hu, ← ny]; exact Thing.str (Nat.le_trans (nameB_iff.mp ny).1 (by decide)), by rw [show u3 = .str (S z) from hz3, ← nz]; exact Thing.str (Nat.le_trans (nameB_iff.mp nz).1 (by decide)), by rw [show u = .str (S y) from hu, show u3 = .str (S z) from hz3]; exact ho, fun v H' k2 t2 _ => k H' (same_k2 e k2) t2⟩
end
theorem filt_all2 {R : Rows} {f : Tx × Int → Bool} (h : ∀ p ∈ R, f p = true) : R.filter f = R := List.filter_eq_self.mpr h
theorem keep_new {C1 C5 : Addr} {R : Rows} {g : OT} {x : Tx} {n : Int} (ok : DOk R) (tok : TrOk g (srtR R)) (hx : nameB x = true) (hn : lookD R x = none) (hc : R.length < 100) : ∃ t d, Okeep C1 C5 g (srtR R) (.str (S x)) true n (.did t d) ∧ TrOk t (srtR (R ++ [(x, n)])) ∧ DOk (R ++ [(x, n)]) := by
  have e : dueF R 0 (.str x) .non true false n = (tx "told", .non, R ++ [(x, n)]) := by
    rw [dueF_x, if_neg (by rintro (z | ⟨z, _⟩); cases z; omega), if_neg (by decide), if_neg (fun z => absurd z.1 (by decide)), if_neg (by decide), if_neg (fun z => by omega), if_pos rfl, hn]
    have e1 : leftR R 0 x = R := by
      rw [left_lt (by decide)]
      exact filt_all2 fun p hp => by rw [decide_eq_false (lookD_none.mp hn p hp)]; rfl
    rw [e1]
    unfold putD
    rw [hn]; rfl
  have th : ThE (.str x) true := ⟨.inl ⟨x, rfl, by have := (nameB_iff.mp hx).1; omega, hx.symm⟩, fun _ _ z => by cases z⟩
  obtain ⟨u, hu, hm⟩ := due_keep (K := []) (H := fun _ => none) (C1 := C1) (C2 := C1) (C3 := C1) (C4 := C1) (C5 := C5) (C6 := C1) (d2 := .non) (b2 := false) (n := n) ok tok th (show Dt _ _ (.str x) (.str (S x)) from rfl)
  rw [e] at hm
  rcases hm with ⟨c, _, _, h, _⟩ | ⟨t, rfl, _, h1, h2⟩
  · cases h
  · exact ⟨t, _, hu, h1, h2⟩
theorem graft_new {C1 C2 C3 C4 C5 : Addr} {R : Rows} {g : OT} {c : Nat} (ok : DOk R) (tok : TrOk g (srtR R)) (hc : okT [c]) (hne : R ≠ []) (hl : ∀ p ∈ R, p.1.length ≤ 39) (hno : ∀ p ∈ R, p.1.take 1 ≠ [c]) (h2 : R.length + R.length ≤ 100) :
    ∃ t d, Ograft C1 C2 C3 C4 C5 g (srtR R) (.str (S [])) (.str (S [c])) true true (.did t d) ∧ TrOk t (srtR (R ++ R.map fun p => (c :: p.1, p.2))) ∧ DOk (R ++ R.map fun p => (c :: p.1, p.2)) := by
  have hgr : grpR R [] = srtR R := filt_all2 fun p _ => by show decide (p.1.take 0 = []) = true; rw [List.take_zero]; rfl
  have hmem : ∀ p, p ∈ srtR R ↔ p ∈ R := fun p => (srtR_perm R).mem_iff
  have hlen : (srtR R).length = R.length := (srtR_perm R).length_eq
  have e : dueF R 4 (.str []) (.str [c]) true true 0 = (tx "told", .int ((srtR R).length : Int), R ++ (srtR R).map fun p => (c :: p.1, p.2)) := by
    rw [dueF_x, if_neg (by rintro (z | ⟨_, z⟩) <;> cases z), if_pos (by decide)]
    show brF R [] [c] true = _
    unfold brF
    rw [hgr, kept_t, if_neg (fun z => hne (List.length_eq_zero_iff.mp (by rw [← hlen, z]; rfl))), if_neg, if_neg, if_neg (by omega)]
    · rfl
    · intro z
      obtain ⟨p, hp, q⟩ := List.any_eq_true.mp z
      cases e2 : lookD R (newT [] [c] p.1) with
      | none => rw [e2] at q; cases q
      | some m =>
        have := (lookD_mem ok.dis).mp e2
        exact hno _ this rfl
    · intro z
      obtain ⟨p, hp, q⟩ := List.any_eq_true.mp z
      have h3 := of_decide_eq_true q
      have h4 := hl p ((hmem p).mp hp)
      have : (newT [] [c] p.1).length = 1 + p.1.length := by unfold newT; rw [List.length_append]; rfl
      omega
  obtain ⟨u, hu, hm⟩ := due_graft (K := []) (H := fun _ => none) (C1 := C1) (C2 := C2) (C3 := C3) (C4 := C4) (C5 := C5) (C6 := C1) (n := 0) ok tok (ThE.name (l := []) (by decide)) (ThE.name (l := [c]) (nameB_iff.mpr ⟨by show 1 ≤ 40; decide, hc⟩)) (show Dt _ _ (.str []) (.str (S [])) from rfl) (show Dt _ _ (.str [c]) (.str (S [c])) from rfl)
  rw [e] at hm
  rcases hm with ⟨_, _, _, h, _⟩ | ⟨t, rfl, _, h1, h3⟩
  · cases h
  · have hp : (R ++ R.map fun p => (c :: p.1, p.2)).Perm (srtR (R ++ (srtR R).map fun p => (c :: p.1, p.2))) := ((List.Perm.refl R).append ((srtR_perm R).symm.map _)).trans (srtR_perm _).symm
    obtain ⟨a1, a2⟩ := trok_perm h1 hp
    exact ⟨t, _, hu, a1, a2⟩
/-! the texts that a trail is begun with -/
def numR (ts : List Tx) : Rows := (List.range ts.length).map fun j => (ts.getD j [], (j : Int))
def numTo (ts : List Tx) (i : Nat) : Rows := (List.range i).map fun j => (ts.getD j [], (j : Int))
theorem numTo_succ (ts : List Tx) (i : Nat) : numTo ts (i + 1) = numTo ts i ++ [(ts.getD i [], (i : Int))] := by
  unfold numTo
  rw [List.range_succ, List.map_append]; rfl
theorem numTo_len (ts : List Tx) (i : Nat) : (numTo ts i).length = i := by unfold numTo; rw [List.length_map, List.length_range]
theorem numTo_new {ts : List Tx} {i : Nat} (hd : ts.Nodup) (hi : i < ts.length) : lookD (numTo ts i) (ts.getD i []) = none := lookD_none.mpr fun p hp e => by
  obtain ⟨j, hj, rfl⟩ := List.mem_map.mp hp
  have hj' := List.mem_range.mp hj
  have e' : ts.getD j [] = ts.getD i [] := e
  rw [List.getD_eq_getElem?_getD, List.getD_eq_getElem?_getD, List.getElem?_eq_getElem hi, List.getElem?_eq_getElem (by omega)] at e'
  have := (List.getElem_inj hd).mp (show ts[j] = ts[i] from e')
  omega
def begT (way : Int) (w : Tx) : List Tx := if way = 1 then (List.range 12).map fun (k : Nat) => intL (k : Int) else if way = 2 then (List.range 12).map fun k => w.take (3 * k) else if way = 3 then [tx "p", 112 :: w.take 39, tx "qq"] else []
theorem begT_ok {way : Int} {w : Tx} (hw : w.length = 40) (ho : okT w) : (begT way w).Nodup ∧ (∀ y ∈ begT way w, nameB y = true) ∧ (begT way w).length ≤ 12 := by
  unfold begT
  split
  · exact ⟨by decide +kernel, by decide +kernel, by decide +kernel⟩
  · split
    · refine ⟨?_, fun y hy => ?_, by rw [List.length_map, List.length_range]; exact Nat.le_refl _⟩
      · refine List.pairwise_map.mpr (List.nodup_range.imp_of_mem fun {a b} ha hb h e => h ?_)
        have := congrArg List.length e
        have h1 := List.mem_range.mp ha
        have h2 := List.mem_range.mp hb
        rw [List.length_take, List.length_take] at this
        omega
      · obtain ⟨k, hk, rfl⟩ := List.mem_map.mp hy
        have := List.mem_range.mp hk
        exact nameB_iff.mpr ⟨by rw [List.length_take]; omega, okT_take _ ho⟩
    · split
      · have hp : tx "p" = [112] := by decide +kernel
        have hq : tx "qq" = [113, 113] := by decide +kernel
        rw [hp, hq]
        have hl : (w.take 39).length = 39 := by rw [List.length_take]; omega
        refine ⟨?_, fun y hy => ?_, by show 3 ≤ 12; decide⟩
        · refine List.nodup_cons.mpr ⟨fun m => ?_, List.nodup_cons.mpr ⟨fun m => ?_, List.nodup_cons.mpr ⟨fun m => (by cases m), List.nodup_nil⟩⟩⟩
          · rcases List.mem_cons.mp m with e | m
            · injection e with _ e2
              rw [← e2] at hl; cases hl
            · rw [List.mem_singleton] at m; injection m with e _; cases e
          · rw [List.mem_singleton] at m; injection m with e _; cases e
        · rcases List.mem_cons.mp hy with rfl | hy
          · decide
          · rcases List.mem_cons.mp hy with rfl | hy
            · refine nameB_iff.mpr ⟨by rw [List.length_cons, hl]; decide, fun c hc => ?_⟩
              rcases List.mem_cons.mp hc with rfl | hc
              · exact ⟨by decide, by decide, by decide⟩
              · exact okT_take _ ho c hc
            · rw [List.mem_singleton.mp hy]; decide
      · exact ⟨List.nodup_nil, fun y hy => (by cases hy), by show 0 ≤ 12; decide⟩
end
end Rt

namespace Rt
open PySem PySem.Spec PyProof.Rows L2
section
variable {P : Program} {w : World} {K : PySem.W.Frag} {mg : Str → Option Value} {base : Heap}
/-- a trail, the list of the dicts that were, and the dict that is -/
structure BV (K : PySem.W.Frag) (C : Addr) (H HH : Hp) (p l LP a : Addr) (g : OT) (past : List OT) (P : List (Addr × Rows)) (R : Rows) : Prop where
  sub : Same HH H
  n : ∀ b ∈ [p, l, LP, a], HH b = none
  tr : TrAt K C H p l g past
  lp : H LP = some (.lst (P.map fun e => V.ref e.1))
  dic : H a = some (.dK (kvR R))
  pa : ∀ e ∈ P, HH e.1 = some (.dK (kvR e.2))
  nLl : LP ≠ l
section
variable {σ : L2.St} {H HH H' : Hp} {ta tb tc te : TE} {E : Ends} {tu tv : TS} {C p l LP a : Addr} {g : OT} {past : List OT} {P : List (Addr × Rows)} {R : Rows}
theorem BV.mono (w : BV K C H HH p l LP a g past P R) (e : Same H H') : BV K C H' HH p l LP a g past P R := ⟨w.sub.trans e, w.n, w.tr.mono e, e _ _ w.lp, e _ _ w.dic, w.pa, w.nLl⟩
theorem BV.lat (w : BV K C H HH p l LP a g past P R) : ∃ vs, H l = some (.lst vs) := by
  obtain ⟨dx, vg, vs, h1, h2, h3, h4⟩ := w.tr.ex
  exact ⟨vs, h3⟩
theorem BV.pat (w : BV K C H HH p l LP a g past P R) : ∃ dx fs, H p = some (.ins C dx fs) := by
  obtain ⟨dx, vg, vs, h1, h2, h3, h4⟩ := w.tr.ex
  exact ⟨dx, _, h1⟩
theorem BV.mut (w : BV K C H HH p l LP a g past P R) : MutA H [p, l, LP, a] := fun b hb => by
  simp only [List.mem_cons, List.not_mem_nil, or_false] at hb
  rcases hb with rfl | rfl | rfl | rfl
  · obtain ⟨dx, fs, h⟩ := w.pat; exact .inr (.inl ⟨C, dx, fs, h⟩)
  · obtain ⟨vs, h⟩ := w.lat; exact .inl ⟨vs, h⟩
  · exact .inl ⟨_, w.lp⟩
  · exact .inr (.inr ⟨_, w.dic⟩)
theorem BV.wide (w : BV K C H HH p l LP a g past P R) : BV K C H (hide [p, l, LP, a] H) p l LP a g past P R :=
  ⟨hide_same, fun b hb => hide_none hb, w.tr, w.lp, w.dic, fun e he => into_hide w.sub w.n _ _ (w.pa e he), w.nLl⟩
theorem BV.nLp (w : BV K C H HH p l LP a g past P R) : LP ≠ p := w.tr.neX w.lp (fun _ _ _ z => by cases z)
theorem BV.nap (w : BV K C H HH p l LP a g past P R) : a ≠ p := w.tr.neX w.dic (fun _ _ _ z => by cases z)
theorem BV.nal (w : BV K C H HH p l LP a g past P R) : a ≠ l := fun z => by
  obtain ⟨vs, h⟩ := w.lat
  rw [← z, w.dic] at h; cases h
theorem BV.naL (w : BV K C H HH p l LP a g past P R) : a ≠ LP := fun z => by
  have h := w.lp
  rw [← z, w.dic] at h; cases h
/-- past.append(dict(plain)) -/
theorem s_pastD {tp : TE} (w : BV K C H HH p l LP a g past P R) (ho : Ev K ta σ H (.raw (.ref LP))) (hp : ∀ H', Same HH H' → Ev K tp σ H' (.raw (.ref a))) (hz : P.length ≤ 1000)
    (k : ∀ d H' HH', Same HH HH' → BV K C H' HH' p l LP a g past (P ++ [(d, R)]) R → E.nx σ H') : tDrop (tBM K "list" rAppend ta (tCons (tCB (fun xs H Q => ∃ (a : Addr) (kvs : List (Key × V)), xs = [.ref a] ∧ Rd H a (.dK kvs) ∧ ∀ p, H p = none → Q (.ref p) (upd H p (.dK kvs))) (tCons tp tNil)) tNil)) E σ H :=
  ho H (Same.refl H) _ fun x H1 e1 hx => by
    have w1 := w.mono e1
    refine ⟨by rw [show x = .ref LP from hx]; exact .inl ⟨rfl, _, SqL.of w1.lp⟩, ev_ddict (hp H1 w1.sub) (.inl w1.dic) H1 (Same.refl H1) _ fun d H2 hd0 e2 hd2 => ?_⟩
    have w2 := w1.mono e2
    have m1 := w1.mut.ne hd0
    have hh : (hide [p, l, LP, a] H2) d = some (.dK (kvR R)) := by rw [hide_at m1]; exact hd2
    refine ⟨LP, _, .ref d, hx, rfl, w2.lp, smallLt (by rw [List.length_map]; omega), k d _ (hide [p, l, LP, a] H2) (into_hide (w.sub.trans (e1.trans e2)) w.n) ?_⟩
    have k3 : ∀ b o, b ≠ LP → H2 b = some o → (upd H2 LP (.lst (P.map (fun e => V.ref e.1) ++ [.ref d]))) b = some o := fun b o nb h => by rw [upd_ne nb]; exact h
    refine ⟨fun b o h => ?_, fun b hb => hide_none hb, w2.tr.keepX k3 (.inl ⟨_, w2.lp⟩) w2.nLp w2.nLl, by rw [upd_same, List.map_append]; rfl, k3 _ _ w2.naL w2.dic, fun e he => ?_, w2.nLl⟩
    · have nb : b ∉ [p, l, LP, a] := fun z => by rw [hide_none z] at h; cases h
      rw [hide_at nb] at h
      exact k3 _ _ (fun z => nb (by rw [z]; simp)) h
    · rcases List.mem_append.mp he with he | he
      · exact w2.wide.pa e he
      · rw [List.mem_singleton.mp he]; exact hh
theorem q_pastD {tp : TE} (w : BV K C H HH p l LP a g past P R) (ho : Ev K ta σ H (.raw (.ref LP))) (hp : ∀ H', Same HH H' → Ev K tp σ H' (.raw (.ref a))) (hz : P.length ≤ 1000)
    (k : ∀ d H' HH', Same HH HH' → BV K C H' HH' p l LP a g past (P ++ [(d, R)]) R → tv E σ H') : tSeq (tDrop (tBM K "list" rAppend ta (tCons (tCB (fun xs H Q => ∃ (a : Addr) (kvs : List (Key × V)), xs = [.ref a] ∧ Rd H a (.dK kvs) ∧ ∀ p, H p = none → Q (.ref p) (upd H p (.dK kvs))) (tCons tp tNil)) tNil))) tv E σ H :=
  s_pastD (E := { E with nx := tv E }) w ho hp hz k
/-- a deed of the trail -/
theorem BV.deed (w : BV K C H HH p l LP a g past P R) {g' : OT} {past' : List OT} (k : Keep2 p l H H') (t : TrAt K C H' p l g' past') : BV K C H' HH p l LP a g' past' P R :=
  ⟨fun b o h => k b o (ne_of_none h (w.n p (by simp))) (ne_of_none h (w.n l (by simp))) (w.sub b o h), w.n, t, k _ _ w.nLp w.nLl w.lp, k _ _ w.nap w.nal w.dic, w.pa, w.nLl⟩
/-- the dict is changed -/
theorem BV.put (w : BV K C H HH p l LP a g past P R) {R' : Rows} (k : ∀ b o, b ≠ a → H b = some o → H' b = some o) (h : H' a = some (.dK (kvR R'))) : BV K C H' HH p l LP a g past P R' :=
  ⟨fun b o e => k b o (ne_of_none e (w.n a (by simp))) (w.sub b o e), w.n, w.tr.keepX k (.inr ⟨_, w.dic⟩) w.nap w.nal, k _ _ w.naL.symm w.lp, h, w.pa, w.nLl⟩
/-- past.append(dict(plain)); trail.keep(y, n); plain[y] = n -/
theorem s_stepK {tp tn tm ty tz tp2 : TE} {CNo CMany : Addr} {E' : XK} {y : Tx} {n : Int} (w : BV K C H HH p l LP a g past P R) (tok : TrOk g (srtR R)) (ok : DOk R) (hLP : ∀ H', Same HH H' → Ev K ta σ H' (.raw (.ref LP))) (htr : ∀ H', Same HH H' → Ev K tb σ H' (.raw (.ref p))) (hpl : ∀ H', Same HH H' → Ev K tp σ H' (.raw (.ref a))) (hpl2 : ∀ H', Same HH H' → Ev K tp2 σ H' (.raw (.ref a)))
    (hy : ∀ H', Same HH H' → Ev K ty σ H' (.str y)) (hy2 : ∀ H', Same HH H' → Ev K tz σ H' (.str y)) (hn : ∀ H', Same HH H' → H' a = some (.dK (kvR R)) → Ev K tn σ H' (.int n)) (hn2 : ∀ H', Same HH H' → H' a = some (.dK (kvR R)) → Ev K tm σ H' (.int n))
    (ny : nameB y = true) (hnew : lookD R y = none) (hc : R.length < 100) (hz : P.length ≤ 1000) (hz2 : past.length ≤ 1000)
    (k : ∀ t d H' HH', Same HH HH' → BV K C H' HH' p l LP a t (past ++ [g]) (P ++ [(d, R)]) (R ++ [(y, n)]) → TrOk t (srtR (R ++ [(y, n)])) → DOk (R ++ [(y, n)]) → E.nx σ H') :
    tSeq (tDrop (tBM K "list" rAppend ta (tCons (tCB (fun xs H Q => ∃ (a : Addr) (kvs : List (Key × V)), xs = [.ref a] ∧ Rd H a (.dK kvs) ∧ ∀ p, H p = none → Q (.ref p) (upd H p (.dK kvs))) (tCons tp tNil)) tNil))) (tSeq (tDrop (tMeth C "keep" (SpKeep K C CNo CMany) [] E' tb (tCons ty (tCons tn tNil)))) (sDPut tp2 tz tm)) E σ H := by
  refine q_pastD w (hLP H w.sub) hpl hz fun d H1 HH1 s1 w1 => ?_
  obtain ⟨t, e, ho, h1, h2⟩ := keep_new (C1 := CNo) (C5 := CMany) (n := n) ok tok ny hnew hc
  have s1h := s1.trans w1.sub
  show tDrop _ { E with nx := sDPut tp2 tz tm E } σ H1
  refine s_keepO (htr H1 s1h) (hy H1 s1h) (hn H1 s1h w1.dic) w1.tr (by omega) tok (nameB_iff.mp ny).1 (nameB_iff.mp ny).2 ho fun H2 k2 t2 => ?_
  have w2 := w1.deed k2 t2
  have s2h := s1.trans w2.sub
  show sDPut tp2 tz tm E σ H2
  refine s_dput (R := R) (x := y) (n := n) (hn2 H2 s2h w2.dic) (hpl2 H2 s2h) (hy2 H2 s2h) w2.dic (by omega) fun H3 k3 h3 => ?_
  have e3 : putD R y n = R ++ [(y, n)] := by unfold putD; rw [hnew]; rfl
  rw [e3] at h3
  exact k t d H3 HH1 s1 (w2.put k3 h3) h1 h2
end
end
end Rt

namespace Rt
open PySem PySem.Spec PyProof.Rows L2
section
variable {P : Program} {w : World} {K : PySem.W.Frag} {mg : Str → Option Value} {base : Heap}
def RelT (past : List OT) (P : List (Addr × Rows)) : Prop := ∃ T : List (OT × Addr × Rows), past = T.map (fun e => e.1) ∧ P = T.map (fun e => e.2) ∧ ∀ e ∈ T, TrOk e.1 (srtR e.2.2) ∧ DOk e.2.2
theorem RelT.nil : RelT [] [] := ⟨[], rfl, rfl, fun e h => by cases h⟩
theorem RelT.snoc {past : List OT} {P : List (Addr × Rows)} {g : OT} {d : Addr} {R : Rows} (h : RelT past P) (h1 : TrOk g (srtR R)) (h2 : DOk R) : RelT (past ++ [g]) (P ++ [(d, R)]) := by
  obtain ⟨T, e1, e2, h⟩ := h
  refine ⟨T ++ [(g, d, R)], by rw [e1, List.map_append]; rfl, by rw [e2, List.map_append]; rfl, fun e he => ?_⟩
  rcases List.mem_append.mp he with he | he
  · exact h e he
  · rw [List.mem_singleton.mp he]; exact ⟨h1, h2⟩
theorem RelT.len {past : List OT} {P : List (Addr × Rows)} (h : RelT past P) : past.length = P.length := by
  obtain ⟨T, e1, e2, _⟩ := h
  rw [e1, e2, List.length_map, List.length_map]
section
variable {σ : L2.St} {H HH H' HH' : Hp} {E : Ends} {tu tv : TS} {sl : List (Option D)} {C p l LP a : Addr} {g : OT} {past : List OT} {P : List (Addr × Rows)} {R : Rows} {ds : List D}
theorem BV.to (w : BV K C H HH p l LP a g past P R) (e : Same H H') (s : Same HH HH') (t : Same HH' H') (n : ∀ b ∈ [p, l, LP, a], HH' b = none) : BV K C H' HH' p l LP a g past P R :=
  ⟨t, n, w.tr.mono e, e _ _ w.lp, e _ _ w.dic, fun x hx => s _ _ (w.pa x hx), w.nLl⟩
/-- over a list that stands in HH -/
theorem s_forHH {i j : Nat} {Inv : Nat → L2.St → Hp → Prop} (S : Sl K HH sl σ) (hi : sl[i]? = some (some (.lst ds))) (sub : Same HH H) (p0 : Inv 0 σ H) (hs : ∀ k σ' H', Inv k σ' H' → Same HH H')
    (step : ∀ k d v σ' H' (N : L2.St → Hp → Prop), ds[k]? = some d → Inv k σ' H' → Dt K HH d v → (∀ σ2 H2, Inv (k + 1) σ2 H2 → N σ2 H2) → tu { E with nx := N, ct := N, bk := E.nx } (σ'.set j (some v)) H') (done : ∀ σ' H', Inv ds.length σ' H' → E.nx σ' H') : tFor (iList K (tVar i)) (gName j) tu E σ H := by
  obtain ⟨v, q1, b, vs, hv, h2, h3⟩ := S.get hi
  exact ⟨v, q1, b, hv, ⟨vs, SqL.of (sub _ _ h2)⟩, for_list (xs := vs) Inv p0 (fun k σ' H' _ p => SqL.of (hs _ _ _ p _ _ h2))
    (fun k x σ' H' hx p => by
      obtain ⟨d, hd, hv⟩ := h3.getv hx
      exact step k d x σ' H' _ hd p hv fun _ _ q => q) (fun σ' H' p => by rw [h3.len] at p; exact done _ _ p)⟩
theorem q_forHH {i j : Nat} {Inv : Nat → L2.St → Hp → Prop} (S : Sl K HH sl σ) (hi : sl[i]? = some (some (.lst ds))) (sub : Same HH H) (p0 : Inv 0 σ H) (hs : ∀ k σ' H', Inv k σ' H' → Same HH H')
    (step : ∀ k d v σ' H' (N : L2.St → Hp → Prop), ds[k]? = some d → Inv k σ' H' → Dt K HH d v → (∀ σ2 H2, Inv (k + 1) σ2 H2 → N σ2 H2) → tu { E with nx := N, ct := N, bk := tv E } (σ'.set j (some v)) H') (done : ∀ σ' H', Inv ds.length σ' H' → tv E σ' H') : tSeq (tFor (iList K (tVar i)) (gName j) tu) tv E σ H := s_forHH (E := { E with nx := tv E }) S hi sub p0 hs step done
end
def gR : Nat → Rows
  | 0 => numTo (begT 1 []) 12
  | i + 1 => gR i ++ (gR i).map fun p => ((97 + i) :: p.1, p.2)
theorem gR_ok : ∀ i, i < 3 → gR i ≠ [] ∧ (∀ p ∈ gR i, p.1.length ≤ 39) ∧ (∀ p ∈ gR i, p.1.take 1 ≠ [97 + i]) ∧ (gR i).length + (gR i).length ≤ 100 := by
  intro i hi
  have h : i = 0 ∨ i = 1 ∨ i = 2 := by omega
  rcases h with rfl | rfl | rfl <;> decide +kernel
def zR (i : Nat) : Rows := (List.range i).map fun (j : Nat) => (122 :: intL (j : Int), (j : Int))
theorem zR_succ (i : Nat) : zR (i + 1) = zR i ++ [(122 :: intL (i : Int), (i : Int))] := by
  unfold zR
  rw [List.range_succ, List.map_append]; rfl
theorem zR_ok : ∀ i, i < 3 → lookD (gR 3 ++ zR i) (122 :: intL (i : Int)) = none ∧ nameB (122 :: intL (i : Int)) = true ∧ (gR 3 ++ zR i).length < 100 := by
  intro i hi
  have h : i = 0 ∨ i = 1 ∨ i = 2 := by omega
  rcases h with rfl | rfl | rfl <;> decide +kernel
theorem begT_one (w : Tx) : begT 1 w = begT 1 [] := rfl
theorem gR_in : ((List.range 3).all fun i => (List.range (gR i).length).all fun j => (decide (lookD (gR i ++ ((gR i).take j).map fun p => ((97 + i) :: p.1, p.2)) ((97 + i) :: ((gR i).getD j ([], 0)).1) = none) && decide (lookD (gR i ++ ((gR i).take j).map fun p => ((97 + i) :: p.1, p.2)) ((gR i).getD j ([], 0)).1 = some ((gR i).getD j ([], 0)).2))) = true := by decide +kernel
theorem gR_at {i j : Nat} (hi : i < 3) (hj : j < (gR i).length) : lookD (gR i ++ ((gR i).take j).map fun p => ((97 + i) :: p.1, p.2)) ((97 + i) :: ((gR i).getD j ([], 0)).1) = none ∧ lookD (gR i ++ ((gR i).take j).map fun p => ((97 + i) :: p.1, p.2)) ((gR i).getD j ([], 0)).1 = some ((gR i).getD j ([], 0)).2 := by
  have h := List.all_eq_true.mp (List.all_eq_true.mp gR_in i (List.mem_range.mpr hi)) j (List.mem_range.mpr hj)
  obtain ⟨h1, h2⟩ := Bool.and_eq_true_iff.mp h
  exact ⟨of_decide_eq_true h1, of_decide_eq_true h2⟩
theorem gR_len : (gR 3).length = 96 := by decide +kernel
def BegI (K : PySem.W.Frag) (C : Addr) (HH0 : Hp) (p l LP a : Addr) (sl : List (Option D)) (n : Nat) (R : Rows) (σ : L2.St) (H : Hp) : Prop := ∃ HH g past P, Same HH0 HH ∧ BV K C H HH p l LP a g past P R ∧ TrOk g (srtR R) ∧ DOk R ∧ RelT past P ∧ P.length = n ∧ Sl K HH0 sl σ
theorem q_graftO {σ : L2.St} {H : Hp} {ta tb tc : TE} {E : Ends} {tv : TS} {C p l : Addr} {g : OT} {past : List OT} {rows : Rows} {CNo CNot CLong CTaken CMany : Addr} {E' : XK} {y z : Tx} {t : OT} {d : D} (ha : Ev K ta σ H (.raw (.ref p))) (hb : Ev K tb σ H (.str y)) (hc : Ev K tc σ H (.str z)) (ht : TrAt K C H p l g past) (hz : past.length ≤ 10000) (ok : TrOk g rows) (ny : nameB y = true) (nz : nameB z = true) (ho : Ograft CNo CNot CLong CTaken CMany g rows (.str (S y)) (.str (S z)) true true (.did t d))
    (k : ∀ H', Keep2 p l H H' → TrAt K C H' p l t (past ++ [g]) → tv E σ H') : tSeq (tDrop (tMeth C "graft" (SpGraft K C CNo CNot CLong CTaken CMany) [] E' ta (tCons tb (tCons tc tNil)))) tv E σ H := s_graftO (E := { E with nx := tv E }) ha hb hc ht hz ok ny nz ho k
def SpBegun (K : PySem.W.Frag) (C : Addr) : Sp := fun vs H Q _ => ∃ p l LP way w more, vs = [.ref p, .ref LP, .int way, .str (S w), .int more] ∧ TrAt K C H p l none [] ∧ H LP = some (.lst []) ∧ LP ≠ l ∧ w.length = 40 ∧ okT w ∧ 0 ≤ more ∧ more ≤ 3 ∧
  ∀ H' HH' a g past P R, Same (hide [p, l, LP] H) HH' → BV K C H' HH' p l LP a g past P R → TrOk g (srtR R) → DOk R → RelT past P → P.length ≤ 18 → Q (.ref a) H'
theorem cal_begun {CTrail CNoName CNotThere CTooLong CTaken CTooMany : Addr} (F : Dfn K mg "_law_begun" s__law_begun ["_law_trail", "_law_past", "_law_way", "_law_word", "_law_more"]) (BU : Bl mg) (x_Trail : TrC K mg CTrail) (c_Trail_keep : MetX P w K mg base (L2.CX P w) 47 CTrail "keep" (SpKeep K CTrail CNoName CTooMany))
    (c_Trail_graft : MetX P w K mg base (L2.CX P w) 47 CTrail "graft" (SpGraft K CTrail CNoName CNotThere CTooLong CTaken CTooMany)) : Cal P w K mg base CX0 48 "_law_begun" (SpBegun K CTrail) := by
  refine cal_sp F sc__law_begun (fun vs H Q E h => by obtain ⟨p, l, LP, way, w, more, rfl, _⟩ := h; rfl) fun cdv A outer s f H vs Q E hr h => ?_
  obtain ⟨p, l, LP, way, wd, more, rfl, ht, hLP, nLl, hwl, hwo, hm0, hm3, k⟩ := h
  refine ⟨_, (pss_cons (ps_set (i := 5) sc__law_begun.nd rfl (Or.inl rfl) pe_dnewK) (pss_cons (ps_set (i := 6) sc__law_begun.nd rfl (Or.inl rfl) (pe_lst pa_nil)) (pss_cons (ps_if (pt_cmpR op_eq (pv 2) pe_int (nomark _)) (pss_one (ps_setLc (i := 6) (own := [("_law_k", 7)]) (g := gName 7) (by rfl) sc__law_begun.nd rfl rfl (sw_true rfl rfl rfl (by decide +kernel)) (pi_range1 (by rfl) BU.range_ (pa_cons pe_int pa_nil)) (blkOk_by (own := [("_law_k", 7)]) (N := N__law_begun) (sc := defScope s__law_begun) (by decide +kernel)) (fun _ _ _ _ _ => pg_name (i := 7) sc__law_begun.nd rfl (Or.inl rfl)) (fun _ _ _ _ _ => pts_nil) (fun _ _ _ _ _ => (pe_callTy call_str_int (by rfl) BU.str_ (by decide +kernel) (pa_cons (pv 7) pa_nil))))) pss_nil) (pss_cons (ps_if (pt_cmpR op_eq (pv 2) pe_int (nomark _)) (pss_one (ps_setLc (i := 6) (own := [("_law_k", 7)]) (g := gName 7) (by rfl) sc__law_begun.nd rfl rfl (sw_true rfl rfl rfl (by decide +kernel)) (pi_range1 (by rfl) BU.range_ (pa_cons pe_int pa_nil)) (blkOk_by (own := [("_law_k", 7)]) (N := N__law_begun) (sc := defScope s__law_begun) (by decide +kernel)) (fun _ _ _ _ _ => pg_name (i := 7) sc__law_begun.nd rfl (Or.inl rfl)) (fun _ _ _ _ _ => pts_nil) (fun _ _ _ _ _ => (pe_slice sl_str (pv 3) po_none (po_some (pe_op op_mul pe_int (pv 7))))))) pss_nil) (pss_cons (ps_if (pt_cmpR op_eq (pv 2) pe_int (nomark _)) (pss_one (ps_set (i := 6) sc__law_begun.nd rfl (Or.inl rfl) (pe_lst (pa_cons pe_str (pa_cons (pe_op op_add_str pe_str (pe_slice sl_str (pv 3) po_none (po_some pe_int))) (pa_cons pe_str pa_nil)))))) pss_nil) (pss_cons (ps_for PassesOwn.never rfl (pi_list (pv 6)) (pg_name (i := 8) sc__law_begun.nd rfl (Or.inl rfl)) (pss_cons (ps_expr (pe_bm PySem.F.plainAttrs_list PySem.F.slot_list_append PySem.F.type_list_append mt_append (pv 1) (pa_cons (pe_callTy call_dictD (by rfl) BU.dict_ (by decide +kernel) (pa_cons (pv 5) pa_nil)) pa_nil))) (pss_cons (ps_expr (pe_mt c_Trail_keep x_Trail.cl hr (by omega) pass0X (pv 0) (pa_cons (pv 8) (pa_cons (pe_callB call_lenD (by rfl) BU.len_ PySem.boot_len (pa_cons (pv 5) pa_nil)) pa_nil)))) (pss_one (ps_dput (hu_of hr) (pv 5) (pv 8) (pe_callB call_lenD (by rfl) BU.len_ PySem.boot_len (pa_cons (pv 5) pa_nil)) rfl))))) (pss_cons (ps_if (pt_cmpR op_eq (pv 2) pe_int (nomark _)) (pss_one (ps_for PassesOwn.never rfl (pi_list (pe_lst (pa_cons pe_str (pa_cons pe_str (pa_cons pe_str pa_nil))))) (pg_name (i := 9) sc__law_begun.nd rfl (Or.inl rfl)) (pss_cons (ps_expr (pe_bm PySem.F.plainAttrs_list PySem.F.slot_list_append PySem.F.type_list_append mt_append (pv 1) (pa_cons (pe_callTy call_dictD (by rfl) BU.dict_ (by decide +kernel) (pa_cons (pv 5) pa_nil)) pa_nil))) (pss_cons (ps_expr (pe_mt c_Trail_graft x_Trail.cl hr (by omega) pass0X (pv 0) (pa_cons pe_str (pa_cons (pv 9) pa_nil)))) (pss_one (ps_for PassesOwn.never rfl (pi_list (pe_callTy (call_listD (by rfl)) (by rfl) BU.list_ (by decide +kernel) (pa_cons (pv 5) pa_nil))) (pg_name (i := 10) sc__law_begun.nd rfl (Or.inl rfl)) (pss_one (ps_dput (hu_of hr) (pv 5) (pe_op op_add_str (pv 9) (pv 10)) (pe_dget (hu_of hr) (pv 5) (pv 10) (fun _ _ => rfl)) rfl)))))))) pss_nil) (pss_cons (ps_for PassesOwn.never rfl (pi_range1 (by rfl) BU.range_ (pa_cons (pe_ix ix_list (pe_lst (pa_cons pe_int (pa_cons (pv 4) pa_nil))) (pe_callTy call_int1 (by rfl) BU.int_ (by decide +kernel) (pa_cons (pe_cmpR op_eq (pv 2) pe_int (nomark _)) pa_nil)) (fun _ _ => rfl)) pa_nil)) (pg_name (i := 7) sc__law_begun.nd rfl (Or.inl rfl)) (pss_cons (ps_expr (pe_bm PySem.F.plainAttrs_list PySem.F.slot_list_append PySem.F.type_list_append mt_append (pv 1) (pa_cons (pe_callTy call_dictD (by rfl) BU.dict_ (by decide +kernel) (pa_cons (pv 5) pa_nil)) pa_nil))) (pss_cons (ps_expr (pe_mt c_Trail_keep x_Trail.cl hr (by omega) pass0X (pv 0) (pa_cons (pe_op op_add_str pe_str (pe_callTy call_str_int (by rfl) BU.str_ (by decide +kernel) (pa_cons (pv 7) pa_nil))) (pa_cons (pv 7) pa_nil)))) (pss_one (ps_dput (hu_of hr) (pv 5) (pe_op op_add_str pe_str (pe_callTy call_str_int (by rfl) BU.str_ (by decide +kernel) (pa_cons (pv 7) pa_nil))) (pv 7) rfl))))) (pss_one (ps_ret (pv 5))))))))))), ?_⟩
  try dsimp only [cxOf]
  have S0 : Sl K (hide [p, l, LP] H) [some (.raw (.ref p)), some (.raw (.ref LP)), some (.int way), some (.str wd), some (.int more), none, none, none, none, none, none] (start ["_law_trail", "_law_past", "_law_way", "_law_word", "_law_more", "_law_plain", "_law_texts", "_law_k", "_law_text", "_law_sign", "_law_name"] [.ref p, .ref LP, .int way, .str (S wd), .int more]) := ⟨_, _, rfl, rfl, _, _, rfl, rfl, _, _, rfl, rfl, _, _, rfl, rfl, _, _, rfl, rfl, none, _, rfl, none, _, rfl, none, _, rfl, none, _, rfl, none, _, rfl, none, _, rfl, rfl⟩
  generalize start _ [V.ref p, V.ref LP, V.int way, V.str (S wd), V.int more] = σ at *
  refine q_dnew fun a H1 ha0 e1 ha1 => ?_
  have S1 := S0.set 5 (d := .raw (.ref a)) (v := .ref a) rfl
  generalize σ.set 5 (some (V.ref a)) = σ1 at *
  have S1' : Sl K (hide [p, l, LP] H) [some (.raw (.ref p)), some (.raw (.ref LP)), some (.int way), some (.str wd), some (.int more), some (.raw (.ref a)), none, none, none, none, none] σ1 := S1
  have hLP1 := e1 _ _ hLP
  have w1 : BV K CTrail H1 (hide [p, l, LP] H) p l LP a none [] [] [] := ⟨hide_same.trans e1, fun b hb => by
    simp only [List.mem_cons, List.not_mem_nil, or_false] at hb
    rcases hb with rfl | rfl | rfl | rfl
    · exact hide_none (by simp)
    · exact hide_none (by simp)
    · exact hide_none (by simp)
    · exact Same.free hide_same ha0, ht.mono e1, hLP1, ha1, fun e he => (by cases he), nLl⟩
  have S1h := S1'.mono w1.sub
  refine q_asgA S1' w1.sub w1.n w1.mut rfl (en_lst (ds := []) ea_nil (by decide)) fun σ2 H2 HH2 e2 s2 t2 n2 S2 => ?_
  have S2' : Sl K HH2 [some (.raw (.ref p)), some (.raw (.ref LP)), some (.int way), some (.str wd), some (.int more), some (.raw (.ref a)), some (.lst (([] : List Tx).map D.str)), none, none, none, none] σ2 := S2
  have w2 := w1.to e2 s2 t2 n2
  have hbig : (100 : Int) < big := by decide +kernel
  -- the texts
  refine q_jn (R := fun σ' H' => ∃ HH, Same HH2 HH ∧ BV K CTrail H' HH p l LP a none [] [] [] ∧ Sl K HH [some (.raw (.ref p)), some (.raw (.ref LP)), some (.int way), some (.str wd), some (.int more), some (.raw (.ref a)), some (.lst ((if way = 1 then begT 1 [] else []).map D.str)), none, none, none, none] σ') (fun N hN => ?_) ?_
  · have Sh := S2'.mono w2.sub
    refine s_if (b := decide (way = 1)) (et_test (ev_eqI (ev_var Sh (i := 2) (by rfl)) ev_int)) (fun q H3 e3 => ?_) (fun q H3 e3 => ?_)
    · have w3 := w2.mono e3
      have Sh3 := Sh.mono e3
      refine s_asgA S2' w3.sub w3.n w3.mut (D.imms_map fun _ _ => rfl) (EvN.to (en_lcR 12 (fun _ => true) (fun i => .str (intL (i : Int))) (ea_cons ev_int ea_nil) (by decide) ⟨by decide, by decide⟩ Sh3 (fun i hi σ' H' e S' => et_yes) (fun i hi _ σ' H' e S' => ev_strI (ev_var S' (i := 7) (by rfl)) (by have := hbig; omega)) (fun _ _ _ => rfl)) (es := (begT 1 []).map D.str) (by rw [filt_all]; show _ = ((List.range 12).map fun (k : Nat) => intL (k : Int)).map D.str; rw [List.map_map]; rfl)) fun σ4 H4 HH4 e4 s4 t4 n4 S4 => hN _ _ ⟨HH4, s4, w3.to e4 s4 t4 n4, ?_⟩
      rw [if_pos (of_decide_eq_true q)]; exact S4
    · refine hN _ _ ⟨HH2, Same.refl _, w2.mono e3, ?_⟩
      rw [if_neg (of_decide_eq_false q)]; exact S2'
  rintro σ3 H3 ⟨HH3, s3, w3, S3⟩
  refine q_jn (R := fun σ' H' => ∃ HH, Same HH3 HH ∧ BV K CTrail H' HH p l LP a none [] [] [] ∧ Sl K HH [some (.raw (.ref p)), some (.raw (.ref LP)), some (.int way), some (.str wd), some (.int more), some (.raw (.ref a)), some (.lst ((if way = 2 then begT 2 wd else if way = 1 then begT 1 [] else []).map D.str)), none, none, none, none] σ') (fun N hN => ?_) ?_
  · have Sh := S3.mono w3.sub
    refine s_if (b := decide (way = 2)) (et_test (ev_eqI (ev_var Sh (i := 2) (by rfl)) ev_int)) (fun q H4 e4 => ?_) (fun q H4 e4 => ?_)
    · have w4 := w3.mono e4
      have Sh4 := Sh.mono e4
      refine s_asgA S3 w4.sub w4.n w4.mut (D.imms_map fun _ _ => rfl) (EvN.to (en_lcR 12 (fun _ => true) (fun i => .str (wd.take (3 * i))) (ea_cons ev_int ea_nil) (by decide) ⟨by decide, by decide⟩ Sh4 (fun i hi σ' H' e S' => et_yes) (fun i hi _ σ' H' e S' => ev_slTo (3 * i) (ev_var S' (i := 3) (by rfl)) (ev_mul (i := 3) ev_int (ev_var S' (i := 7) (by rfl)) (.inl ⟨by omega, by omega⟩)) (by omega) (by omega)) (fun _ _ _ => rfl)) (es := (begT 2 wd).map D.str) (by rw [filt_all]; show _ = ((List.range 12).map fun k => wd.take (3 * k)).map D.str; rw [List.map_map]; rfl)) fun σ5 H5 HH5 e5 s5 t5 n5 S5 => hN _ _ ⟨HH5, s5, w4.to e5 s5 t5 n5, ?_⟩
      rw [if_pos (of_decide_eq_true q)]; exact S5
    · refine hN _ _ ⟨HH3, Same.refl _, w3.mono e4, ?_⟩
      rw [if_neg (of_decide_eq_false q)]; exact S3
  rintro σ4 H4 ⟨HH4, s4, w4, S4⟩
  refine q_jn (R := fun σ' H' => ∃ HH, Same HH4 HH ∧ BV K CTrail H' HH p l LP a none [] [] [] ∧ Sl K HH [some (.raw (.ref p)), some (.raw (.ref LP)), some (.int way), some (.str wd), some (.int more), some (.raw (.ref a)), some (.lst ((begT way wd).map D.str)), none, none, none, none] σ') (fun N hN => ?_) ?_
  · have Sh := S4.mono w4.sub
    refine s_if (b := decide (way = 3)) (et_test (ev_eqI (ev_var Sh (i := 2) (by rfl)) ev_int)) (fun q H5 e5 => ?_) (fun q H5 e5 => ?_)
    · obtain rfl : way = 3 := of_decide_eq_true q
      have w5 := w4.mono e5
      have Sh5 := Sh.mono e5
      exact s_asgA S4 w5.sub w5.n w5.mut (D.imms_map fun _ _ => rfl) (EvN.to (en_lst (ds := [.str (tx "p"), .str (112 :: wd.take 39), .str (tx "qq")]) (ea_cons (Ev.to ev_str rfl) (ea_cons (ev_addS (a := [112]) (b := wd.take 39) (Ev.to ev_str rfl) (ev_slTo 39 (ev_var Sh5 (i := 3) (by rfl)) ev_int rfl (by omega)) (by rw [List.length_take]; simp only [List.length_cons, List.length_nil]; omega)) (ea_cons (Ev.to ev_str rfl) ea_nil))) (by show 3 ≤ 100000; decide)) (es := (begT 3 wd).map D.str) rfl) fun σ6 H6 HH6 e6 s6 t6 n6 S6 => hN _ _ ⟨HH6, s6, w5.to e6 s6 t6 n6, S6⟩
    · refine hN _ _ ⟨HH4, Same.refl _, w4.mono e5, ?_⟩
      have q3 := of_decide_eq_false q
      have e : begT way wd = if way = 2 then begT 2 wd else if way = 1 then begT 1 [] else [] := by
        unfold begT
        by_cases h1 : way = 1
        · subst h1; rfl
        · rw [if_neg h1]
          by_cases h2 : way = 2
          · subst h2; rfl
          · rw [if_neg h2, if_neg q3, if_neg h2, if_neg h1]
      rw [e]; exact S4
  rintro σ5 H5 ⟨HH5, s5, w5, S5⟩
  have hb := begT_ok (way := way) hwl hwo
  have s05 : Same (hide [p, l, LP] H) HH5 := ((s2.trans s3).trans s4).trans s5
  have S5n : Sl K HH5 [some (.raw (.ref p)), some (.raw (.ref LP)), some (.int way), some (.str wd), some (.int more), some (.raw (.ref a)), none, none, none, none, none] σ5 := S5.fit (by exact ⟨rfl, rfl, rfl, rfl, rfl, rfl, trivial⟩)
  have wl : (begT way wd).length ≤ 12 := hb.2.2
  -- the first names
  refine q_forHH (ds := (begT way wd).map D.str) (Inv := fun i σ' H' => BegI K CTrail HH5 p l LP a [some (.raw (.ref p)), some (.raw (.ref LP)), some (.int way), some (.str wd), some (.int more), some (.raw (.ref a)), none, none, none, none, none] i (numTo (begT way wd) i) σ' H') S5 (by rfl) w5.sub ⟨HH5, none, [], [], Same.refl _, w5, TrOk.nil, ⟨List.Pairwise.nil, fun p h => (by cases h), fun p h => (by cases h), Nat.zero_le _⟩, .nil, rfl, S5n⟩ (fun k σ' H' q => by
    obtain ⟨HH, g, past, P, s, w, _⟩ := q
    exact s.trans w.sub) (fun i d v σ' H' N hd q hv hN => ?_) (fun σ6 H6 q6 => ?_)
  · obtain ⟨HH, g, past, P, s, w, tok, ok, rel, hP, S6⟩ := q
    rw [List.getElem?_map] at hd
    obtain ⟨y, hy, rfl⟩ := Option.map_eq_some_iff.mp hd
    have hi : i < (begT way wd).length := (List.getElem?_eq_some_iff.mp hy).1
    have ey : (begT way wd).getD i [] = y := by rw [List.getD_eq_getElem?_getD, hy]; rfl
    have S7 := S6.set 8 hv
    have V : ∀ (j : Nat) (d : D) H2, Same HH H2 → ([some (.raw (.ref p)), some (.raw (.ref LP)), some (.int way), some (.str wd), some (.int more), some (.raw (.ref a)), none, none, none, none, none].set 8 (some (.str y)))[j]? = some (some d) → Ev K (tVar j) (σ'.set 8 (some v)) H2 d := fun j d H2 e h => ev_var (S7.mono (s.trans e)) h
    refine s_stepK (n := (i : Int)) (y := y) w tok ok (fun H2 e => V 1 _ H2 e rfl) (fun H2 e => V 0 _ H2 e rfl) (fun H2 e => V 5 _ H2 e rfl) (fun H2 e => V 5 _ H2 e rfl) (fun H2 e => V 8 _ H2 e rfl) (fun H2 e => V 8 _ H2 e rfl) (fun H2 e hat => Ev.to (ev_dlen (V 5 _ H2 e rfl) hat) (by rw [numTo_len])) (fun H2 e hat => Ev.to (ev_dlen (V 5 _ H2 e rfl) hat) (by rw [numTo_len])) (hb.2.1 y (List.mem_of_getElem? hy)) (by rw [← ey]; exact numTo_new hb.1 hi) (by rw [numTo_len]; omega) (by omega) (by have := rel.len; omega) fun t d H2 HH2 s2 w2 tok2 ok2 => hN _ _ ?_
    rw [← ey, ← numTo_succ] at w2 tok2 ok2
    refine ⟨HH2, t, _, _, s.trans s2, w2, tok2, ok2, ?_, by rw [List.length_append, hP]; rfl, S7.fit (by exact ⟨rfl, rfl, rfl, rfl, rfl, rfl, trivial⟩)⟩
    exact rel.snoc tok ok
  rw [List.length_map] at q6
  -- grafts
  refine q_jn (R := fun σ' H' => BegI K CTrail HH5 p l LP a [some (.raw (.ref p)), some (.raw (.ref LP)), some (.int way), some (.str wd), some (.int more), some (.raw (.ref a)), none, none, none, none, none] (if way = 1 then 15 else (begT way wd).length) (if way = 1 then gR 3 else numTo (begT way wd) (begT way wd).length) σ' H') (fun N hN => ?_) ?_
  · obtain ⟨HH, g, past, P, s, w, tok, ok, rel, hP, S6⟩ := q6
    refine s_if (b := decide (way = 1)) (et_test (ev_eqI (ev_var (S6.mono (s.trans w.sub)) (i := 2) (by rfl)) ev_int)) (fun q H7 e7 => ?_) (fun q H7 e7 => ?_)
    · obtain rfl : way = 1 := of_decide_eq_true q
      have hl12 : (begT 1 wd).length = 12 := by rw [begT_one]; decide +kernel
      have e12 : numTo (begT 1 wd) (begT 1 wd).length = gR 0 := by rw [hl12, begT_one]; rfl
      rw [hl12] at hP
      rw [e12] at w tok ok
      have w7 := w.mono e7
      refine s_forLN (ds := [.str [97], .str [98], .str [99]]) (Inv := fun la vs i σ' H' => ∃ HH g past P, Same HH5 HH ∧ HH la = some (.lst vs) ∧ Dts K HH [.str [97], .str [98], .str [99]] vs ∧ BV K CTrail H' HH p l LP a g past P (gR i) ∧ TrOk g (srtR (gR i)) ∧ DOk (gR i) ∧ RelT past P ∧ P.length = 12 + i ∧ Sl K HH5 [some (.raw (.ref p)), some (.raw (.ref LP)), some (.int 1), some (.str wd), some (.int more), some (.raw (.ref a)), none, none, none, none, none] σ') (en_lst (ea_cons (Ev.to ev_str rfl) (ea_cons (Ev.to ev_str rfl) (ea_cons (Ev.to ev_str rfl) ea_nil))) (by show 3 ≤ 100000; decide)) (fun la vs H8 hla e8 h8 hd8 => ?_) (fun la vs i σ' H' q => ?_) (fun la vs i v σ' H' N2 hv q hN2 => ?_) (fun la vs σ' H' q => ?_)
      · have w8 := w7.mono e8
        have m8 := w7.mut.ne hla
        exact ⟨hide [p, l, LP, a] H8, g, past, P, s.trans (into_hide w8.sub w8.n), by rw [hide_at m8]; exact h8, Dts.tupK w8.mut.tupK _ rfl hd8, w8.wide, tok, ok, rel, hP, S6⟩
      · obtain ⟨HH, g, past, P, s, hla, _, w, _⟩ := q
        exact SqL.of (w.sub _ _ hla)
      · obtain ⟨HH, g, past, P, s, hla, hds, w, tok, ok, rel, hP, S8⟩ := q
        obtain ⟨d, hd, hdv⟩ := hds.getv hv
        have hi : i < 3 := (List.getElem?_eq_some_iff.mp hd).1
        have ed : d = .str [97 + i] := by
          have h : i = 0 ∨ i = 1 ∨ i = 2 := by omega
          rcases h with rfl | rfl | rfl <;> exact (Option.some.inj hd).symm
        subst ed
        have hv5 : Dt K HH5 (.str [97 + i]) v := hdv
        have S9 := S8.set 9 hv5
        have V : ∀ (j : Nat) (d : D) H2, Same HH H2 → ([some (.raw (.ref p)), some (.raw (.ref LP)), some (.int 1), some (.str wd), some (.int more), some (.raw (.ref a)), none, none, none, none, none].set 9 (some (.str [97 + i])))[j]? = some (some d) → Ev K (tVar j) (σ'.set 9 (some v)) H2 d := fun j d H2 e h => ev_var (S9.mono (s.trans e)) h
        obtain ⟨g1, g2, g3, g4⟩ := gR_ok i hi
        have hc : okT [97 + i] := by
          have h : i = 0 ∨ i = 1 ∨ i = 2 := by omega
          rcases h with rfl | rfl | rfl <;> exact (nameB_iff.mp (by decide)).2
        refine q_pastD w (V 1 _ H' w.sub rfl) (fun H2 e => V 5 _ H2 e rfl) (by omega) fun d2 H2 HH2 s2 w2 => ?_
        obtain ⟨t, d3, ho, tok3, ok3⟩ := graft_new (C1 := CNoName) (C2 := CNotThere) (C3 := CTooLong) (C4 := CTaken) (C5 := CTooMany) ok tok hc g1 g2 g3 g4
        have V2 := fun j d H2 (e : Same HH2 H2) h => V j d H2 (s2.trans e) h
        refine q_graftO (V2 0 _ H2 w2.sub rfl) (Ev.to ev_str rfl) (V2 9 _ H2 w2.sub rfl) w2.tr (by have := rel.len; omega) tok (by decide) (nameB_iff.mpr ⟨by show 1 ≤ 40; decide, hc⟩) ho fun H3 k3 t3 => ?_
        have w3 := w2.deed k3 t3
        refine s_forLN (Inv := fun la2 vs2 j σ'' H'' => ∃ HH3, Same HH2 HH3 ∧ HH3 la2 = some (.lst vs2) ∧ Dts K HH3 (((gR i).map fun p => p.1).map D.str) vs2 ∧ BV K CTrail H'' HH3 p l LP a t (past ++ [g]) (P ++ [(d2, gR i)]) (gR i ++ ((gR i).take j).map fun p => ((97 + i) :: p.1, p.2)) ∧ Sl K HH5 ([some (.raw (.ref p)), some (.raw (.ref LP)), some (.int 1), some (.str wd), some (.int more), some (.raw (.ref a)), none, none, none, none, none].set 9 (some (.str [97 + i]))) σ'') (en_dlist (V2 5 _ H3 w3.sub rfl) (.inl w3.dic)) (fun la2 vs2 H4 hla2 e4 h4 hd4 => ?_) (fun la2 vs2 j σ'' H'' q => ?_) (fun la2 vs2 j v2 σ'' H'' N3 hv2 q hN3 => ?_) (fun la2 vs2 σ'' H'' q => ?_)
        · have w4 := w3.mono e4
          have m4 := w3.mut.ne hla2
          exact ⟨hide [p, l, LP, a] H4, into_hide w4.sub w4.n, by rw [hide_at m4]; exact h4, Dts.tupK w4.mut.tupK _ (D.imms_map fun _ _ => rfl) hd4, by rw [List.take_zero, List.map_nil, List.append_nil]; exact w4.wide, S9⟩
        · obtain ⟨HH3, _, h, _, w, _⟩ := q
          exact SqL.of (w.sub _ _ h)
        · obtain ⟨HH3, s3, hla3, hds3, w4, S10⟩ := q
          obtain ⟨d4, hd4, hdv4⟩ := hds3.getv hv2
          rw [List.map_map, List.getElem?_map] at hd4
          obtain ⟨r, hr4, rfl⟩ := Option.map_eq_some_iff.mp hd4
          have hj : j < (gR i).length := (List.getElem?_eq_some_iff.mp hr4).1
          have er : (gR i).getD j ([], 0) = r := by rw [List.getD_eq_getElem?_getD, hr4]; rfl
          have hg := gR_at hi hj
          rw [er] at hg
          have hv4 : Dt K HH5 (.str r.1) v2 := hdv4
          have S11 := S10.set 10 hv4
          have S11h := S11.mono (((s.trans s2).trans s3).trans w4.sub)
          have hrl : r.1.length ≤ 39 := g2 r (List.mem_of_getElem? hr4)
          refine s_dput (R := gR i ++ ((gR i).take j).map fun p => ((97 + i) :: p.1, p.2)) (x := (97 + i) :: r.1) (n := r.2) (ev_dget (ev_var S11h (i := 5) (by rfl)) (ev_var S11h (i := 10) (by rfl)) (.inl w4.dic) hg.2) (ev_var S11h (i := 5) (by rfl)) (ev_addS (a := [97 + i]) (b := r.1) (ev_var S11h (i := 9) (by rfl)) (ev_var S11h (i := 10) (by rfl)) (by show 1 + r.1.length ≤ 100000; omega)) w4.dic (by rw [List.length_append, List.length_map, List.length_take]; omega) fun H5 k5 h5 => hN3 _ _ ?_
          have e5 : putD (gR i ++ ((gR i).take j).map fun p => ((97 + i) :: p.1, p.2)) ((97 + i) :: r.1) r.2 = gR i ++ ((gR i).take (j + 1)).map fun p => ((97 + i) :: p.1, p.2) := by
            unfold putD
            rw [hg.1, List.take_succ, hr4]
            show gR i ++ List.map _ (List.take j (gR i)) ++ _ = gR i ++ List.map _ (List.take j (gR i) ++ [r])
            rw [List.map_append, ← List.append_assoc]; rfl
          rw [e5] at h5
          exact ⟨HH3, s3, hla3, hds3, w4.put k5 h5, S11.fit (by exact ⟨rfl, rfl, rfl, rfl, rfl, rfl, rfl, trivial⟩)⟩
        · obtain ⟨HH3, s3, hla3, hds3, w4, S10⟩ := q
          have el : vs2.length = (gR i).length := by rw [hds3.len, List.length_map, List.length_map]
          rw [el, List.take_length] at w4
          exact hN2 _ _ ⟨HH3, t, _, _, (s.trans s2).trans s3, (s2.trans s3) _ _ hla, Dts.mono (s2.trans s3) _ hds, w4, tok3, ok3, rel.snoc tok ok, by rw [List.length_append, hP]; rfl, S10.fit (by exact ⟨rfl, rfl, rfl, rfl, rfl, rfl, trivial⟩)⟩
      · obtain ⟨HH, g, past, P, s, hla, hds, w, tok, ok, rel, hP, S8⟩ := q
        have el : vs.length = 3 := by rw [hds.len]; rfl
        rw [el] at w tok ok hP
        exact hN _ _ ⟨HH, g, past, P, s, w, tok, ok, rel, hP, S8⟩
    · have q' := of_decide_eq_false q
      refine hN _ _ ?_
      rw [if_neg q', if_neg q']
      exact ⟨HH, g, past, P, s, w.mono e7, tok, ok, rel, hP, S6⟩
  rintro σ7 H7 q7
  -- more names
  obtain ⟨HH7, g7, past7, P7, s7, w7, tok7, ok7, rel7, hP7, S7⟩ := q7
  have S7h := S7.mono (s7.trans w7.sub)
  have hmm : atI [D.int 0, D.int more] (if decide (way = 1) = true then 1 else 0) = some (.int (if way = 1 then more else 0)) := by
    by_cases q : way = 1
    · rw [if_pos q, if_pos (decide_eq_true q)]; rfl
    · rw [if_neg q, if_neg (fun z => q (of_decide_eq_true z))]; rfl
  refine q_forRG (m := (if way = 1 then more else 0).toNat) (Inv := fun i σ' H' => BegI K CTrail HH5 p l LP a [some (.raw (.ref p)), some (.raw (.ref LP)), some (.int way), some (.str wd), some (.int more), some (.raw (.ref a)), none, none, none, none, none] ((if way = 1 then 15 else (begT way wd).length) + i) ((if way = 1 then gR 3 else numTo (begT way wd) (begT way wd).length) ++ zR i) σ' H') (ea_cons (ev_ixL (ev_lst (ds := [.int 0, .int more]) (ea_cons ev_int (ea_cons (ev_var S7h (i := 4) (by rfl)) ea_nil)) (by show 2 ≤ 100000; decide)) (ev_int1 (ev_eqI (ev_var S7h (i := 2) (by rfl)) ev_int)) hmm) ea_nil) rfl (by split <;> constructor <;> omega) (fun H8 e8 => ?_) (fun i σ' H' N hi q hN => ?_) (fun σ8 H8 q8 => ?_)
  · rw [show zR 0 = [] from rfl, List.append_nil]
    exact ⟨HH7, g7, past7, P7, s7, w7.mono e8, tok7, ok7, rel7, hP7, S7⟩
  · by_cases q1 : way = 1
    · rw [if_pos q1] at hi
      have hi3 : i < 3 := by omega
      obtain ⟨HH, g, past, P, s, w, tok, ok, rel, hP, S8⟩ := q
      rw [if_pos q1] at w tok ok hP
      obtain ⟨z1, z2, z3⟩ := zR_ok i hi3
      have S9 := S8.set 7 (d := .int (i : Int)) (v := .int (i : Int)) rfl
      have V : ∀ (j : Nat) (d : D) H2, Same HH H2 → ([some (.raw (.ref p)), some (.raw (.ref LP)), some (.int way), some (.str wd), some (.int more), some (.raw (.ref a)), none, none, none, none, none].set 7 (some (.int (i : Int))))[j]? = some (some d) → Ev K (tVar j) (σ'.set 7 (some (.int (i : Int)))) H2 d := fun j d H2 e h => ev_var (S9.mono (s.trans e)) h
      have il : (intL (i : Int)).length ≤ 10 := by
        have h : i = 0 ∨ i = 1 ∨ i = 2 := by omega
        rcases h with rfl | rfl | rfl <;> decide +kernel
      refine s_stepK (n := (i : Int)) (y := 122 :: intL (i : Int)) w tok ok (fun H2 e => V 1 _ H2 e rfl) (fun H2 e => V 0 _ H2 e rfl) (fun H2 e => V 5 _ H2 e rfl) (fun H2 e => V 5 _ H2 e rfl) (fun H2 e => ev_addS (a := [122]) (b := intL (i : Int)) (Ev.to ev_str rfl) (ev_strI (V 7 _ H2 e rfl) (by constructor <;> omega)) (by show 1 + (intL (i : Int)).length ≤ 100000; omega)) (fun H2 e => ev_addS (a := [122]) (b := intL (i : Int)) (Ev.to ev_str rfl) (ev_strI (V 7 _ H2 e rfl) (by constructor <;> omega)) (by show 1 + (intL (i : Int)).length ≤ 100000; omega)) (fun H2 e _ => V 7 _ H2 e rfl) (fun H2 e _ => V 7 _ H2 e rfl) z2 z1 z3 (by omega) (by have := rel.len; omega) fun t d H2 HH2 s2 w2 tok2 ok2 => hN _ _ ?_
      rw [List.append_assoc, ← zR_succ] at w2 tok2 ok2
      refine ⟨HH2, t, past ++ [g], P ++ [(d, gR 3 ++ zR i)], s.trans s2, ?_, ?_, ?_, rel.snoc tok ok, ?_, S9.fit (by exact ⟨rfl, rfl, rfl, rfl, rfl, rfl, trivial⟩)⟩
      · rw [if_pos q1]; exact w2
      · rw [if_pos q1]; exact tok2
      · rw [if_pos q1]; exact ok2
      · rw [if_pos q1, List.length_append, hP]; rfl
    · rw [if_neg q1] at hi
      exact absurd hi (by omega)
  obtain ⟨HH, g, past, P, s, w, tok, ok, rel, hP, S8⟩ := q8
  have hPl : P.length ≤ 18 := by
    rw [hP]
    by_cases q : way = 1
    · rw [if_pos q, if_pos q]; omega
    · rw [if_neg q, if_neg q]; omega
  refine s_ret (ev_var (S8.mono (s.trans w.sub)) (i := 5) (by rfl)) fun v H9 e9 hv => ?_
  rw [show v = .ref a from hv]
  exact k H9 HH a g past P _ (s05.trans s) (w.mono e9) tok ok rel hPl
end
end Rt

namespace Rt
open PySem PySem.Spec PyProof.Rows L2
section
variable {P : Program} {w : World} {K : PySem.W.Frag} {mg : Str → Option Value} {base : Heap}
theorem cal_tried {CTrail CNoName CNotThere CTooLong CTaken CTooMany CNothingDone CNoNote CTrailError : Addr} (F : Dfn K mg "_law_tried" s__law_tried ["_law_trail", "_law_way", "_law_one", "_law_other", "_law_number"]) (BU : Bl mg) (x_Trail : TrC K mg CTrail) (m_TrailError : mg "TrailError" = some (.ref CTrailError))
    (x_NoName : Xc K mg "NoName" CNoName CTrailError) (x_NotThere : Xc K mg "NotThere" CNotThere CTrailError) (x_TooLong : Xc K mg "TooLong" CTooLong CTrailError) (x_Taken : Xc K mg "Taken" CTaken CTrailError) (x_TooMany : Xc K mg "TooMany" CTooMany CTrailError) (x_NothingDone : Xc K mg "NothingDone" CNothingDone CTrailError) (x_NoNote : Xc K mg "NoNote" CNoNote CTrailError)
    (u_NoName : PySem.W.exmOne K (.ref CNoName) (.ref CTrailError) = some true) (u_NotThere : PySem.W.exmOne K (.ref CNotThere) (.ref CTrailError) = some true) (u_TooLong : PySem.W.exmOne K (.ref CTooLong) (.ref CTrailError) = some true) (u_Taken : PySem.W.exmOne K (.ref CTaken) (.ref CTrailError) = some true) (u_TooMany : PySem.W.exmOne K (.ref CTooMany) (.ref CTrailError) = some true) (u_NothingDone : PySem.W.exmOne K (.ref CNothingDone) (.ref CTrailError) = some true)
    (n_NoName_NotThere : PySem.W.kitOne K (.ref CNoName) (.ref CNotThere) = some false) (n_NoName_TooLong : PySem.W.kitOne K (.ref CNoName) (.ref CTooLong) = some false) (n_NoName_Taken : PySem.W.kitOne K (.ref CNoName) (.ref CTaken) = some false) (n_NoName_TooMany : PySem.W.kitOne K (.ref CNoName) (.ref CTooMany) = some false) (n_NoName_NothingDone : PySem.W.kitOne K (.ref CNoName) (.ref CNothingDone) = some false) (n_NoName_NoNote : PySem.W.kitOne K (.ref CNoName) (.ref CNoNote) = some false) (n_NotThere_NoName : PySem.W.kitOne K (.ref CNotThere) (.ref CNoName) = some false) (n_NotThere_TooLong : PySem.W.kitOne K (.ref CNotThere) (.ref CTooLong) = some false) (n_NotThere_Taken : PySem.W.kitOne K (.ref CNotThere) (.ref CTaken) = some false) (n_NotThere_TooMany : PySem.W.kitOne K (.ref CNotThere) (.ref CTooMany) = some false) (n_NotThere_NothingDone : PySem.W.kitOne K (.ref CNotThere) (.ref CNothingDone) = some false) (n_NotThere_NoNote : PySem.W.kitOne K (.ref CNotThere) (.ref CNoNote) = some false) (n_TooLong_NoName : PySem.W.kitOne K (.ref CTooLong) (.ref CNoName) = some false) (n_TooLong_NotThere : PySem.W.kitOne K (.ref CTooLong) (.ref CNotThere) = some false) (n_TooLong_Taken : PySem.W.kitOne K (.ref CTooLong) (.ref CTaken) = some false) (n_TooLong_TooMany : PySem.W.kitOne K (.ref CTooLong) (.ref CTooMany) = some false) (n_TooLong_NothingDone : PySem.W.kitOne K (.ref CTooLong) (.ref CNothingDone) = some false) (n_TooLong_NoNote : PySem.W.kitOne K (.ref CTooLong) (.ref CNoNote) = some false) (n_Taken_NoName : PySem.W.kitOne K (.ref CTaken) (.ref CNoName) = some false) (n_Taken_NotThere : PySem.W.kitOne K (.ref CTaken) (.ref CNotThere) = some false) (n_Taken_TooLong : PySem.W.kitOne K (.ref CTaken) (.ref CTooLong) = some false) (n_Taken_TooMany : PySem.W.kitOne K (.ref CTaken) (.ref CTooMany) = some false) (n_Taken_NothingDone : PySem.W.kitOne K (.ref CTaken) (.ref CNothingDone) = some false) (n_Taken_NoNote : PySem.W.kitOne K (.ref CTaken) (.ref CNoNote) = some false) (n_TooMany_NoName : PySem.W.kitOne K (.ref CTooMany) (.ref CNoName) = some false) (n_TooMany_NotThere : PySem.W.kitOne K (.ref CTooMany) (.ref CNotThere) = some false) (n_TooMany_TooLong : PySem.W.kitOne K (.ref CTooMany) (.ref CTooLong) = some false) (n_TooMany_Taken : PySem.W.kitOne K (.ref CTooMany) (.ref CTaken) = some false) (n_TooMany_NothingDone : PySem.W.kitOne K (.ref CTooMany) (.ref CNothingDone) = some false) (n_TooMany_NoNote : PySem.W.kitOne K (.ref CTooMany) (.ref CNoNote) = some false) (n_NothingDone_NoName : PySem.W.kitOne K (.ref CNothingDone) (.ref CNoName) = some false) (n_NothingDone_NotThere : PySem.W.kitOne K (.ref CNothingDone) (.ref CNotThere) = some false) (n_NothingDone_TooLong : PySem.W.kitOne K (.ref CNothingDone) (.ref CTooLong) = some false) (n_NothingDone_Taken : PySem.W.kitOne K (.ref CNothingDone) (.ref CTaken) = some false) (n_NothingDone_TooMany : PySem.W.kitOne K (.ref CNothingDone) (.ref CTooMany) = some false) (n_NothingDone_NoNote : PySem.W.kitOne K (.ref CNothingDone) (.ref CNoNote) = some false)
    (c__law_word_of : CalE P w K mg base 1 "_law_word_of" (SpWordB K CNoName CNotThere CTooLong CTaken CTooMany CNothingDone CNoNote))
    (c_Trail_told : MetX P w K mg base (L2.CX P w) 45 CTrail "told" (SpTold K CTrail CNoName)) (c_Trail_keep : MetX P w K mg base (L2.CX P w) 47 CTrail "keep" (SpKeep K CTrail CNoName CTooMany)) (c_Trail_drop : MetX P w K mg base (L2.CX P w) 45 CTrail "drop" (SpDrop K CTrail CNoName CNotThere))
    (c_Trail_prune : MetX P w K mg base (L2.CX P w) 45 CTrail "prune" (SpPrune K CTrail CNoName CNotThere)) (c_Trail_move : MetX P w K mg base (L2.CX P w) 46 CTrail "move" (SpMove K CTrail CNoName CNotThere CTooLong CTaken))
    (c_Trail_graft : MetX P w K mg base (L2.CX P w) 47 CTrail "graft" (SpGraft K CTrail CNoName CNotThere CTooLong CTaken CTooMany)) (c_Trail_back : MetX P w K mg base (L2.CX P w) 1 CTrail "back" (SpBack K CTrail CNothingDone)) : Cal P w K mg base CX0 48 "_law_tried" (SpTried K CTrail CNoName CNotThere CTooLong CTaken CTooMany CNothingDone) := by
  refine cal_sp F sc__law_tried (fun vs H Q E h => by obtain ⟨p, l, g, past, rows, way, d1, d2, b1, b2, n, v1, v2, rfl, _⟩ := h; rfl) fun cdv A outer s f H vs Q E hr h => ?_
  obtain ⟨p, l, g, past, rows, way, d1, d2, b1, b2, n, v1, v2, rfl, hv1, hv2, th1, th2, ht, hz, ok, hcase⟩ := h
  have S0 : Sl K H [some (.raw (.ref p)), some (.int way), some d1, some d2, some (.int n), none] (start ["_law_trail", "_law_way", "_law_one", "_law_other", "_law_number", "_law_e"] [.ref p, .int way, v1, v2, .int n]) := ⟨_, _, rfl, rfl, _, _, rfl, rfl, _, _, rfl, hv1, _, _, rfl, hv2, _, _, rfl, rfl, none, _, rfl, rfl⟩
  refine ⟨_, (pss_one (ps_try_as (i := 5) rfl rfl sc__law_tried.nd rfl rfl ⟨rfl, by decide, .inl m_TrailError⟩ takes0 (fun W pn xe tk po => (pss_cons (ps_if (pt_cmpR op_eq (pv 1) pe_int (nomark _)) (pss_one (ps_ret (pe_tup (pa_cons pe_str (pa_cons (pe_mtS c_Trail_keep x_Trail.cl hr (by omega) (fun σ => passAt tk σ) (pv 0) (pa_cons (pv 2) (pa_cons (pv 4) pa_nil))) pa_nil))))) pss_nil) (pss_cons (ps_if (pt_cmpR op_eq (pv 1) pe_int (nomark _)) (pss_one (ps_ret (pe_tup (pa_cons pe_str (pa_cons (pe_mtS c_Trail_drop x_Trail.cl hr (by omega) (fun σ => passAt tk σ) (pv 0) (pa_cons (pv 2) pa_nil)) pa_nil))))) pss_nil) (pss_cons (ps_if (pt_cmpR op_eq (pv 1) pe_int (nomark _)) (pss_one (ps_ret (pe_tup (pa_cons pe_str (pa_cons (pe_mtS c_Trail_prune x_Trail.cl hr (by omega) (fun σ => passAt tk σ) (pv 0) (pa_cons (pv 2) pa_nil)) pa_nil))))) pss_nil) (pss_cons (ps_if (pt_cmpR op_eq (pv 1) pe_int (nomark _)) (pss_one (ps_ret (pe_tup (pa_cons pe_str (pa_cons (pe_mtS c_Trail_move x_Trail.cl hr (by omega) (fun σ => passAt tk σ) (pv 0) (pa_cons (pv 2) (pa_cons (pv 3) pa_nil))) pa_nil))))) pss_nil) (pss_cons (ps_if (pt_cmpR op_eq (pv 1) pe_int (nomark _)) (pss_one (ps_ret (pe_tup (pa_cons pe_str (pa_cons (pe_mtS c_Trail_graft x_Trail.cl hr (by omega) (fun σ => passAt tk σ) (pv 0) (pa_cons (pv 2) (pa_cons (pv 3) pa_nil))) pa_nil))))) pss_nil) (pss_cons (ps_if (pt_cmpR op_eq (pv 1) pe_int (nomark _)) (pss_one (ps_ret (pe_tup (pa_cons pe_str (pa_cons (pe_mtS c_Trail_told x_Trail.cl hr (by omega) (fun σ => passAt tk σ) (pv 0) (pa_cons (pv 2) pa_nil)) pa_nil))))) pss_nil) (pss_one (ps_ret (pe_tup (pa_cons pe_str (pa_cons (pe_mt0S c_Trail_back x_Trail.cl hr (by omega) (fun σ => passAt tk σ) (pv 0)) pa_nil)))))))))))) (fun a oe cls d pn hz hf => (pss_when (p := d = none) (fun hw => (pss_one (ps_ret (pe_callE c__law_word_of hr (by omega) hw hz hf (by rfl) (pa_cons (pv 5) pa_nil))))))))), ?_⟩
  try dsimp only [cxOf]
  generalize start _ [V.ref p, V.int way, v1, v2, V.int n] = σ at *
  have hW : ∀ c w, WordOf CNoName CNotThere CTooLong CTaken CTooMany CNothingDone c w → ∀ (a : Addr) (H : Hp) (Q : VK), (∀ v H', Same H H' → Dt K H' (.tup [.str w, .bl true]) v → Q v H') → SpWordB K CNoName CNotThere CTooLong CTaken CTooMany CNothingDone CNoNote (.ref c) a H Q := by
    rintro c w (⟨rfl, rfl⟩ | ⟨rfl, rfl⟩ | ⟨rfl, rfl⟩ | ⟨rfl, rfl⟩ | ⟨rfl, rfl⟩ | ⟨rfl, rfl⟩) a H Q k
    · exact ⟨c, true, false, false, false, false, false, false, rfl, x_NoName.exc, kit_self, n_NoName_NotThere, n_NoName_TooLong, n_NoName_Taken, n_NoName_TooMany, n_NoName_NothingDone, n_NoName_NoNote, x_NoName.kV, k⟩
    · exact ⟨c, false, true, false, false, false, false, false, rfl, x_NotThere.exc, n_NotThere_NoName, kit_self, n_NotThere_TooLong, n_NotThere_Taken, n_NotThere_TooMany, n_NotThere_NothingDone, n_NotThere_NoNote, x_NotThere.kV, k⟩
    · exact ⟨c, false, false, true, false, false, false, false, rfl, x_TooLong.exc, n_TooLong_NoName, n_TooLong_NotThere, kit_self, n_TooLong_Taken, n_TooLong_TooMany, n_TooLong_NothingDone, n_TooLong_NoNote, x_TooLong.kV, k⟩
    · exact ⟨c, false, false, false, true, false, false, false, rfl, x_Taken.exc, n_Taken_NoName, n_Taken_NotThere, n_Taken_TooLong, kit_self, n_Taken_TooMany, n_Taken_NothingDone, n_Taken_NoNote, x_Taken.kV, k⟩
    · exact ⟨c, false, false, false, false, true, false, false, rfl, x_TooMany.exc, n_TooMany_NoName, n_TooMany_NotThere, n_TooMany_TooLong, n_TooMany_Taken, kit_self, n_TooMany_NothingDone, n_TooMany_NoNote, x_TooMany.kV, k⟩
    · exact ⟨c, false, false, false, false, false, true, false, rfl, x_NothingDone.exc, n_NothingDone_NoName, n_NothingDone_NotThere, n_NothingDone_TooLong, n_NothingDone_Taken, n_NothingDone_TooMany, kit_self, n_NothingDone_NoNote, x_NothingDone.kV, k⟩
  have hU : ∀ c w, WordOf CNoName CNotThere CTooLong CTaken CTooMany CNothingDone c w → PySem.W.exmOne K (.ref c) (.ref CTrailError) = some true := by
    rintro c w (⟨rfl, rfl⟩ | ⟨rfl, rfl⟩ | ⟨rfl, rfl⟩ | ⟨rfl, rfl⟩ | ⟨rfl, rfl⟩ | ⟨rfl, rfl⟩) <;> assumption
  have hS : ∀ {c : Addr} {w : Tx} {H' : Hp} {y : Addr}, WordOf CNoName CNotThere CTooLong CTaken CTooMany CNothingDone c w → Same H H' → (∀ v H2, Same H H2 → Dt K H2 (.tup [.str w, .bl true]) v → Q v H2) → tCallE (.ref c) y (SpWordB K CNoName CNotThere CTooLong CTaken CTooMany CNothingDone CNoNote) (tCons (tVar 5) tNil) (σ.set 5 (some (.ref y))) H' Q := fun {c w H' y} hw s k =>
    (show EvA K _ _ H' [.raw (.ref y)] from ea_cons (ev_var ((S0.mono s).set 5 (d := .raw (.ref y)) (v := .ref y) rfl) (i := 5) (by rfl)) ea_nil) H' (Same.refl H') _ fun vs H2 e2 ⟨u, r, h1, g1, g2⟩ => ⟨by rw [h1, show u = .ref y from g1, show r = [] from g2], hW c w hw y H2 Q fun v H3 e3 hv => k v H3 (s.trans (e2.trans e3)) hv⟩
  have hT : ∀ {H1 H2 : Hp} {t : OT} {e : D} {v : V}, Same H H1 → Keep2 p l H1 H2 → TrAt K CTrail H2 p l t (past ++ [g]) → Dt K H2 e v → (TOut.did t (past ++ [g]) e).Q K CTrail p l (WordOf CNoName CNotThere CTooLong CTaken CTooMany CNothingDone) H Q → ∀ q, H2 q = none → Q (.ref q) (upd H2 q (.tup [.str (S (tx "told")), v])) := fun {H1 H2 t e v} e1 k2 t2 hv ko q hq => by
    have s3 : Same H2 (upd H2 q (.tup [.str (S (tx "told")), v])) := Same.new hq
    exact ko _ _ (keep2_same' (same_k2 e1 k2) s3) (t2.mono s3) ⟨q, _, rfl, upd_same, _, _, rfl, rfl, v, [], rfl, Dt.mono s3 _ hv, rfl⟩
  have e0z : Same H H := Same.refl H
  refine q_if0 (b := decide (way = 0)) (et_test (ev_eqI (ev_var S0 (i := 1) (by rfl)) ev_int)) (fun q H1 e1 => ?_) (fun q H1 e1 => ?_)
  · have hk := of_decide_eq_true q
    have e0 := e0z.trans e1
    have Sz := S0.mono e0
    rcases hcase with ⟨_, _, o, ho, ko⟩ | ⟨h6, _⟩
    · obtain ⟨u, hu, rfl⟩ := ho.1 hk
      refine s_told (t_keep (ev_var Sz (i := 0) (by rfl)) (ev_var Sz (i := 2) (by rfl)) (ev_var Sz (i := 4) (by rfl)) th1 (Dt.mono e0 _ hv1) (ht.mono e0) hz ok hu (fun c hc H' s => ?_) fun t e he v H' k2 t2 hv => ?_)
      · subst hc
        obtain ⟨w, hw, kk⟩ := ko
        exact ⟨true, hU c w hw, fun _ y hy => ⟨rfl, hS hw (e0.trans s) kk⟩, fun z => nomatch z⟩
      · subst he
        exact hT e0 k2 t2 hv ko
    · omega
  have N0 := of_decide_eq_false q
  have e1z := e0z.trans e1
  have S1 := S0.mono e1z
  refine q_if0 (b := decide (way = 1)) (et_test (ev_eqI (ev_var S1 (i := 1) (by rfl)) ev_int)) (fun q H2 e2 => ?_) (fun q H2 e2 => ?_)
  · have hk := of_decide_eq_true q
    have e0 := e1z.trans e2
    have Sz := S0.mono e0
    rcases hcase with ⟨_, _, o, ho, ko⟩ | ⟨h6, _⟩
    · obtain ⟨u, hu, rfl⟩ := ho.2.1 hk
      refine s_told (t_drop (ev_var Sz (i := 0) (by rfl)) (ev_var Sz (i := 2) (by rfl)) th1 (Dt.mono e0 _ hv1) (ht.mono e0) hz ok hu (fun c hc H' s => ?_) fun t e he v H' k2 t2 hv => ?_)
      · subst hc
        obtain ⟨w, hw, kk⟩ := ko
        exact ⟨true, hU c w hw, fun _ y hy => ⟨rfl, hS hw (e0.trans s) kk⟩, fun z => nomatch z⟩
      · subst he
        exact hT e0 k2 t2 hv ko
    · omega
  have N1 := of_decide_eq_false q
  have e2z := e1z.trans e2
  have S2 := S0.mono e2z
  refine q_if0 (b := decide (way = 2)) (et_test (ev_eqI (ev_var S2 (i := 1) (by rfl)) ev_int)) (fun q H3 e3 => ?_) (fun q H3 e3 => ?_)
  · have hk := of_decide_eq_true q
    have e0 := e2z.trans e3
    have Sz := S0.mono e0
    rcases hcase with ⟨_, _, o, ho, ko⟩ | ⟨h6, _⟩
    · obtain ⟨u, hu, rfl⟩ := ho.2.2.1 hk
      refine s_told (t_prune (ev_var Sz (i := 0) (by rfl)) (ev_var Sz (i := 2) (by rfl)) th1 (Dt.mono e0 _ hv1) (ht.mono e0) hz ok hu (fun c hc H' s => ?_) fun t e he v H' k2 t2 hv => ?_)
      · subst hc
        obtain ⟨w, hw, kk⟩ := ko
        exact ⟨true, hU c w hw, fun _ y hy => ⟨rfl, hS hw (e0.trans s) kk⟩, fun z => nomatch z⟩
      · subst he
        exact hT e0 k2 t2 hv ko
    · omega
  have N2 := of_decide_eq_false q
  have e3z := e2z.trans e3
  have S3 := S0.mono e3z
  refine q_if0 (b := decide (way = 3)) (et_test (ev_eqI (ev_var S3 (i := 1) (by rfl)) ev_int)) (fun q H4 e4 => ?_) (fun q H4 e4 => ?_)
  · have hk := of_decide_eq_true q
    have e0 := e3z.trans e4
    have Sz := S0.mono e0
    rcases hcase with ⟨_, _, o, ho, ko⟩ | ⟨h6, _⟩
    · obtain ⟨u, hu, rfl⟩ := ho.2.2.2.1 hk
      refine s_told (t_move (ev_var Sz (i := 0) (by rfl)) (ev_var Sz (i := 2) (by rfl)) (ev_var Sz (i := 3) (by rfl)) th1 th2 (Dt.mono e0 _ hv1) (Dt.mono e0 _ hv2) (ht.mono e0) hz ok hu (fun c hc H' s => ?_) fun t e he v H' k2 t2 hv => ?_)
      · subst hc
        obtain ⟨w, hw, kk⟩ := ko
        exact ⟨true, hU c w hw, fun _ y hy => ⟨rfl, hS hw (e0.trans s) kk⟩, fun z => nomatch z⟩
      · subst he
        exact hT e0 k2 t2 hv ko
    · omega
  have N3 := of_decide_eq_false q
  have e4z := e3z.trans e4
  have S4 := S0.mono e4z
  refine q_if0 (b := decide (way = 4)) (et_test (ev_eqI (ev_var S4 (i := 1) (by rfl)) ev_int)) (fun q H5 e5 => ?_) (fun q H5 e5 => ?_)
  · have hk := of_decide_eq_true q
    have e0 := e4z.trans e5
    have Sz := S0.mono e0
    rcases hcase with ⟨_, _, o, ho, ko⟩ | ⟨h6, _⟩
    · obtain ⟨u, hu, rfl⟩ := ho.2.2.2.2.1 hk
      refine s_told (t_graft (ev_var Sz (i := 0) (by rfl)) (ev_var Sz (i := 2) (by rfl)) (ev_var Sz (i := 3) (by rfl)) th1 th2 (Dt.mono e0 _ hv1) (Dt.mono e0 _ hv2) (ht.mono e0) hz ok hu (fun c hc H' s => ?_) fun t e he v H' k2 t2 hv => ?_)
      · subst hc
        obtain ⟨w, hw, kk⟩ := ko
        exact ⟨true, hU c w hw, fun _ y hy => ⟨rfl, hS hw (e0.trans s) kk⟩, fun z => nomatch z⟩
      · subst he
        exact hT e0 k2 t2 hv ko
    · omega
  have N4 := of_decide_eq_false q
  have e5z := e4z.trans e5
  have S5 := S0.mono e5z
  refine q_if0 (b := decide (way = 6)) (et_test (ev_eqI (ev_var S5 (i := 1) (by rfl)) ev_int)) (fun q H6 e6 => ?_) (fun q H6 e6 => ?_)
  · have hk := of_decide_eq_true q
    have e0 := e5z.trans e6
    have Sz := S0.mono e0
    rcases hcase with ⟨_, h5, _⟩ | ⟨_, kF, kT⟩
    · omega
    refine s_told ((ev_var Sz (i := 0) (by rfl)) H6 (Same.refl H6) _ fun x H7 e7 hx => ?_)
    have t7 := (ht.mono e0).mono e7
    obtain ⟨dx, vg, vs, h1, h2, h3, h4⟩ := t7.ex
    refine ⟨p, dx, _, hx, h1, tf_noM (by decide +kernel) (by decide +kernel) _ _, (ev_var Sz (i := 2) (by rfl)) H7 e7 _ fun y H8 e8 hy => ?_⟩
    have e78 := e7.trans e8
    refine ⟨p, g, past, y, b1, rows, by rw [show x = .ref p from hx], (t7.mono e8).tr, ok.rep, ok.tb, th1.th hy, fun hb => ?_, fun hb H' s => ?_⟩
    · obtain ⟨l1, rfl, hl1⟩ : ∃ l1, d1 = .str l1 ∧ l1.length ≤ 1000 := by
        rcases th1 with ⟨l1, h1, h2, _⟩ | ⟨_, h2⟩
        · exact ⟨l1, h1, h2⟩
        · rw [hb] at h2; cases h2
      refine ⟨l1, hy, hl1, fun q ws H' hq s hq2 hd t ht0 => ?_⟩
      have s3 : Same H' (upd H' t (.tup [.str (S (tx "told")), .ref q])) := Same.new ht0
      have eH := (e0.trans e78).trans s
      exact kT hb l1 rfl t q ws _ (Same.free (e0.trans e78) hq) (Same.free eH ht0) (eH.trans s3) (s3 _ _ hq2) (Dts.mono s3 _ hd) upd_same
    · exact ⟨true, hU CNoName _ (.inl ⟨rfl, rfl⟩), fun _ y hy => ⟨rfl, hS (.inl ⟨rfl, rfl⟩) ((e0.trans e78).trans s) (kF hb)⟩, fun z => nomatch z⟩
  have q0 := of_decide_eq_false q
  have e0 := e5z.trans e6
  have Sz := S0.mono e0
  rcases hcase with ⟨g0, g5, o, ho, ko⟩ | ⟨h6, _⟩
  · have h5 : way = 5 := by
      omega
    obtain ⟨he, hp⟩ := ho.2.2.2.2.2 h5
    refine s_told ((ev_var Sz (i := 0) (by rfl)) H6 (Same.refl H6) _ fun x H7 e7 hx => ?_)
    have t7 := (ht.mono e0).mono e7
    obtain ⟨dx, vg, vs, h1, h2, h3, h4⟩ := t7.ex
    refine ⟨p, dx, _, hx, h1, tf_noM (by decide +kernel) (by decide +kernel) _ _, p, l, g, past, by rw [show x = .ref p from hx], t7, hz, fun hp0 H' s => ?_, fun r t hp1 H' k2 t2 q hq => ?_⟩
    · rw [he hp0] at ko
      obtain ⟨w, hw, kk⟩ := ko
      exact ⟨true, hU _ w hw, fun _ y hy => ⟨rfl, hS hw ((e0.trans e7).trans s) kk⟩, fun z => nomatch z⟩
    · rw [hp r t hp1] at ko
      have s3 : Same H' (upd H' q (.tup [.str (S (tx "told")), .non])) := Same.new hq
      exact ko _ _ (keep2_same' (same_k2 (e0.trans e7) k2) s3) (t2.mono s3) ⟨q, _, rfl, upd_same, _, _, rfl, rfl, _, [], rfl, rfl, rfl⟩
  · exact absurd h6 q0
end
end Rt

namespace Rt
open PySem PySem.Spec PyProof.Rows L2
section
variable {P : Program} {w : World} {K : PySem.W.Frag} {mg : Str → Option Value} {base : Heap}
section
variable {σ : L2.St} {H HH H' : Hp} {ta tb te to : TE} {E : Ends} {tu tv : TS} {C p l LK : Addr} {g : OT} {past : List OT} {rows : Rows} {d : D} {b : Bool} {es ds : List D} {vs : List V} {v : V} {sl : List (Option D)}
theorem en_lcopy (ha : Ev K ta σ H (.lst ds)) : EvN K (tCB (fun xs H Q => ∃ p ys, xs = [.ref p] ∧ (SqL K H p ys ∨ SqT K H p ys) ∧ ∀ l, H l = none → Q (.ref l) (upd H l (.lst ys))) (tCons ta tNil)) σ H ds :=
  en_cb (ea_cons ha ea_nil) fun vs H1 s1 ⟨v, r, h1, ⟨a, us, hv, ha1, hd⟩, h3⟩ Q q => ⟨a, us, by rw [h1, hv, show r = [] from h3], .inl (SqL.of ha1), fun l hl => q l us _ hl (Same.new hl) upd_same (Dts.mono (Same.new hl) _ hd)⟩
/-- what is evaluated is that reference, which is that datum -/
theorem ev_re (h : Ev K te σ H (.raw v)) (hd : Dt K H d v) : Ev K te σ H d := fun H1 e Q q => h H1 e _ fun w H2 e2 hw => q _ _ e2 (by rw [show w = v from hw]; exact Dt.mono (e.trans e2) d hd)
theorem ev_reT {x : Tx} (h : Ev K te σ H (.tup [.str x, .raw v])) (hd : Dt K H d v) : Ev K te σ H (.tup [.str x, d]) := fun H1 e Q q => h H1 e _ fun w H2 e2 ⟨a, vs, h1, h2, u1, r1, h3, h4, u2, r2, h5, h6, h7⟩ => q _ _ e2 ⟨a, vs, h1, h2, u1, r1, h3, h4, u2, r2, h5, by rw [show u2 = v from h6]; exact Dt.mono (e.trans e2) d hd, h7⟩
theorem s_asgTN {x : Str} {i : Nat} (h : EvN K te σ H es) (k : ∀ t q ws H', H q = none → H t = none → Same H H' → H' q = some (.lst ws) → Dts K H' es ws → H' t = some (.tup [.str x, .ref q]) → E.nx (σ.set i (some (.ref t))) H') : tAsg (tTup (tCons (tC (.str x)) (tCons te tNil))) (gName i) E σ H :=
  h H (Same.refl H) _ fun q ws H1 hq e1 h1 h2 => ⟨small (by show 2 ≤ 100000; decide), fun t ht0 => by
    have s3 : Same H1 (upd H1 t (.tup [.str x, .ref q])) := Same.new ht0
    exact k t q ws _ hq (Same.free e1 ht0) (e1.trans s3) (s3 _ _ h1) (Dts.mono s3 _ h2) upd_same⟩
theorem ep_pair {es2 : List D} {q2 : Addr} (ha : Ev K ta σ H (.raw (.ref q2))) (h : EvN K te σ H es2) : EvP (tTup (tCons ta (tCons te tNil))) σ H fun v H' => ∃ t q3 ws3, v = .ref t ∧ H' t = some (.tup [.ref q2, .ref q3]) ∧ H' q3 = some (.lst ws3) ∧ Dts K H' es2 ws3 ∧ H t = none ∧ H q3 = none := fun H1 e Q q =>
  ha H1 e _ fun w H2 e2 hw => h H2 (e.trans e2) _ fun q3 ws H3 hq e3 h1 h2 => ⟨small (by show 2 ≤ 100000; decide), fun t ht0 => by
    have s3 : Same H3 (upd H3 t (.tup [w, .ref q3])) := Same.new ht0
    have ee := (e.trans e2)
    exact q (.ref t) _ ((e2.trans e3).trans s3) ⟨t, q3, ws, rfl, by rw [upd_same, show w = .ref q2 from hw], s3 _ _ h1, Dts.mono s3 _ h2, Same.free (ee.trans e3) ht0, Same.free ee hq⟩⟩
/-- l.append(x), l any list -/
theorem q_appP {L : Addr} {P : V → Hp → Prop} (ho : Ev K to σ H (.raw (.ref L))) (hat : H L = some (.lst vs)) (hz : vs.length ≤ 10000) (he : EvP te σ H P) (k : ∀ v H1, Same H H1 → P v H1 → tv E σ (upd H1 L (.lst (vs ++ [v])))) : tSeq (tDrop (tBM K "list" rAppend to (tCons te tNil))) tv E σ H :=
  ho H (Same.refl H) _ fun x H1 e1 hx => ⟨by rw [show x = .ref L from hx]; exact .inl ⟨rfl, _, SqL.of (e1 _ _ hat)⟩, he H1 e1 _ fun v H2 e2 hv => ⟨L, vs, v, hx, rfl, (e1.trans e2) _ _ hat, smallLt (by omega), k v H2 (e1.trans e2) hv⟩⟩
theorem ev_tried6F {C1 C2 C3 C4 C5 C6 : Addr} {E' : XK} (h0 : Ev K ta σ H (.raw (.ref p))) (h1 : Ev K tb σ H d) (hd : ThD d false) (ht : TrAt K C H p l g past) (hz : past.length ≤ 10000) (tok : TrOk g rows) : Ev K (tCall (SpTried K C C1 C2 C3 C4 C5 C6) [] E' (tCons ta (tCons (tC (.int 6)) (tCons tb (tCons (tC .non) (tCons (tC (.int 0)) tNil)))))) σ H (.tup [.str (tx "no name"), .bl true]) := fun H1 e Q q =>
  (show EvA K _ σ H [.raw (.ref p), .int 6, d, .non, .int 0] from ea_cons h0 (ea_cons ev_int (ea_cons h1 (ea_cons ev_non (ea_cons ev_int ea_nil))))) H1 e _ fun us H3 e3 ⟨u1, r1, g1, k1, u2, r2, g2, k2, u3, r3, g3, k3, u4, r4, g4, k4, u5, r5, g5, k5, g6⟩ =>
    ⟨p, l, g, past, rows, 6, d, .non, false, false, 0, u3, .non, by rw [g1, g2, g3, g4, g5, g6, show u1 = .ref p from k1, show u2 = .int 6 from k2, show u4 = .non from k4, show u5 = .int 0 from k5]; rfl, k3, rfl, hd, .inr ⟨.inl rfl, rfl⟩, ht.mono (e.trans e3), hz, tok, .inr ⟨rfl, fun _ v H' s hv => q v H' (e3.trans s) hv, fun z => nomatch z⟩⟩
theorem ev_tried6T {C1 C2 C3 C4 C5 C6 : Addr} {E' : XK} {x : Tx} (h0 : Ev K ta σ H (.raw (.ref p))) (h1 : Ev K tb σ H (.str x)) (hd : ThD (.str x) true) (ht : TrAt K C H p l g past) (hz : past.length ≤ 10000) (tok : TrOk g rows) {Q : VK} (k : ∀ t q ws H', H q = none → H t = none → Same H H' → H' q = some (.lst ws) → Dts K H' ((belowR rows x).map rowD) ws → H' t = some (.tup [.str (S (tx "told")), .ref q]) → Q (.ref t) H') : tCall (SpTried K C C1 C2 C3 C4 C5 C6) [] E' (tCons ta (tCons (tC (.int 6)) (tCons tb (tCons (tC .non) (tCons (tC (.int 0)) tNil))))) σ H Q :=
  (show EvA K _ σ H [.raw (.ref p), .int 6, .str x, .non, .int 0] from ea_cons h0 (ea_cons ev_int (ea_cons h1 (ea_cons ev_non (ea_cons ev_int ea_nil))))) H (Same.refl H) _ fun us H3 e3 ⟨u1, r1, g1, k1, u2, r2, g2, k2, u3, r3, g3, k3, u4, r4, g4, k4, u5, r5, g5, k5, g6⟩ =>
    ⟨p, l, g, past, rows, 6, .str x, .non, true, false, 0, u3, .non, by rw [g1, g2, g3, g4, g5, g6, show u1 = .ref p from k1, show u2 = .int 6 from k2, show u4 = .non from k4, show u5 = .int 0 from k5]; rfl, k3, rfl, hd, .inr ⟨.inl rfl, rfl⟩, ht.mono e3, hz, tok, .inr ⟨rfl, fun z => (nomatch z), fun _ x' ex t q ws H' a1 a2 s a3 a4 a5 => k t q ws H' (Same.free e3 a1) (Same.free e3 a2) (e3.trans s) a3 (by rw [D.str.inj ex]; exact a4) a5⟩⟩
theorem mutL {A : List Addr} (h : ∀ b ∈ A, ∃ vs, H b = some (.lst vs)) : MutA H A := fun b hb => .inl (h b hb)
end
theorem hide_upd {A : List Addr} {H : Hp} {a : Addr} {o : HO} (h : a ∈ A) : Same (hide A H) (upd H a o) := fun b u e => by
  rw [upd_ne fun z => by rw [z, hide_none h] at e; cases e]
  exact hide_same _ _ e
theorem ThE.imm {d : D} {b : Bool} (h : ThE d b) : d.imm = true := by
  rcases h.1 with ⟨l, rfl, _⟩ | ⟨rfl | ⟨i, rfl⟩, _⟩ <;> rfl
end
end Rt

namespace Rt
open PySem PySem.Spec PyProof.Rows L2
section
variable {P : Program} {w : World} {K : PySem.W.Frag} {mg : Str → Option Value} {base : Heap}
def SpTells (K : PySem.W.Frag) (C : Addr) : Sp := fun vs H Q _ => ∃ p l g past R a LK ks d b v, vs = [.ref p, v, .ref a, .ref LK] ∧ TrAt K C H p l g past ∧ past.length ≤ 10000 ∧ TrOk g (srtR R) ∧ DOk R ∧ H a = some (.dK (kvR R)) ∧ H LK = some (.lst ks) ∧ ks.length ≤ 1000 ∧ LK ≠ l ∧ ThE d b ∧ Dt K H d v ∧
  ∀ H', Same (hide1 LK H) H' → (H' LK = some (.lst ks) ∨ ∃ t q1 q2 ws1 ws2, H' LK = some (.lst (ks ++ [.ref t])) ∧ H t = none ∧ H q1 = none ∧ H q2 = none ∧ H' t = some (.tup [.ref q1, .ref q2]) ∧ H' q1 = some (.lst ws1) ∧ H' q2 = some (.lst ws2) ∧ Dts K H' ((srtR R).map rowD) ws1 ∧ Dts K H' ((srtR R).map rowD) ws2) → Q (.bl true) H'
theorem cal_tells {CTrail CNoName CNotThere CTooLong CTaken CTooMany CNothingDone : Addr} (F : Dfn K mg "_law_tells" s__law_tells ["_law_trail", "_law_start", "_law_plain", "_law_kept"]) (BU : Bl mg) (x_Trail : TrC K mg CTrail) (c__law_named : Cal P w K mg base CX0 1 "_law_named" (Fn K Rnamed)) (c__law_alike : ∀ N, N ≤ 290 → Cal P w K mg base CX0 (N + 1) "_law_alike" (Fn K (Ralike2 N)))
    (c__law_tried : Cal P w K mg base CX0 48 "_law_tried" (SpTried K CTrail CNoName CNotThere CTooLong CTaken CTooMany CNothingDone)) (c_Trail_told : MetX P w K mg base (L2.CX P w) 45 CTrail "told" (SpTold K CTrail CNoName)) : Cal P w K mg base CX0 49 "_law_tells" (SpTells K CTrail) := by
  have c__law_alike := c__law_alike 4 (by decide)
  refine cal_sp F sc__law_tells (fun vs H Q E h => by obtain ⟨p, l, g, past, R, a, LK, ks, d, b, v, rfl, _⟩ := h; rfl) fun cdv A outer s f H vs Q E hr h => ?_
  obtain ⟨p, l, g, past, R, a, LK, ks, d, b, v, rfl, ht, hz, tok, ok, hat, hLK, hkz, nLl, th, hv, k⟩ := h
  refine ⟨_, (pss_cons (ps_set (i := 4) sc__law_tells.nd rfl (Or.inl rfl) (pe_tup (pa_cons pe_str (pa_cons pe_bl pa_nil)))) (pss_cons (ps_if (pt_val (pe_c c__law_named hr (by omega) (by rfl) (pa_cons (pv 1) pa_nil))) (pss_one (ps_set (i := 4) sc__law_tells.nd rfl (Or.inl rfl) (pe_tup (pa_cons pe_str (pa_cons (pe_lc (own := [("_law_name", 5)]) (g := gName 5) (by rfl) sc__law_tells.nd (pi_list (pe_callB (call_sortedDA (by rfl)) (by rfl) BU.sorted_ (by decide +kernel) (pa_cons (pv 2) pa_nil))) (blkOk_by (own := [("_law_name", 5)]) (N := N__law_tells) (sc := defScope s__law_tells) (by decide +kernel)) (fun _ _ _ _ _ => pg_name (i := 5) sc__law_tells.nd rfl (Or.inl rfl)) (fun _ _ _ _ _ => (pts_one (pt_cmpR op_eq (pe_slice sl_str (pv 5) po_none (po_some (pe_callB call_len_str (by rfl) BU.len_ PySem.boot_len (pa_cons (pv 1) pa_nil)))) (pv 1) (nomark _)))) (fun _ _ _ _ _ => (pe_tup (pa_cons (pv 5) (pa_cons (pe_dget (hu_of hr) (pv 2) (pv 5) (fun _ _ => rfl)) pa_nil))))) pa_nil))))) pss_nil) (pss_cons (ps_set (i := 6) sc__law_tells.nd rfl (Or.inl rfl) (pe_c c__law_tried hr (by omega) (by rfl) (pa_cons (pv 0) (pa_cons pe_int (pa_cons (pv 1) (pa_cons pe_non (pa_cons pe_int pa_nil))))))) (pss_cons (ps_if (PW.pt (pw_or (pt_not (pt_val (pe_c c__law_alike hr (by omega) (by rfl) (pa_cons (pv 6) (pa_cons (pv 4) pa_nil))))) (pw_or1 (pt_cmpR op_ne (pe_ix ix_tup (pv 4) pe_int (fun _ _ => rfl)) pe_str (nomark _))))) (pss_one (ps_ret (pe_and (pe_cmpR op_ne (pe_ix ix_tup (pv 4) pe_int (fun _ _ => rfl)) pe_str (nomark _)) (pe_one (pe_c c__law_alike hr (by omega) (by rfl) (pa_cons (pv 6) (pa_cons (pv 4) pa_nil))))))) pss_nil) (pss_cons (ps_expr (pe_bm PySem.F.plainAttrs_list PySem.F.slot_list_append PySem.F.type_list_append mt_append (pe_ix ix_tup (pv 6) pe_int (fun _ _ => rfl)) (pa_cons (pe_tup (pa_cons pe_str (pa_cons pe_int pa_nil))) pa_nil))) (pss_cons (ps_set (i := 7) sc__law_tells.nd rfl (Or.inl rfl) (pe_mt c_Trail_told x_Trail.cl hr (by omega) pass0X (pv 0) (pa_cons pe_str pa_nil))) (pss_cons (ps_expr (pe_bm PySem.F.plainAttrs_list PySem.F.slot_list_append PySem.F.type_list_append mt_append (pv 3) (pa_cons (pe_tup (pa_cons (pv 7) (pa_cons (pe_callTy call_list_of (by rfl) BU.list_ (by decide +kernel) (pa_cons (pv 7) pa_nil)) pa_nil))) pa_nil))) (pss_cons (ps_set (i := 8) sc__law_tells.nd rfl (Or.inl rfl) (pe_c c__law_tried hr (by omega) (by rfl) (pa_cons (pv 0) (pa_cons pe_int (pa_cons (pv 1) (pa_cons pe_non (pa_cons pe_int pa_nil))))))) (pss_cons (ps_if (PW.pt (pw_or (pt_cmpR op_ne (pe_callB call_len_seq (by rfl) BU.len_ PySem.boot_len (pa_cons (pv 7) pa_nil)) (pe_callB call_lenD (by rfl) BU.len_ PySem.boot_len (pa_cons (pv 2) pa_nil)) (nomark _)) (pw_or1 (pt_not (pt_val (pe_c c__law_alike hr (by omega) (by rfl) (pa_cons (pv 8) (pa_cons (pv 4) pa_nil)))))))) (pss_one (ps_ret pe_bl)) pss_nil) (pss_one (ps_ret (pe_c c__law_alike hr (by omega) (by rfl) (pa_cons (pe_ix ix_tup (pv 6) pe_int (fun _ _ => rfl)) (pa_cons (pe_op op_cat (pe_ix ix_tup (pv 4) pe_int (fun _ _ => rfl)) (pe_lst (pa_cons (pe_tup (pa_cons pe_str (pa_cons pe_int pa_nil))) pa_nil))) pa_nil)))))))))))))), ?_⟩
  try dsimp only [cxOf]
  have eh : ∀ H' : Hp, hide1 LK H' = hide [LK] H' := fun H' => by
    funext b
    unfold hide1 hide
    by_cases q : b = LK
    · rw [if_pos q, if_pos (by rw [q]; exact List.mem_singleton.mpr rfl)]
    · rw [if_neg q, if_neg (fun z => q (List.mem_singleton.mp z))]
  have tk : ∀ H' : Hp, H' LK = some (.lst ks) → TupK H' (hide1 LK H') := fun H' h => by
    rw [eh]
    exact (mutL fun b hb => ⟨ks, by rw [List.mem_singleton.mp hb]; exact h⟩ : MutA H' [LK]).tupK
  have hdI : d.imm = true := th.imm
  have S0 : Sl K H [some (.raw (.ref p)), some d, some (.raw (.ref a)), some (.raw (.ref LK)), none, none, none, none, none] (start ["_law_trail", "_law_start", "_law_plain", "_law_kept", "_law_due_here", "_law_name", "_law_got", "_law_all_of", "_law_again"] [.ref p, v, .ref a, .ref LK]) := ⟨_, _, rfl, rfl, _, _, rfl, hv, _, _, rfl, rfl, _, _, rfl, rfl, none, _, rfl, none, _, rfl, none, _, rfl, none, _, rfl, none, _, rfl, rfl⟩
  generalize start _ [V.ref p, v, V.ref a, V.ref LK] = σ at *
  refine q_asg S0 (d := .tup [.str (tx "no name"), .bl true]) (ev_tup (ea_cons (Ev.to ev_str rfl) (ea_cons ev_bl ea_nil)) (by show 2 ≤ 100000; decide)) fun σ1 H1 e1 S1 => ?_
  refine q_if0 (b := b) (et_B (ev_call (ds := [d]) (ea_cons (ev_var S1 (i := 1) (by rfl)) ea_nil) ⟨d, b, rfl, th, rfl⟩)) (fun q H2 e2 => ?_) (fun q H2 e2 => ?_)
  rotate_left
  · subst q
    have S2 := S1.mono e2
    have e02 := e1.trans e2
    refine q_asg S2 (d := .tup [.str (tx "no name"), .bl true]) (ev_tried6F (ev_var S2 (i := 0) (by rfl)) (ev_var S2 (i := 1) (by rfl)) th.1 (ht.mono e02) hz tok) fun σ3 H3 e3 S3 => ?_
    have al : D.al2 4 (.tup [.str (tx "no name"), .bl true]) := by
      refine ⟨by show 2 ≤ 10000; decide, fun d hd => ?_⟩
      rcases List.mem_cons.mp hd with rfl | hd
      · exact okT_cps (nameB_iff.mp (by decide +kernel)).2
      · rw [List.mem_singleton.mp hd]; rfl
    have a2 : ∀ H', Same H3 H' → Ev K _ σ3 H' (.bl true) := fun H' e => ev_call (R := Ralike2 4) (E := E0) (ds := [.tup [.str (tx "no name"), .bl true], .tup [.str (tx "no name"), .bl true]]) (ea_cons (ev_var (S3.mono e) (i := 6) (by rfl)) (ea_cons (ev_var (S3.mono e) (i := 4) (by rfl)) ea_nil)) ⟨_, rfl, al, rfl⟩
    have a3 : ∀ H', Same H3 H' → Ev K _ σ3 H' (.bl (!decide (tx "no name" = tx "told"))) := fun H' e => ev_neS (ev_ixT (ds := [.str (tx "no name"), .bl true]) (i := 0) (ev_var (S3.mono e) (i := 4) (by rfl)) ev_int (by rfl)) (Ev.to ev_str rfl)
    refine q_ifT (EvT.to (et_or (et_not (et_B (a2 H3 (Same.refl _)))) fun _ => et_test (a3 H3 (Same.refl _))) (by decide +kernel)) fun H4 e4 => ?_
    exact s_ret (d := .bl true) (ev_andT (Ev.to (a3 H4 e4) (congrArg D.bl (by decide +kernel))) (a2 H4 e4)) fun v H5 e5 hv => by
      rw [show v = .bl true from hv]
      have ee := (e02.trans e3).trans (e4.trans e5)
      exact k H5 (hide1_same.trans ee) (.inl (ee _ _ hLK))
  subst q
  obtain ⟨x, rfl, hx, hxo⟩ := th.str
  have S2 := S1.mono e2
  have e02 := e1.trans e2
  have hcn := ok.cnt
  have hsl : (srtR R).length = R.length := (srtR_perm R).length_eq
  have hmem : ∀ p, p ∈ srtR R ↔ p ∈ R := fun p => (srtR_perm R).mem_iff
  refine s_asgTN (es := (belowR (srtR R) x).map rowD) (EvN.to (en_lcL (α := Tx × Int) (es := srtR R) (enc := fun p => .str p.1) (fun p => decide (p.1.take x.length = x)) rowD (Ev.to (en_dsort (ev_var S2 (i := 2) (by rfl)) (.inl (e02 _ _ hat)) (by omega) (nms_perm R) (srt_lt ok.dis)).ev (by unfold nms; rw [List.map_map]; rfl)) S2 (by omega)
    (fun y hy σ' H' e S' => et_test (ev_eqS (ev_slTo x.length (ev_var S' (i := 5) (by rfl)) (ev_lenS (ev_var S' (i := 1) (by rfl)) (by omega)) rfl (by have := ok.len y ((hmem y).mp hy); omega)) (ev_var S' (i := 1) (by rfl))))
    (fun y hy _ σ' H' e S' => ev_tup (ea_cons (ev_var S' (i := 5) (by rfl)) (ea_cons (ev_dget (ev_var S' (i := 2) (by rfl)) (ev_var S' (i := 5) (by rfl)) (.inl ((e02.trans e) _ _ hat)) ((lookD_mem ok.dis).mpr ((hmem y).mp hy))) ea_nil)) (by show 2 ≤ 100000; decide)) (fun _ _ _ => rfl)) rfl) fun t2 q0 ws H3 hq0 ht2 e3 hq3 hd3 ht3 => ?_
  obtain ⟨dx0, vg0, vs0, hp1, hp2, hp3, hp4⟩ := ht.ex
  have e03 := e02.trans e3
  have rimm : ∀ r : Rows, D.imms (r.map rowD) = true := fun r => D.imms_map fun _ _ => rfl
  have hbl : (belowR (srtR R) x).length ≤ 100 := Nat.le_trans (List.length_filter_le _ _) (by omega)
  have nt2 : t2 ≠ LK := fun z => by rw [z, e02 _ _ hLK] at ht2; cases ht2
  have nq0 : q0 ≠ LK := fun z => by rw [z, e02 _ _ hLK] at hq0; cases hq0
  have S3 : Sl K (hide1 LK H3) [some (.raw (.ref p)), some (.str x), some (.raw (.ref a)), some (.raw (.ref LK)), some (.tup [.str (tx "told"), .lst ((belowR (srtR R) x).map rowD)]), none, none, none, none] (σ1.set 4 (some (.ref t2))) := by
    have h := Sl.tupK (tk H3 (e03 _ _ hLK)) (ds := [some (.raw (.ref p)), some (.str x), some (.raw (.ref a)), some (.raw (.ref LK)), none, none, none, none, none]) (fun d hd => by
      simp only [List.mem_cons, Option.some.injEq, List.not_mem_nil, or_false, reduceCtorEq] at hd
      rcases hd with rfl | rfl | rfl | rfl <;> rfl) ((S2.mono e3).fit (by exact ⟨rfl, rfl, rfl, rfl, trivial⟩))
    exact h.set 4 (d := .tup [.str (tx "told"), .lst ((belowR (srtR R) x).map rowD)]) ⟨t2, _, rfl, by rw [hide1_at nt2]; exact ht3, _, _, rfl, rfl, _, _, rfl, ⟨q0, ws, rfl, by rw [hide1_at nq0]; exact hq3, Dts.tupK (tk H3 (e03 _ _ hLK)) _ (rimm _) hd3⟩, rfl⟩
  generalize σ1.set 4 (some (V.ref t2)) = σ3 at *
  have S3h := S3.mono hide1_same
  show tSeq _ _ _ _ _
  refine ev_tried6T (ev_var S3h (i := 0) (by rfl)) (ev_var S3h (i := 1) (by rfl)) th.1 (ht.mono e03) hz tok fun t1 q ws2 H4 hq ht1 e4 hq4 hd4 ht4 => ?_
  show tSeq _ _ _ (List.set σ3 6 (some (V.ref t1))) H4
  have nt1q : t1 ≠ q := fun z => by rw [z, hq4] at ht4; cases ht4
  have nt1L : t1 ≠ LK := fun z => by rw [z, e03 _ _ hLK] at ht1; cases ht1
  have nqL : q ≠ LK := fun z => by rw [z, e03 _ _ hLK] at hq; cases hq
  have m1 : t1 ∉ [q, LK] := fun z => by
    rcases List.mem_cons.mp z with z | z
    · exact nt1q z
    · exact nt1L (List.mem_singleton.mp z)
  have nb3 : ∀ b ∈ [q, LK], (hide1 LK H3) b = none := fun b hb => by
    rcases List.mem_cons.mp hb with rfl | hb
    · exact Same.free hide1_same hq
    · rw [List.mem_singleton.mp hb]; exact hide1_none
  have S4 : Sl K (hide [q, LK] H4) [some (.raw (.ref p)), some (.str x), some (.raw (.ref a)), some (.raw (.ref LK)), some (.tup [.str (tx "told"), .lst ((belowR (srtR R) x).map rowD)]), none, some (.tup [.str (tx "told"), .raw (.ref q)]), none, none] (σ3.set 6 (some (.ref t1))) :=
    (S3.mono (into_hide (hide1_same.trans e4) nb3)).set 6 (d := .tup [.str (tx "told"), .raw (.ref q)]) ⟨t1, _, rfl, by rw [hide_at m1]; exact ht4, _, _, rfl, rfl, _, _, rfl, rfl, rfl⟩
  generalize σ3.set 6 (some (V.ref t1)) = σ4 at *
  have S4h := S4.mono hide_same
  have al : D.al2 4 (.tup [.str (tx "told"), .lst ((belowR (srtR R) x).map rowD)]) := by
    refine ⟨by show 2 ≤ 10000; decide, fun d hd => ?_⟩
    rcases List.mem_cons.mp hd with rfl | hd
    · exact okT_cps (nameB_iff.mp (by decide +kernel)).2
    · rw [List.mem_singleton.mp hd]
      exact rows_al2 (fun p hp => ok.ok p ((hmem p).mp (List.mem_filter.mp hp).1)) (by omega)
  refine q_ifF0 (EvT.to (et_or (et_not (et_B (ev_call (R := Ralike2 4) (d := .bl true) (ds := [.tup [.str (tx "told"), .lst ((belowR (srtR R) x).map rowD)], .tup [.str (tx "told"), .lst ((belowR (srtR R) x).map rowD)]]) (ea_cons (ev_reT (d := .lst ((belowR (srtR R) x).map rowD)) (v := .ref q) (ev_var S4h (i := 6) (by rfl)) (⟨q, ws2, rfl, hq4, hd4⟩ : Dt K H4 (.lst ((belowR (srtR R) x).map rowD)) (.ref q))) (ea_cons (ev_var S4h (i := 4) (by rfl)) ea_nil)) ⟨_, rfl, al, rfl⟩))) fun _ => et_test (ev_neS (a := tx "told") (b := tx "told") (ev_ixT (i := 0) (ev_var S4h (i := 4) (by rfl)) ev_int (by rfl)) (Ev.to ev_str rfl))) (by decide +kernel)) fun H5 e5 => ?_
  have S5h := S4h.mono e5
  have hwl : ws2.length ≤ 100 := by rw [hd4.len, List.length_map]; exact hbl
  refine q_appP (L := q) (P := fun v H' => Dt K H' (rowD ([], 0)) v) (ev_ixT (i := 1) (ev_var S5h (i := 6) (by rfl)) ev_int (by rfl)) (e5 _ _ hq4) (by omega) (ev_tup (ea_cons (Ev.to ev_str rfl) (ea_cons ev_int ea_nil)) (by show 2 ≤ 100000; decide) : Ev K _ _ _ (rowD ([], 0))) fun z H6 e6 hz6 => ?_
  have e06 := ((e03.trans e4).trans e5).trans e6
  have hq6 := e6 _ _ (e5 _ _ hq4)
  have mq : q ∈ [q, LK] := List.mem_cons_self
  have mL : LK ∈ [q, LK] := List.mem_cons_of_mem _ List.mem_cons_self
  have S6 := S4.mono (into_hide (hide_same.trans (e5.trans e6)) (fun b hb => hide_none hb))
  have d7 : Same (hide [q, LK] H6) (upd H6 q (.lst (ws2 ++ [z]))) := hide_upd mq
  have tk6 : TupK H6 (hide [q, LK] H6) := (mutL fun b hb => by
    rcases List.mem_cons.mp hb with rfl | hb
    · exact ⟨_, hq6⟩
    · rw [List.mem_singleton.mp hb]; exact ⟨_, e06 _ _ hLK⟩ : MutA H6 [q, LK]).tupK
  have hz7 : Dt K (hide [q, LK] H6) (rowD ([], 0)) z := Dt.tupK tk6 _ rfl hz6
  have hd7 : Dts K (hide [q, LK] H6) ((belowR (srtR R) x).map rowD) ws2 := Dts.tupK tk6 _ (rimm _) (Dts.mono (e5.trans e6) _ hd4)
  have nHq : H q = none := Same.free e03 hq
  have nqa : a ≠ q := fun y => by rw [← y, hat] at nHq; cases nHq
  have nql : q ≠ l := fun y => by rw [y, hp3] at nHq; cases nHq
  have nqp : q ≠ p := fun y => by rw [y, hp1] at nHq; cases nHq
  have t7 : TrAt K CTrail (upd H6 q (.lst (ws2 ++ [z]))) p l g past := (ht.mono e06).keepX (x := q) (fun b o nb h => by rw [upd_ne nb]; exact h) (.inl ⟨_, hq6⟩) nqp nql
  have s07 : Same H (upd H6 q (.lst (ws2 ++ [z]))) := fun b o h => by rw [upd_ne (ne_of_none h nHq)]; exact e06 _ _ h
  have hq7 : (upd H6 q (.lst (ws2 ++ [z]))) q = some (.lst (ws2 ++ [z])) := upd_same
  generalize upd H6 q (.lst (ws2 ++ [z])) = H7 at *
  -- all of them
  refine q_asgNs (en_all (rows := srtR R) (ev_var (S6.mono d7) (i := 0) (by rfl)) (Ev.to ev_str rfl) t7 tok) fun q2 ws3 H8 hq2 e8 hq28 hd8 => ?_
  have s08 := s07.trans e8
  have d8 := d7.trans e8
  have nq2q : q2 ≠ q := fun y => by rw [y, hq7] at hq2; cases hq2
  have nq2L : q2 ≠ LK := fun y => by rw [y, s07 _ _ hLK] at hq2; cases hq2
  have m2 : q2 ∉ [q, LK] := fun z => by
    rcases List.mem_cons.mp z with z | z
    · exact nq2q z
    · exact nq2L (List.mem_singleton.mp z)
  have tk8 : TupK H8 (hide [q, LK] H8) := (mutL fun b hb => by
    rcases List.mem_cons.mp hb with rfl | hb
    · exact ⟨_, e8 _ _ hq7⟩
    · rw [List.mem_singleton.mp hb]; exact ⟨_, s08 _ _ hLK⟩ : MutA H8 [q, LK]).tupK
  have i8 : Same (hide [q, LK] H6) (hide [q, LK] H8) := into_hide d8 (fun b hb => hide_none hb)
  have hd8' := Dts.tupK tk8 _ (rimm _) hd8
  have S8r := (S6.mono i8).set 7 (d := .raw (.ref q2)) (v := .ref q2) rfl
  have S8 := (S6.mono i8).set 7 (d := .lst ((srtR R).map rowD)) (v := .ref q2) ⟨q2, ws3, rfl, by rw [hide_at m2]; exact hq28, hd8'⟩
  generalize σ4.set 7 (some (V.ref q2)) = σ8 at *
  have S8h := S8.mono hide_same
  refine q_appP (L := LK) (ev_var S8h (i := 3) (by rfl)) (s08 _ _ hLK) (by omega) (ep_pair (q2 := q2) (es2 := (srtR R).map rowD) (ev_var (S8r.mono hide_same) (i := 7) (by rfl)) (en_lcopy (ev_var S8h (i := 7) (by rfl)))) fun v9 H9 e9 ⟨t3, q3, ws4, ev9, h1, h2, h3, f1, f2⟩ => ?_
  subst ev9
  have s09 := s08.trans e9
  have i9 : Same (hide [q, LK] H8) (hide [q, LK] H9) := into_hide (hide_same.trans e9) (fun b hb => hide_none hb)
  have tk9 : TupK H9 (hide [q, LK] H9) := (mutL fun b hb => by
    rcases List.mem_cons.mp hb with rfl | hb
    · exact ⟨_, e9 _ _ (e8 _ _ hq7)⟩
    · rw [List.mem_singleton.mp hb]; exact ⟨_, s09 _ _ hLK⟩ : MutA H9 [q, LK]).tupK
  have d10 : Same (hide [q, LK] H9) (upd H9 LK (.lst (ks ++ [.ref t3]))) := hide_upd mL
  have nLp : LK ≠ p := ht.neX hLK (fun _ _ _ z => by cases z)
  have nLa : a ≠ LK := fun y => by rw [← y, hat] at hLK; cases hLK
  have t10 : TrAt K CTrail (upd H9 LK (.lst (ks ++ [.ref t3]))) p l g past := ((t7.mono e8).mono e9).keepX (x := LK) (fun b o nb h => by rw [upd_ne nb]; exact h) (.inl ⟨_, s09 _ _ hLK⟩) nLp nLl
  have hat10 : (upd H9 LK (.lst (ks ++ [.ref t3]))) a = some (.dK (kvR R)) := by rw [upd_ne nLa]; exact s09 _ _ hat
  have hq10 : (upd H9 LK (.lst (ks ++ [.ref t3]))) q = some (.lst (ws2 ++ [z])) := by rw [upd_ne nqL]; exact e9 _ _ (e8 _ _ hq7)
  have hL10 : (upd H9 LK (.lst (ks ++ [.ref t3]))) LK = some (.lst (ks ++ [.ref t3])) := upd_same
  generalize upd H9 LK (.lst (ks ++ [.ref t3])) = H10 at *
  have i10 := i9.trans d10
  have S10h := S8.mono i10
  -- once more
  refine ev_tried6T (ev_var S10h (i := 0) (by rfl)) (ev_var S10h (i := 1) (by rfl)) th.1 t10 hz tok fun t5 q5 ws5 H11 hq5 ht5 e11 hq11 hd11 ht11 => ?_
  show tSeq _ _ _ (List.set σ8 8 (some (V.ref t5))) H11
  have S11 := (S10h.mono e11).set 8 (d := .tup [.str (tx "told"), .lst ((belowR (srtR R) x).map rowD)]) (v := .ref t5) ⟨t5, _, rfl, ht11, _, _, rfl, rfl, _, _, rfl, ⟨q5, ws5, rfl, hq11, hd11⟩, rfl⟩
  generalize σ8.set 8 (some (V.ref t5)) = σ11 at *
  refine q_ifF0 (EvT.to (et_or (et_test (ev_neI (ev_lenL (ev_var S11 (i := 7) (by rfl))) (ev_dlen (ev_var S11 (i := 2) (by rfl)) (e11 _ _ hat10)))) fun _ => et_not (et_B (ev_call (R := Ralike2 4) (d := .bl true) (ds := [.tup [.str (tx "told"), .lst ((belowR (srtR R) x).map rowD)], .tup [.str (tx "told"), .lst ((belowR (srtR R) x).map rowD)]]) (ea_cons (ev_var S11 (i := 8) (by rfl)) (ea_cons (ev_var S11 (i := 4) (by rfl)) ea_nil)) ⟨_, rfl, al, rfl⟩))) (by rw [List.length_map, hsl, decide_eq_true rfl]; rfl)) fun H12 e12 => ?_
  have S12 := S11.mono e12
  have i12 := (i10.trans e11).trans e12
  have hql : Dt K H12 (.lst ((belowR (srtR R) x).map rowD ++ [rowD ([], 0)])) (.ref q) := ⟨q, _, rfl, e12 _ _ (e11 _ _ hq10), Dts.snoc (Dts.mono (i8.trans i12) _ hd7) (Dt.mono (i8.trans i12) _ hz7)⟩
  have al9 : D.al2 4 (.lst ((belowR (srtR R) x).map rowD ++ [rowD ([], 0)])) := by
    have := rows_al2 (rows := belowR (srtR R) x ++ [([], 0)]) (fun p hp => by
      rcases List.mem_append.mp hp with hp | hp
      · exact ok.ok p ((hmem p).mp (List.mem_filter.mp hp).1)
      · rw [List.mem_singleton.mp hp]; exact fun c hc => by cases hc) (by rw [List.length_append]; show _ + 1 ≤ _; omega)
    rw [List.map_append] at this
    exact D.al2_up _ _ this
  refine s_ret (d := .bl true) (ev_call (R := Ralike2 4) (ds := [.lst ((belowR (srtR R) x).map rowD ++ [rowD ([], 0)]), .lst ((belowR (srtR R) x).map rowD ++ [rowD ([], 0)])]) (ea_cons (ev_re (v := .ref q) (ev_ixT (i := 1) (ev_var S12 (i := 6) (by rfl)) ev_int (by rfl)) hql) (ea_cons (en_cat (ev_ixT (i := 1) (ev_var S12 (i := 4) (by rfl)) ev_int (by rfl)) (ev_lst (ds := [rowD ([], 0)]) (ea_cons (ev_tup (ea_cons (Ev.to ev_str rfl) (ea_cons ev_int ea_nil)) (by show 2 ≤ 100000; decide)) ea_nil) (by show 1 ≤ 100000; decide)) (by rw [List.length_map]; show _ + 1 ≤ _; omega)).ev ea_nil)) ⟨_, rfl, al9, rfl⟩) fun v13 H13 e13 hv13 => ?_
  rw [show v13 = .bl true from hv13]
  have i13 := (d10.trans e11).trans (e12.trans e13)
  have m3 : ∀ {y : Addr}, H8 y = none → y ∉ [q, LK] := fun {y} h z => by
    rcases List.mem_cons.mp z with z | z
    · rw [z, e8 _ _ hq7] at h; cases h
    · rw [List.mem_singleton.mp z, s08 _ _ hLK] at h; cases h
  have at9 : ∀ {y : Addr} {o : HO}, y ∉ [q, LK] → H9 y = some o → H13 y = some o := fun m h => i13 _ _ (by rw [hide_at m]; exact h)
  refine k H13 (fun b o h => ?_) (.inr ⟨t3, q2, q3, ws3, ws4, (e13 _ _ (e12 _ _ (e11 _ _ hL10))), Same.free s08 f1, Same.free s07 hq2, Same.free s08 f2, at9 (m3 f1) h1, at9 m2 (e9 _ _ hq28), at9 (m3 f2) h2, Dts.mono (i9.trans i13) _ hd8', Dts.mono i13 _ (Dts.tupK tk9 _ (rimm _) h3)⟩)
  have nb : b ≠ LK := fun y => by rw [y, hide1_none] at h; cases h
  have h' := hide1_same _ _ h
  refine at9 (fun z => ?_) (s09 _ _ h')
  rcases List.mem_cons.mp z with z | z
  · rw [z, nHq] at h'; cases h'
  · exact nb (List.mem_singleton.mp z)
end
end Rt

namespace Rt
open PySem PySem.Spec PyProof.Rows L2
section
variable {P : Program} {w : World} {K : PySem.W.Frag} {mg : Str → Option Value} {base : Heap}
def Rnumber : List D → D → Prop := fun ds d => ∃ c : Int, ds = [.int c] ∧ d = .int (numberL c)
theorem Rnumber_mk {c : Int} : Rnumber [.int c] (.int (numberL c)) := ⟨c, rfl, rfl⟩
local macro_rules | `(tactic| walk_at "call") => `(tactic| with_reducible exact Rt.Rnumber_mk)
theorem cal_number_by (F : Dfn K mg "_law_number_by" s__law_number_by ["_law_cell"]) (BU : Bl mg) : Cal P w K mg base CX0 1 "_law_number_by" (Fn K Rnumber) := by
  refine cal_fn F sc__law_number_by (fun ds d h => by obtain ⟨a, rfl, _⟩ := h; rfl) fun cdv A outer s f H vs ds d hr hR S0 => ?_
  obtain ⟨c, rfl, rfl⟩ := hR
  refine ⟨_, (pss_cons (ps_if (pt_cmpR op_gt (pe_op op_mod (pv 0) pe_int) pe_int (nomark _)) (pss_one (ps_ret (pe_op op_sub (pe_op op_mod (pe_op op_fdiv (pv 0) pe_int) pe_int) pe_int))) pss_nil) (pss_cons (ps_set (i := 1) sc__law_number_by.nd rfl (Or.inl rfl) (pe_ix ix_list (pe_lst (pa_cons pe_int (pa_cons (pe_op op_add pe_int (pe_op op_mod (pe_op op_fdiv (pv 0) pe_int) pe_int)) pa_nil))) (pe_op op_mod (pv 0) pe_int) (fun _ _ => rfl))) (pss_cons (ps_set (i := 2) sc__law_number_by.nd rfl (Or.inl rfl) pe_int) (pss_cons (ps_set (i := 3) sc__law_number_by.nd rfl (Or.inl rfl) (pv 0)) (pss_cons (ps_for PassesOwn.never rfl (pi_range1 (by rfl) BU.range_ (pa_cons (pv 1) pa_nil)) (pg_name (i := 4) sc__law_number_by.nd rfl (Or.inl rfl)) (pss_cons (ps_set (i := 3) sc__law_number_by.nd rfl (Or.inl rfl) (pe_op op_mod (pe_op op_add (pe_op op_mul (pv 3) pe_int) pe_int) pe_int)) (pss_one (ps_set (i := 2) sc__law_number_by.nd rfl (Or.inl rfl) (pe_op op_add (pe_op op_mul (pv 2) pe_int) (pe_op op_mod (pe_op op_fdiv (pv 3) pe_int) pe_int)))))) (pss_one (ps_ret (pe_op op_mul (pe_ix ix_list (pe_lst (pa_cons pe_int (pa_cons (pe_un un_neg pe_int) pa_nil))) (pe_op op_mod (pe_op op_fdiv (pv 0) pe_int) pe_int) (fun _ _ => rfl)) (pv 2))))))))), fun nx Q kn kr => ?_⟩
  try dsimp only [cxOf]
  generalize start _ vs = σ at *
  refine q_if0 (b := decide (1 < c % 5)) (by walk_at "ev") (fun q H1 e1 => ?_) (fun q H1 e1 => ?_)
  · have S1 := S0.mono e1
    exact s_ret (d := .int (numberL c)) (Ev.to (by walk_at "ev") (by unfold numberL; rw [if_pos (of_decide_eq_true q)])) fun v H2 e2 hv => kr v H2 (e1.trans e2) hv
  · have S1 := S0.mono e1
    have q' := of_decide_eq_false q
    have hz := sizeN_b c
    have h2 : atI [D.int 60, D.int (1 + c / 10 % 60)] (c % 5) = some (.int (sizeN c)) := by
      have h : c % 5 = 0 ∨ c % 5 = 1 := by omega
      unfold sizeN
      rcases h with h | h <;> rw [h] <;> rfl
    refine q_asg S1 (d := .int (sizeN c)) (by walk_at "ev") fun σ2 H2 e2 S2 => ?_
    refine q_asg S2 (d := .int 0) (by walk_at "ev") fun σ3 H3 e3 S3 => ?_
    refine q_asg S3 (d := .int c) (by walk_at "ev") fun σ4 H4 e4 S4 => ?_
    refine q_forR (sizeN c).toNat (by walk_at "ev") rfl ⟨by omega, by omega⟩ (fun k ds => ∃ x, ds = [some (.int c), some (.int (sizeN c)), some (.int (digN c k)), some (.int (numN c k)), x]) S4 ⟨none, rfl⟩ ?_ ?_
    · rintro k hk ds σ5 H5 N ⟨x, rfl⟩ e5 S5 kN
      refine q_asg S5 (d := .int (numN c (k + 1))) (by walk_at "evq") fun σ6 H6 e6 S6 => ?_
      exact s_asg S6 (d := .int (digN c (k + 1))) (by walk_at "evq") fun σ7 H7 e7 S7 => kN _ _ _ ⟨_, rfl⟩ (e6.trans e7) S7
    · rintro ds σ5 H5 ⟨x, rfl⟩ e5 S5
      have h3 : atI [D.int 1, D.int (-1)] (c / 5 % 2) = some (.int (if c / 5 % 2 = 0 then 1 else -1)) := by rw [pick2]; split <;> rfl
      have hm : CMul (if c / 5 % 2 = 0 then 1 else -1) (digN c (sizeN c).toNat) := .inl (by split <;> exact ⟨by decide, by decide⟩)
      exact s_ret (d := .int (numberL c)) (Ev.to (by walk_at "ev") (by unfold numberL; rw [if_neg q'])) fun v H6 e6 hv => kr v H6 (((((e1.trans e2).trans e3).trans e4).trans e5).trans e6) hv
end
end Rt
local macro_rules | `(tactic| walk_at "call") => `(tactic| with_reducible exact Rt.Rnumber_mk)
namespace Rt
open PySem PySem.Spec PyProof.Rows L2
section
variable {P : Program} {w : World} {K : PySem.W.Frag} {mg : Str → Option Value} {base : Heap}
def Rcell : List D → D → Prop := fun ds d => ∃ (ns : List Int) (i : Int), ds = [.scr ns, .int i] ∧ 0 ≤ i ∧ d = .int (ns.getD i.toNat 0)
theorem Rcell_mk {ns : List Int} {i : Int} (h : 0 ≤ i) : Rcell [.scr ns, .int i] (.int (ns.getD i.toNat 0)) := ⟨ns, i, rfl, h, rfl⟩
local macro_rules | `(tactic| walk_at "call") => `(tactic| (with_reducible refine Rt.Rcell_mk ?_ <;> walk_at "side"))
theorem cal_cell_at (F : Dfn K mg "_law_cell_at" s__law_cell_at ["_law_script", "_law_k"]) (BU : Bl mg) : Cal P w K mg base CX0 1 "_law_cell_at" (Fn K Rcell) := by
  refine cal_fn F sc__law_cell_at (fun ds d h => by obtain ⟨a, b, rfl, _⟩ := h; rfl) fun cdv A outer s f H vs ds d hr hR S0 => ?_
  obtain ⟨ns, i, rfl, hi, rfl⟩ := hR
  refine ⟨_, (pss_cons (ps_if (pt_cmpR op_lt (pv 1) (pe_callB call_len_seq (by rfl) BU.len_ PySem.boot_len (pa_cons (pv 0) pa_nil)) (nomark _)) (pss_one (ps_ret (pe_ix ix_list (pv 0) (pv 1) (fun _ _ => rfl)))) pss_nil) (pss_one (ps_ret pe_int))), fun nx Q kn kr => ?_⟩
  try dsimp only [cxOf]
  generalize start _ vs = σ at *
  refine q_if0 (b := decide (i < (ns.length : Int))) (by walk_at "ev") (fun c H1 e1 => ?_) (fun c H1 e1 => ?_)
  · have c' := of_decide_eq_true c
    have S1 := S0.mono e1
    have hl : i.toNat < ns.length := by omega
    have h : atI ns i = some (ns.getD i.toNat 0) := by
      have q := atI_nat (List.getElem?_eq_getElem hl)
      rw [show ((i.toNat : Nat) : Int) = i by omega] at q
      rw [q, List.getD_eq_getElem?_getD, List.getElem?_eq_getElem hl]; rfl
    exact s_ret (ev_ixR (by walk_at "ev") (by walk_at "ev") h) fun v H2 e2 hv => kr v H2 (e1.trans e2) hv
  · have c' := of_decide_eq_false c
    refine s_ret (K := K) (d := .int 0) ev_int fun v H2 e2 hv => kr v H2 (e1.trans e2) ?_
    rw [List.getD_eq_getElem?_getD, List.getElem?_eq_none (by omega)]; exact hv
end
end Rt
local macro_rules | `(tactic| walk_at "call") => `(tactic| (with_reducible refine Rt.Rcell_mk ?_ <;> walk_at "side"))
namespace Rt
open PySem PySem.Spec PyProof.Rows L2
section
variable {P : Program} {w : World} {K : PySem.W.Frag} {mg : Str → Option Value} {base : Heap}
/-- != [] of a list, whatever it holds -/
def rNeNil (K : PySem.W.Frag) : R2 := fun x y H Q => ∃ a b xs, x = .ref a ∧ y = .ref b ∧ SqL K H a xs ∧ SqL K H b [] ∧ Q (.bl (!xs.isEmpty)) H
theorem op_neNil {X : Cx} (hu : X.A.units + 64 < cLine) : OpR X (compareOp .NotEq) (rNeNil X.K) := by
  intro pins s σ H x y v u Q I rx ry h
  obtain ⟨a, b, xs, rfl, rfl, h1, h2, q⟩ := h
  cases xs with
  | nil => exact op_neD hu pins s σ H (.ref a) (.ref b) v u Q I rx ry ⟨.list [], .list [], .lst h1 .nil, .lst h2 .nil, rfl, rfl, q⟩
  | cons z xs =>
    cases rx
    cases ry
    obtain ⟨its, r, pl, _⟩ := I.list h1
    obtain ⟨its2, r2, pl2, _⟩ := I.list h2
    refine SeqAt.RcNeAt.lists_lengths pl.isList pl2.isList ?_ (by omega) _ _ _ _ ⟨.bl true, H, I, rfl, q⟩
    have l1 := r.length
    have l2 := r2.length
    simp only [List.size_toArray, bne_iff_ne, ne_eq]
    rw [← l1, ← l2]
    simp
theorem ev_neNilA {σ : L2.St} {H : Hp} {ta : TE} {l : Addr} {vs : List V} (ha : Ev K ta σ H (.raw (.ref l))) (hl : H l = some (.lst vs)) : Ev K (tOp (rNeNil K) ta (tLst tNil)) σ H (.bl (!vs.isEmpty)) :=
  ev_op ha (ev_lst ea_nil (by decide)) fun v w H1 e hv ⟨b, ws, h1, h2, h3⟩ Q q => ⟨l, b, vs, hv, h1, SqL.of (e _ _ hl), by rw [show ws = [] from h3] at h2; exact SqL.of h2, q _ _ (Same.refl _) rfl⟩
def encK (r : Rows) : D := .tup [.lst (r.map rowD), .lst (r.map rowD)]
/-- the law's world: the trail, the dicts that were (in the list LP), what is kept (in the list LK) -/
structure LW (K : PySem.W.Frag) (C : Addr) (H HH : Hp) (p l LP LK : Addr) (g : OT) (past : List OT) (P : List (Addr × Rows)) (ks : List Rows) : Prop where
  sub : Same HH H
  n : ∀ b ∈ [p, l, LP, LK], HH b = none
  tr : TrAt K C H p l g past
  lp : H LP = some (.lst (P.map fun e => V.ref e.1))
  lk : ∃ vs, H LK = some (.lst vs) ∧ Dts K HH (ks.map encK) vs
  pa : ∀ e ∈ P, HH e.1 = some (.dK (kvR e.2))
  nLl : LP ≠ l
  nKl : LK ≠ l
  nLK : LP ≠ LK
section
variable {σ : L2.St} {H HH HH' H' : Hp} {ta tb te to : TE} {E : Ends} {tu tv : TS} {C p l LP LK a : Addr} {g : OT} {past : List OT} {P : List (Addr × Rows)} {ks : List Rows} {d : D} {R : Rows} {sl : List (Option D)}
theorem LW.mono (w : LW K C H HH p l LP LK g past P ks) (e : Same H H') : LW K C H' HH p l LP LK g past P ks := by
  obtain ⟨vs, h1, h2⟩ := w.lk
  exact ⟨w.sub.trans e, w.n, w.tr.mono e, e _ _ w.lp, ⟨vs, e _ _ h1, h2⟩, w.pa, w.nLl, w.nKl, w.nLK⟩
theorem LW.mut (w : LW K C H HH p l LP LK g past P ks) : MutA H [p, l, LP, LK] := fun b hb => by
  obtain ⟨dx, vg, vs, h1, h2, h3, h4⟩ := w.tr.ex
  obtain ⟨ws, k1, k2⟩ := w.lk
  simp only [List.mem_cons, List.not_mem_nil, or_false] at hb
  rcases hb with rfl | rfl | rfl | rfl
  · exact .inr (.inl ⟨C, dx, _, h1⟩)
  · exact .inl ⟨vs, h3⟩
  · exact .inl ⟨_, w.lp⟩
  · exact .inl ⟨_, k1⟩
theorem LW.into (w : LW K C H HH p l LP LK g past P ks) : Same HH (hide [p, l, LP, LK] H) := into_hide w.sub w.n
theorem LW.wide (w : LW K C H HH p l LP LK g past P ks) : LW K C H (hide [p, l, LP, LK] H) p l LP LK g past P ks := by
  obtain ⟨vs, h1, h2⟩ := w.lk
  exact ⟨hide_same, fun b hb => hide_none hb, w.tr, w.lp, ⟨vs, h1, Dts.mono w.into _ h2⟩, fun e he => w.into _ _ (w.pa e he), w.nLl, w.nKl, w.nLK⟩
theorem LW.nLp (w : LW K C H HH p l LP LK g past P ks) : LP ≠ p := w.tr.neX w.lp (fun _ _ _ z => by cases z)
theorem LW.nKp (w : LW K C H HH p l LP LK g past P ks) : LK ≠ p := by
  obtain ⟨vs, h1, h2⟩ := w.lk
  exact w.tr.neX h1 (fun _ _ _ z => by cases z)
theorem LW.deed (w : LW K C H HH p l LP LK g past P ks) {g' : OT} {past' : List OT} (k : Keep2 p l H H') (t : TrAt K C H' p l g' past') : LW K C H' HH p l LP LK g' past' P ks := by
  obtain ⟨vs, h1, h2⟩ := w.lk
  exact ⟨fun b o h => k b o (ne_of_none h (w.n p (by simp))) (ne_of_none h (w.n l (by simp))) (w.sub b o h), w.n, t, k _ _ w.nLp w.nLl w.lp, ⟨vs, k _ _ w.nKp w.nKl h1, h2⟩, w.pa, w.nLl, w.nKl, w.nLK⟩
/-- the list of the dicts that were is changed -/
theorem LW.updP (w : LW K C H HH p l LP LK g past P ks) {P' : List (Addr × Rows)} (h : ∀ e ∈ P', HH e.1 = some (.dK (kvR e.2))) : LW K C (upd H LP (.lst (P'.map fun e => V.ref e.1))) HH p l LP LK g past P' ks := by
  obtain ⟨vs, h1, h2⟩ := w.lk
  exact ⟨fun b o e => by rw [upd_ne (ne_of_none e (w.n LP (by simp)))]; exact w.sub _ _ e, w.n, w.tr.keepX (x := LP) (fun b o nb e => by rw [upd_ne nb]; exact e) (.inl ⟨_, w.lp⟩) w.nLp w.nLl, upd_same, ⟨vs, by rw [upd_ne w.nLK.symm]; exact h1, h2⟩, h, w.nLl, w.nKl, w.nLK⟩
/-- what is kept is changed -/
theorem LW.told (w : LW K C H HH p l LP LK g past P ks) (s : Same (hide1 LK H) H') {vs : List V} {ks' : List Rows} (h1 : H' LK = some (.lst vs)) (h2 : Dts K (hide [p, l, LP, LK] H') (ks'.map encK) vs) : LW K C H' (hide [p, l, LP, LK] H') p l LP LK g past P ks' := by
  obtain ⟨vs0, k1, k2⟩ := w.lk
  have k : ∀ b o, b ≠ LK → H b = some o → H' b = some o := fun b o nb h => s _ _ (by rw [hide1_at nb]; exact h)
  have s1 : Same HH H' := fun b o h => k b o (ne_of_none h (w.n LK (by simp))) (w.sub _ _ h)
  exact ⟨hide_same, fun b hb => hide_none hb, w.tr.keepX k (.inl ⟨_, k1⟩) w.nKp w.nKl, k _ _ w.nLK w.lp, ⟨vs, h1, h2⟩, fun e he => into_hide s1 w.n _ _ (w.pa e he), w.nLl, w.nKl, w.nLK⟩
theorem LW.at (w : LW K C H HH p l LP LK g past P ks) {o : HO} (h : HH a = some o) : H a = some o := w.sub _ _ h
/-- a datum that no change touches, into a slot -/
theorem q_asgLW {i : Nat} (w : LW K C H HH p l LP LK g past P ks) (S : Sl K HH sl σ) (im : d.imm = true) (h : Ev K te σ H d) (k : ∀ σ' H' HH', Same H H' → Same HH HH' → LW K C H' HH' p l LP LK g past P ks → Sl K HH' (sl.set i (some d)) σ' → tu E σ' H') : tSeq (tAsg te (gName i)) tu E σ H :=
  h H (Same.refl H) _ fun v H1 e hv => k _ H1 _ e (w.mono e).into (w.mono e).wide ((S.mono (w.mono e).into).set i (Dt.tupK (w.mono e).mut.tupK d im hv))
theorem s_asgLW {i : Nat} (w : LW K C H HH p l LP LK g past P ks) (S : Sl K HH sl σ) (im : d.imm = true) (h : Ev K te σ H d) (k : ∀ σ' H' HH', Same H H' → Same HH HH' → LW K C H' HH' p l LP LK g past P ks → Sl K HH' (sl.set i (some d)) σ' → E.nx σ' H') : tAsg te (gName i) E σ H := q_asgLW (E := E) (tu := tNext) w S im h k
theorem q_asgLWN {i : Nat} {es : List D} (w : LW K C H HH p l LP LK g past P ks) (S : Sl K HH sl σ) (im : D.imms es = true) (h : EvN K te σ H es) (k : ∀ σ' H' HH', Same H H' → Same HH HH' → LW K C H' HH' p l LP LK g past P ks → Sl K HH' (sl.set i (some (.lst es))) σ' → tu E σ' H') : tSeq (tAsg te (gName i)) tu E σ H :=
  q_asgNs h fun q vs H1 hp e hp2 hd => by
    have nq := w.mut.ne hp
    exact k _ H1 _ e (w.mono e).into (w.mono e).wide ((S.mono (w.mono e).into).set i (d := .lst es) (v := .ref q) ⟨q, vs, rfl, by rw [hide_at nq]; exact hp2, Dts.tupK (w.mono e).mut.tupK _ im hd⟩)
/-- x, y, z = .. -/
theorem s_asg3 {i j m : Nat} {d1 d2 d3 : D} (w : LW K C H HH p l LP LK g past P ks) (S : Sl K HH sl σ) (i1 : d1.imm = true) (i2 : d2.imm = true) (i3 : d3.imm = true) (h : Ev K te σ H (.tup [d1, d2, d3])) (k : ∀ σ' H' HH', Same H H' → Same HH HH' → LW K C H' HH' p l LP LK g past P ks → Sl K HH' (((sl.set i (some d1)).set j (some d2)).set m (some d3)) σ' → E.nx σ' H') : tAsg te (gTup K 3 (gCons (gName i) (gCons (gName j) (gCons (gName m) gNil)))) E σ H :=
  h H (Same.refl H) _ fun v H1 e ⟨t, vs, hv, ht, v1, r1, h1, k1, v2, r2, h2, k2, v3, r3, h3, k3, h4⟩ => by
    have ev : vs = [v1, v2, v3] := by rw [h1, h2, h3, show r3 = [] from h4]
    subst ev
    have w1 := w.mono e
    have tk := w1.mut.tupK
    exact ⟨t, [v1, v2, v3], hv, SqT.of ht, rfl, v1, [v2, v3], rfl, v2, [v3], rfl, v3, [], rfl, rfl, k _ H1 _ e w1.into w1.wide ((((S.mono w1.into).set i (Dt.tupK tk d1 i1 k1)).set j (Dt.tupK tk d2 i2 k2)).set m (Dt.tupK tk d3 i3 k3))⟩
end
end
end Rt

namespace Rt
open PySem PySem.Spec PyProof.Rows L2
section
variable {P : Program} {w : World} {K : PySem.W.Frag} {mg : Str → Option Value} {base : Heap}
theorem due_fine (R : Rows) (way : Int) (d1 d2 : D) (b1 b2 : Bool) (n : Int) : nameB (dueF R way d1 d2 b1 b2 n).1 = true ∧ ((dueF R way d1 d2 b1 b2 n).2.1 = .bl true ∨ (dueF R way d1 d2 b1 b2 n).2.1 = .non ∨ ∃ i, (dueF R way d1 d2 b1 b2 n).2.1 = .int i) := by
  have ho : ∀ o, optD o = .bl true ∨ optD o = .non ∨ ∃ i, optD o = .int i := fun o => by
    cases o with
    | none => exact .inr (.inl rfl)
    | some i => exact .inr (.inr ⟨i, rfl⟩)
  unfold dueF
  split
  · exact ⟨by dsimp only; decide +kernel, .inl rfl⟩
  · split
    · unfold brF
      split
      · exact ⟨by dsimp only; decide +kernel, .inl rfl⟩
      · split
        · exact ⟨by dsimp only; decide +kernel, .inl rfl⟩
        · split
          · exact ⟨by dsimp only; decide +kernel, .inl rfl⟩
          · split
            · exact ⟨by dsimp only; decide +kernel, .inl rfl⟩
            · exact ⟨by dsimp only; decide +kernel, .inr (.inr ⟨_, rfl⟩)⟩
    · split
      · exact ⟨by dsimp only; decide +kernel, .inl rfl⟩
      · split
        · exact ⟨by dsimp only; decide +kernel, .inr (.inr ⟨_, rfl⟩)⟩
        · split
          · exact ⟨by dsimp only; decide +kernel, .inl rfl⟩
          · exact ⟨by dsimp only; decide +kernel, ho _⟩
theorem al_pair {w : Tx} {d : D} (h : nameB w = true) (hd : d = .bl true ∨ d = .non ∨ ∃ i, d = .int i) : D.al2 4 (.tup [.str w, d]) ∧ d.imm = true := by
  refine ⟨⟨by show 2 ≤ 10000; decide, fun e he => ?_⟩, by rcases hd with rfl | rfl | ⟨i, rfl⟩ <;> rfl⟩
  rcases List.mem_cons.mp he with rfl | he
  · exact okT_cps (nameB_iff.mp h).2
  · rw [List.mem_singleton.mp he]
    rcases hd with rfl | rfl | ⟨i, rfl⟩
    · exact rfl
    · trivial
    · trivial
/-- what a deed's call answers, and the trail behind it -/
def TRes (C1 C2 C3 C4 C5 C6 : Addr) (o : TOut) (g : OT) (past : List OT) (t : OT) (past' : List OT) (w : Tx) (d : D) : Prop := (∃ c, o = .err c ∧ WordOf C1 C2 C3 C4 C5 C6 c w ∧ d = .bl true ∧ t = g ∧ past' = past) ∨ (o = .did t past' d ∧ w = tx "told")
theorem word_told {C1 C2 C3 C4 C5 C6 c : Addr} {w : Tx} (h : WordOf C1 C2 C3 C4 C5 C6 c w) : w ≠ tx "told" := by
  rcases h with ⟨_, rfl⟩ | ⟨_, rfl⟩ | ⟨_, rfl⟩ | ⟨_, rfl⟩ | ⟨_, rfl⟩ | ⟨_, rfl⟩ <;> decide +kernel
def way12 (c : Int) : Int := if c % 10 < 3 then 0 else if c % 10 = 3 then 1 else if c % 10 = 4 then 2 else if c % 10 < 7 then 3 else if c % 10 < 9 then 4 else 5
theorem way12_in (c : Int) : 0 ≤ way12 c ∧ way12 c ≤ 5 := by
  unfold way12
  repeat' split
  all_goals decide
theorem pick10 (c : Int) : atI [D.int 0, .int 0, .int 0, .int 1, .int 2, .int 3, .int 3, .int 4, .int 4, .int 5] (c % 10) = some (.int (way12 c)) := by
  unfold way12
  have h : c % 10 = 0 ∨ c % 10 = 1 ∨ c % 10 = 2 ∨ c % 10 = 3 ∨ c % 10 = 4 ∨ c % 10 = 5 ∨ c % 10 = 6 ∨ c % 10 = 7 ∨ c % 10 = 8 ∨ c % 10 = 9 := by omega
  rcases h with h | h | h | h | h | h | h | h | h | h <;> rw [h] <;> rfl
theorem textD_the {c : Int} {held : List Tx} (h : Held held) : ∃ b, ThE (textD c held) b := by
  unfold textD
  split
  · unfold thingD
    split
    · exact ⟨false, .inl ⟨_, rfl, by decide, by decide⟩, fun l e _ => .inr (.inl (by rw [← D.str.inj e]; decide))⟩
    · split
      · exact ⟨false, .inl ⟨_, rfl, by decide, by decide⟩, fun l e _ => .inr (.inr (by rw [← D.str.inj e]; decide))⟩
      · split
        · have hl : (wordL c 41).length = 41 := wordL_len _ _
          exact ⟨_, .inl ⟨_, rfl, by rw [hl]; decide, rfl⟩, fun l e _ => .inl (by rw [← D.str.inj e, hl]; decide)⟩
        · split
          · exact ⟨false, .inr ⟨.inl rfl, rfl⟩, fun l e => by cases e⟩
          · exact ⟨false, .inr ⟨.inr ⟨_, rfl⟩, rfl⟩, fun l e => by cases e⟩
  · exact ⟨true, .name (nameB_iff.mpr ⟨(textT_ok h).2, (textT_ok h).1⟩)⟩
theorem otherD_the {c : Int} {held : List Tx} (h : Held held) : ∃ b, ThE (otherD c held) b := by
  unfold otherD
  split <;> exact textD_the h
theorem inD_x {R : Rows} {d : D} (h : inD R d = true) : ∃ x n, d = .str x ∧ lookD R x = some n := by
  cases d with
  | str x =>
    cases e : lookD R x with
    | none =>
      have h' : (lookD R x).isSome = true := h
      rw [e] at h'; cases h'
    | some n => exact ⟨x, n, rfl, e⟩
  | _ => cases h
theorem imms_of {ds : List D} (h : ∀ d ∈ ds, d.imm = true) : D.imms ds = true := by
  induction ds with
  | nil => rfl
  | cons d ds ih =>
    show (d.imm && D.imms ds) = true
    rw [h d List.mem_cons_self, ih fun e he => h e (List.mem_cons_of_mem _ he)]; rfl
theorem firstT_imm {b : Int} {w : Tx} (hw : w.length = 40) (ho : okT w) : D.imms ((firstT b w).map encF) = true := imms_of fun d hd => by
  obtain ⟨e, he, rfl⟩ := List.mem_map.mp hd
  obtain ⟨_, _, ⟨b1, h1⟩, ⟨b2, h2⟩⟩ := (firstT_ok hw ho).2 e he
  show (D.imms [.int e.1, e.2.1, e.2.2]) = true
  exact imms_of fun d hd => by
    simp only [List.mem_cons, List.not_mem_nil, or_false] at hd
    rcases hd with rfl | rfl | rfl
    · rfl
    · exact h1.imm
    · exact h2.imm
theorem ints_dts12 {H : Hp} : ∀ cs : List Int, Dts K H (cs.map D.int) (cs.map V.int)
  | [] => rfl
  | c :: r => ⟨.int c, _, rfl, rfl, ints_dts12 r⟩
theorem en_cells12 {σ : L2.St} {H : Hp} {te : TE} {tl th : TO} {ns : List Int} {m : Nat} (hm : m ≤ 41) (h : Ev K te σ H (.scr ns)) (hl : EvO K tl σ H (some 1)) (hh : EvO K th σ H (some (m : Int))) : ∃ cs : List Int, cs.length ≤ 40 ∧ EvN K (tSl (rSlL K) te tl th) σ H (cs.map D.int) := by
  refine ⟨(ns.drop (min 1 ns.length)).take (min m ns.length - min 1 ns.length), by rw [List.length_take, List.length_drop]; omega, fun H1 a Q q => ?_⟩
  refine h H1 a _ fun v H2 s2 ⟨b, e1, e2⟩ => hl H2 (a.trans s2) _ fun H3 s3 => hh H3 ((a.trans s2).trans s3) _ fun H4 s4 => ?_
  refine ⟨b, ns.map V.int, e1, ((e2.mono s3).mono s4).sql, fun p hp => q p _ _ (((s2.trans s3).trans s4).free hp) (((s2.trans s3).trans s4).trans (Same.new hp)) upd_same ?_⟩
  have e : cutV (ns.map V.int) (some 1) (some (m : Int)) = ((ns.drop (min 1 ns.length)).take (min m ns.length - min 1 ns.length)).map V.int := by
    unfold cutV
    rw [show (some (1 : Int)) = some ((1 : Nat) : Int) from rfl, HT.sIx_nat, HT.sIx_nat, List.length_map, List.map_take, List.map_drop]
  rw [e]
  exact ints_dts12 _
theorem ev_sl23 {σ : L2.St} {H : Hp} {te : TE} {th : TO} {a b c : D} (h : Ev K te σ H (.tup [a, b, c])) (h2 : EvO K th σ H (some 2)) : Ev K (tSl (rSlT K) te tNoPart th) σ H (.tup [a, b]) := fun H1 q0 Q q =>
  h H1 q0 _ fun v H2 s2 ⟨p, vs, e1, e2, v1, r1, er1, d1, v2, r2, er2, d2, v3, r3, er3, d3, d4⟩ => h2 H2 (q0.trans s2) _ fun H3 s3 => by
    have ev : vs = [v1, v2, v3] := by rw [er1, er2, er3, show r3 = [] from d4]
    subst ev
    refine ⟨p, [v1, v2, v3], e1, SqT.of (s3 _ _ e2), fun z => absurd z.2 (show ¬ HT.sIx 3 3 (some 2) = 3 by decide), fun k hk => q _ _ ((s2.trans s3).trans (Same.new hk)) ⟨k, [v1, v2], rfl, by rw [upd_same]; rfl, v1, _, rfl, Dt.mono (s3.trans (Same.new hk)) _ d1, v2, [], rfl, Dt.mono (s3.trans (Same.new hk)) _ d2, rfl⟩⟩
theorem ev_mk12 {σ : L2.St} {H : Hp} {C : Addr} {E : XK} : EvP (tMake C (SpInit C) [] E tNil) σ H fun v H' => ∃ p l, v = .ref p ∧ H p = none ∧ H l = none ∧ p ≠ l ∧ TrAt K C H' p l none [] := fun H1 s1 Q q => by
  intro x dx nx ndx ne
  refine ⟨x, dx, rfl, upd_same, fun H2 l hl hk hp hL => ⟨rfl, ?_⟩⟩
  have hx : H x = none := s1.free nx
  have npl : x ≠ l := fun z => by rw [← z, upd_same] at hl; cases hl
  have hl1 : H1 l = none := by
    rw [upd_ne npl.symm] at hl
    by_cases q : l = dx
    · rw [q]; exact ndx
    · rw [upd_ne q] at hl; exact hl
  refine q _ _ (fun b o e => ?_) ⟨x, l, rfl, hx, s1.free hl1, npl, dx, .non, [], hp, rfl, hL, rfl⟩
  have nb : b ≠ x := ne_of_none e nx
  refine hk b o nb ?_
  rw [upd_ne nb, upd_ne (ne_of_none e ndx)]
  exact e
section
variable {σ : L2.St} {H HH H' : Hp} {t0 t1 t2 t3 t4 te ta tsl : TE} {E : Ends} {tu tv : TS} {C p l LP LK a : Addr} {g : OT} {past : List OT} {P : List (Addr × Rows)} {ks : List Rows} {R : Rows} {sl : List (Option D)}
theorem s_forEN {ds : List D} {j1 j2 : Nat} {Inv : Addr → List V → Nat → L2.St → Hp → Prop} (h : EvN K te σ H ds) (p0 : ∀ a vs H1, H a = none → Same H H1 → H1 a = some (.lst vs) → Dts K H1 ds vs → Inv a vs 0 σ H1) (hl : ∀ a vs i σ' H', Inv a vs i σ' H' → SqL K H' a vs)
    (step : ∀ a vs i x σ' H' T (N : L2.St → Hp → Prop), vs[i]? = some x → Inv a vs i σ' H' → H' T = none → (∀ σ2 H2, Inv a vs (i + 1) σ2 H2 → N σ2 H2) → tu { E with nx := N, ct := N, bk := E.nx } ((σ'.set j1 (some (.int (i : Int)))).set j2 (some x)) (upd H' T (.tup [.int (i : Int), x])))
    (done : ∀ a vs σ' H', Inv a vs vs.length σ' H' → E.nx σ' H') : tFor (iEnum K (tCons te tNil)) (gTup K 2 (gCons (gName j1) (gCons (gName j2) gNil))) tu E σ H :=
  h H (Same.refl H) _ fun a vs H1 ha e1 h1 h2 => ⟨a, vs, rfl, SqL.of h1, for_it walk_enum (Inv a vs) (p0 a vs H1 ha e1 h1 h2) (fun i σ' H' _ p => hl a vs i σ' H' p) (fun i x σ' H2 H3 hi p y => by
    obtain ⟨T, v1, v2, rfl, hT, rfl, e1, e2⟩ := y
    rw [← Option.some.inj e1]
    exact ⟨T, _, rfl, SqT.of upd_same, rfl, _, _, rfl, _, _, rfl, rfl, step a vs i v2 σ' H2 T _ e2 p hT fun _ _ q => q⟩) fun σ' H' p => done a vs σ' H' p⟩
theorem q_forEN {ds : List D} {j1 j2 : Nat} {Inv : Addr → List V → Nat → L2.St → Hp → Prop} (h : EvN K te σ H ds) (p0 : ∀ a vs H1, H a = none → Same H H1 → H1 a = some (.lst vs) → Dts K H1 ds vs → Inv a vs 0 σ H1) (hl : ∀ a vs i σ' H', Inv a vs i σ' H' → SqL K H' a vs)
    (step : ∀ a vs i x σ' H' T (N : L2.St → Hp → Prop), vs[i]? = some x → Inv a vs i σ' H' → H' T = none → (∀ σ2 H2, Inv a vs (i + 1) σ2 H2 → N σ2 H2) → tu { E with nx := N, ct := N, bk := tv E } ((σ'.set j1 (some (.int (i : Int)))).set j2 (some x)) (upd H' T (.tup [.int (i : Int), x])))
    (done : ∀ a vs σ' H', Inv a vs vs.length σ' H' → tv E σ' H') : tSeq (tFor (iEnum K (tCons te tNil)) (gTup K 2 (gCons (gName j1) (gCons (gName j2) gNil))) tu) tv E σ H := s_forEN (E := { E with nx := tv E }) h p0 hl step done
/-- not alike(tried(..), due[:2]) -/
theorem q_tri {C1 C2 C3 C4 C5 C6 : Addr} {E1 E2 : XK} {way n : Int} {d1 d2 d : D} {b1 b2 : Bool} {v1 v2 : V} {o : TOut} {t : OT} {past' : List OT} {w : Tx} {rows : Rows} (h0 : Ev K t0 σ H (.raw (.ref p))) (hw : Ev K t1 σ H (.int way)) (h1 : Ev K t2 σ H d1) (h2 : Ev K t3 σ H d2) (hn : Ev K t4 σ H (.int n))
    (th1 : ThD d1 b1) (th2 : ThD d2 b2) (hv1 : Dt K H d1 v1) (hv2 : Dt K H d2 v2) (ht : TrAt K C H p l g past) (hz : past.length ≤ 10000) (tok : TrOk g rows) (w0 : 0 ≤ way) (w5 : way ≤ 5) (ho : Otr C1 C2 C3 C4 C5 C6 way g rows past v1 v2 b1 b2 n o)
    (hr : TRes C1 C2 C3 C4 C5 C6 o g past t past' w d) (al : D.al2 4 (.tup [.str w, d])) (hs : ∀ H', Keep2 p l H H' → Ev K tsl σ H' (.tup [.str w, d])) (k : ∀ H', Keep2 p l H H' → TrAt K C H' p l t past' → tv E σ H') :
    tSeq (tIfS (tNot (tB (tCall (Fn K (Ralike2 4)) [] E1 (tCons (tCall (SpTried K C C1 C2 C3 C4 C5 C6) [] E2 (tCons t0 (tCons t1 (tCons t2 (tCons t3 (tCons t4 tNil)))))) (tCons tsl tNil))))) tu tNext) tv E σ H := by
    show tCons t0 (tCons t1 (tCons t2 (tCons t3 (tCons t4 tNil)))) σ H (fun vs H1 => SpTried K C C1 C2 C3 C4 C5 C6 (vs ++ []) H1 (fun v H1 => tsl σ H1 fun y H2 => (Fn K (Ralike2 4)) ([v, y] ++ []) H2 (fun x H1 => ∃ c, x = .bl c ∧ if (!c) = true then tu { E with nx := tv E } σ H1 else tNext { E with nx := tv E } σ H1) E1) E2)
    refine (show EvA K (tCons t0 (tCons t1 (tCons t2 (tCons t3 (tCons t4 tNil))))) σ H [.raw (.ref p), .int way, d1, d2, .int n] from ea_cons h0 (ea_cons hw (ea_cons h1 (ea_cons h2 (ea_cons hn ea_nil))))) H (Same.refl H) _ fun us H3 e3 ⟨u1, r1, g1, k1, u2, r2, g2, k2, u3, r3, g3, k3, u4, r4, g4, k4, u5, r5, g5, k5, g6⟩ => ?_
    have fin : ∀ v H', Keep2 p l H H' → TrAt K C H' p l t past' → Dt K H' (.tup [.str w, d]) v → tsl σ H' fun y H2 => (Fn K (Ralike2 4)) ([v, y] ++ []) H2 (fun x H1 => ∃ c, x = .bl c ∧ if (!c) = true then tu { E with nx := tv E } σ H1 else tNext { E with nx := tv E } σ H1) E1 := fun v H' k2 t2 hv => hs H' k2 H' (Same.refl H') _ fun y H4 e4 hy =>
      ⟨[.tup [.str w, d], .tup [.str w, d]], .bl true, ⟨v, [y], rfl, Dt.mono e4 _ hv, y, [], rfl, hy, rfl⟩, ⟨_, rfl, al, rfl⟩, fun x H5 e5 hx => ⟨true, hx, k H5 (keep2_same' k2 (e4.trans e5)) ((t2.mono e4).mono e5)⟩⟩
    refine ⟨p, l, g, past, rows, way, d1, d2, b1, b2, n, u3, u4, by rw [g1, g2, g3, g4, g5, g6, show u1 = .ref p from k1, show u2 = .int way from k2, show u5 = .int n from k5]; rfl, k3, k4, th1, th2, ht.mono e3, hz, tok, .inl ⟨w0, w5, o, ?_, ?_⟩⟩
    · rw [thd_val th1 k3 hv1, thd_val th2 k4 hv2]; exact ho
    · rcases hr with ⟨c, rfl, hc, rfl, rfl, rfl⟩ | ⟨rfl, rfl⟩
      · exact ⟨w, hc, fun v H' s hv => fin v H' (fun b o _ _ h => (e3.trans s) _ _ h) (ht.mono (e3.trans s)) hv⟩
      · exact fun v H' k2 t2 hv => fin v H' (same_k2 e3 k2) t2 hv
end
end
end Rt

namespace Rt
open PySem PySem.Spec PyProof.Rows L2
section
variable {P : Program} {w : World} {K : PySem.W.Frag} {mg : Str → Option Value} {base : Heap}
section
variable {σ : L2.St} {H HH H' : Hp} {t0 t1 t2 t3 t4 te ta : TE} {tt : TT} {E : Ends} {tu tv : TS} {C p l LP LK a : Addr} {g : OT} {past : List OT} {P : List (Addr × Rows)} {ks : List Rows} {R : Rows} {sl : List (Option D)}
theorem LW.nA (w : LW K C H HH p l LP LK g past P ks) {o : HO} (h : HH a = some o) : a ∉ [p, l, LP, LK] := fun z => by rw [w.n a z] at h; cases h
theorem q_dueW {i : Nat} {E' : XK} {way n : Int} {d1 d2 : D} {b1 b2 : Bool} (w : LW K C H HH p l LP LK g past P ks) (S : Sl K HH sl σ) (hp : Ev K t0 σ H (.raw (.ref a))) (hw : Ev K t1 σ H (.int way)) (h1 : Ev K t2 σ H d1) (h2 : Ev K t3 σ H d2) (hn : Ev K t4 σ H (.int n)) (ha : HH a = some (.dK (kvR R))) (ok : DOk R) (th1 : ThE d1 b1) (th2 : ThE d2 b2) (w0 : 0 ≤ way)
    (k : ∀ σ' H' HH' a', Same H H' → Same HH HH' → LW K C H' HH' p l LP LK g past P ks → HH' a' = some (.dK (kvR (dueF R way d1 d2 b1 b2 n).2.2)) → Sl K HH' (sl.set i (some (.tup [.str (dueF R way d1 d2 b1 b2 n).1, (dueF R way d1 d2 b1 b2 n).2.1, .raw (.ref a')]))) σ' → tu E σ' H') :
    tSeq (tAsg (tCall (SpDue12 K) [] E' (tCons t0 (tCons t1 (tCons t2 (tCons t3 (tCons t4 tNil)))))) (gName i)) tu E σ H := by
  show tCons t0 (tCons t1 (tCons t2 (tCons t3 (tCons t4 tNil)))) σ H (fun vs H1 => SpDue12 K (vs ++ []) H1 (fun v H1 => tu E (σ.set i (some v)) H1) E')
  refine (show EvA K (tCons t0 (tCons t1 (tCons t2 (tCons t3 (tCons t4 tNil))))) σ H [.raw (.ref a), .int way, d1, d2, .int n] from ea_cons hp (ea_cons hw (ea_cons h1 (ea_cons h2 (ea_cons hn ea_nil))))) H (Same.refl H) _ fun us H3 e3 ⟨u1, r1, g1, k1, u2, r2, g2, k2, u3, r3, g3, k3, u4, r4, g4, k4, u5, r5, g5, k5, g6⟩ => ?_
  refine ⟨a, R, way, d1, d2, b1, b2, n, u3, u4, by rw [g1, g2, g3, g4, g5, g6, show u1 = .ref a from k1, show u2 = .int way from k2, show u5 = .int n from k5]; rfl, e3 _ _ (w.at ha), ok, k3, k4, th1, th2, w0, fun v H' a' s ha' hd hv => ?_⟩
  have e := e3.trans s
  have w' := w.mono e
  have na : a' ∉ [p, l, LP, LK] := by
    rcases ha' with rfl | h
    · exact w.nA ha
    · exact (w.mono e3).mut.ne h
  have him : D.imm (.tup [.str (dueF R way d1 d2 b1 b2 n).1, (dueF R way d1 d2 b1 b2 n).2.1, .raw (.ref a')]) = true := by
    refine imms_of fun d hd => ?_
    simp only [List.mem_cons, List.not_mem_nil, or_false] at hd
    rcases hd with rfl | rfl | rfl
    · rfl
    · exact (al_pair (due_fine R way d1 d2 b1 b2 n).1 (due_fine R way d1 d2 b1 b2 n).2).2
    · rfl
  exact k _ H' _ a' e w'.into w'.wide (by rw [hide_at na]; exact hd) ((S.mono w'.into).set i (Dt.tupK w'.mut.tupK _ him hv))
/-- past.append(plain) -/
theorem s_pastA (w : LW K C H HH p l LP LK g past P ks) (S : Sl K HH sl σ) (ho : Ev K ta σ H (.raw (.ref LP))) (ha : Ev K te σ H (.raw (.ref a))) (hd : HH a = some (.dK (kvR R))) (hz : P.length ≤ 1000) (k : ∀ H', LW K C H' HH p l LP LK g past (P ++ [(a, R)]) ks → E.nx σ H') : tDrop (tBM K "list" rAppend ta (tCons te tNil)) E σ H :=
  q_appP (tv := tNext) (E := E) (P := fun v H' => v = .ref a) ho w.lp (by rw [List.length_map]; omega) ha fun v H1 e hv => by
    have w1 := (w.mono e).updP (P' := P ++ [(a, R)]) (fun x hx => by
      rcases List.mem_append.mp hx with hx | hx
      · exact w.pa x hx
      · rw [List.mem_singleton.mp hx]; exact hd)
    rw [List.map_append] at w1
    rw [hv]
    exact k _ w1
/-- due = ("told", None, past.pop()) -/
theorem s_pop {i : Nat} {x : Tx} {a0 : Addr} {R0 : Rows} {P0 : List (Addr × Rows)} (w : LW K C H HH p l LP LK g past (P0 ++ [(a0, R0)]) ks) (hS : Sl K HH sl σ) (ho : Ev K ta σ H (.raw (.ref LP)))
    (k : ∀ σ' H' HH', Same HH HH' → LW K C H' HH' p l LP LK g past P0 ks → Sl K HH' (sl.set i (some (.tup [.str x, .non, .raw (.ref a0)]))) σ' → E.nx σ' H') : tAsg (tTup (tCons (tC (.str (S x))) (tCons (tC .non) (tCons (tBM0 K "list" rPop ta) tNil)))) (gName i) E σ H :=
  ho H (Same.refl H) _ fun z H1 e1 hz => by
    have w1 := w.mono e1
    have h1 := w1.lp
    have e : (P0 ++ [(a0, R0)]).map (fun e => V.ref e.1) = P0.map (fun e => V.ref e.1) ++ [V.ref a0] := by rw [List.map_append]; rfl
    rw [e] at h1
    refine ⟨by rw [show z = .ref LP from hz]; exact .inl ⟨rfl, _, SqL.of h1⟩, LP, _, .ref a0, hz, rfl, h1, by rw [List.length_append]; exact List.getElem?_concat_length, small (by show 3 ≤ 100000; decide), fun t ht0 => ?_⟩
    rw [List.dropLast_concat] at ht0 ⊢
    have w2 := w1.updP (P' := P0) (fun y hy => w1.pa y (List.mem_append_left _ hy))
    generalize upd H1 LP (.lst (P0.map fun e => V.ref e.1)) = H2 at *
    have s3 : Same H2 (upd H2 t (.tup [.str (S x), .non, .ref a0])) := Same.new ht0
    have w3 := w2.mono s3
    have nt := w2.mut.ne ht0
    exact k _ _ _ w3.into w3.wide ((hS.mono w3.into).set i (d := .tup [.str x, .non, .raw (.ref a0)]) (v := .ref t) ⟨t, _, rfl, by rw [hide_at nt]; exact upd_same, _, _, rfl, rfl, _, _, rfl, rfl, _, _, rfl, rfl, rfl⟩)
theorem s_tells12 {E1 : XK} {d : D} {b : Bool} (w : LW K C H HH p l LP LK g past P ks) (h0 : Ev K t0 σ H (.raw (.ref p))) (h1 : Ev K t1 σ H d) (h2 : Ev K t2 σ H (.raw (.ref a))) (h3 : Ev K t3 σ H (.raw (.ref LK))) (ha : HH a = some (.dK (kvR R))) (tok : TrOk g (srtR R)) (ok : DOk R) (hz : past.length ≤ 10000) (hk : ks.length ≤ 1000) (th : ThE d b)
    (hsec : ∀ H' ks', LW K C H' (hide [p, l, LP, LK] H') p l LP LK g past P ks' → Same HH (hide [p, l, LP, LK] H') → EvT K tt σ H' false)
    (k : ∀ H' ks', LW K C H' (hide [p, l, LP, LK] H') p l LP LK g past P ks' → Same HH (hide [p, l, LP, LK] H') → (ks' = ks ∨ ks' = ks ++ [srtR R]) → E.nx σ H') : tIfS (tOr (tNot (tB (tCall (SpTells K C) [] E1 (tCons t0 (tCons t1 (tCons t2 (tCons t3 tNil))))))) tt) tu tNext E σ H := by
  show tCons t0 (tCons t1 (tCons t2 (tCons t3 tNil))) σ H (fun vs H1 => SpTells K C (vs ++ []) H1 (fun x H1 => ∃ c, x = .bl c ∧ if (!c) = true then (if true = true then tu E σ H1 else tNext E σ H1) else tt σ H1 fun b H2 => if b = true then tu E σ H2 else tNext E σ H2) E1)
  refine (show EvA K (tCons t0 (tCons t1 (tCons t2 (tCons t3 tNil)))) σ H [.raw (.ref p), d, .raw (.ref a), .raw (.ref LK)] from ea_cons h0 (ea_cons h1 (ea_cons h2 (ea_cons h3 ea_nil)))) H (Same.refl H) _ fun us H3 e3 ⟨u1, r1, g1, k1, u2, r2, g2, k2, u3, r3, g3, k3, u4, r4, g4, k4, g6⟩ => ?_
  have w3 := w.mono e3
  obtain ⟨vs, hv1, hv2⟩ := w3.lk
  have hvl : vs.length = ks.length := by rw [hv2.len, List.length_map]
  refine ⟨p, l, g, past, R, a, LK, vs, d, b, u2, by rw [g1, g2, g3, g4, g6, show u1 = .ref p from k1, show u3 = .ref a from k3, show u4 = .ref LK from k4]; rfl, w3.tr, hz, tok, ok, w3.at ha, hv1, by omega, w.nKl, th, k2, fun H' s hc => ?_⟩
  obtain ⟨ks', w', sb, hks⟩ : ∃ ks', LW K C H' (hide [p, l, LP, LK] H') p l LP LK g past P ks' ∧ Same HH (hide [p, l, LP, LK] H') ∧ (ks' = ks ∨ ks' = ks ++ [srtR R]) := by
    have s1 : Same HH H' := fun b o h => s _ _ (by rw [hide1_at (ne_of_none h (w.n LK (by simp)))]; exact w3.sub _ _ h)
    have sb := into_hide s1 w.n
    rcases hc with hc | ⟨t, q1, q2, ws1, ws2, c1, c2, c3, c4, c5, c6, c7, c8, c9⟩
    · exact ⟨ks, w3.told s hc (Dts.mono sb _ hv2), sb, .inl rfl⟩
    · have nt := w3.mut.ne c2
      have n1 := w3.mut.ne c3
      have n2 := w3.mut.ne c4
      have m' : MutA H' [p, l, LP, LK] := fun b hb => by
        by_cases q : b = LK
        · rw [q]; exact .inl ⟨_, c1⟩
        · have hs : ∀ o, H3 b = some o → H' b = some o := fun o h => s _ _ (by rw [hide1_at q]; exact h)
          rcases w3.mut b hb with ⟨x, y⟩ | ⟨x, y, z, h⟩ | ⟨x, y⟩
          · exact .inl ⟨x, hs _ y⟩
          · exact .inr (.inl ⟨x, y, z, hs _ h⟩)
          · exact .inr (.inr ⟨x, hs _ y⟩)
      have ri : D.imms ((srtR R).map rowD) = true := D.imms_map fun _ _ => rfl
      refine ⟨ks ++ [srtR R], w3.told s c1 ?_, sb, .inr rfl⟩
      rw [List.map_append]
      exact Dts.snoc (Dts.mono sb _ hv2) ⟨t, _, rfl, by rw [hide_at nt]; exact c5, _, _, rfl, ⟨q1, ws1, rfl, by rw [hide_at n1]; exact c6, Dts.tupK m'.tupK _ ri c8⟩, _, _, rfl, ⟨q2, ws2, rfl, by rw [hide_at n2]; exact c7, Dts.tupK m'.tupK _ ri c9⟩, rfl⟩
  exact ⟨true, rfl, hsec H' ks' w' sb H' (Same.refl H') _ fun H5 e5 => k H5 ks' (w'.mono e5).wide (sb.trans (w'.mono e5).into) hks⟩
end
theorem q_mk12 {σ : L2.St} {H : Hp} {C : Addr} {E : Ends} {E1 : XK} {tu : TS} {i : Nat} (k : ∀ p l H', Same H H' → H p = none → H l = none → p ≠ l → TrAt K C H' p l none [] → tu E (σ.set i (some (.ref p))) H') : tSeq (tAsg (tMake C (SpInit C) [] E1 tNil) (gName i)) tu E σ H :=
  ev_mk12 (K := K) (σ := σ) (C := C) (E := E1) H (Same.refl H) (fun v H1 => tu E (σ.set i (some v)) H1) fun v H1 e ⟨p, l, hv, n0, m0, d0, t0⟩ => by
    subst hv
    exact k p l H1 e n0 m0 d0 t0
theorem q_begun12 {σ : L2.St} {H HH0 : Hp} {C p l LP LK : Addr} {t0 t1 t2 t3 t4 : TE} {E : Ends} {E1 : XK} {tu : TS} {i : Nat} {sl : List (Option D)} {way more : Int} {w : Tx} (hS : Sl K HH0 sl σ) (s0 : Same HH0 H) (n0 : ∀ b ∈ [p, l, LP, LK], HH0 b = none) (h0 : Ev K t0 σ H (.raw (.ref p))) (h1 : Ev K t1 σ H (.raw (.ref LP))) (h2 : Ev K t2 σ H (.int way)) (h3 : Ev K t3 σ H (.str w)) (h4 : Ev K t4 σ H (.int more))
    (ht : TrAt K C H p l none []) (hLP : H LP = some (.lst [])) (hLK : H LK = some (.lst [])) (nLPl : LP ≠ l) (nLKl : LK ≠ l) (nLL : LP ≠ LK) (hw : w.length = 40) (ho : okT w) (m0 : 0 ≤ more) (m3 : more ≤ 3)
    (k : ∀ σ' H' HH' a g past P R, Same HH0 HH' → LW K C H' HH' p l LP LK g past P [] → HH' a = some (.dK (kvR R)) → TrOk g (srtR R) → DOk R → RelT past P → P.length ≤ 18 → Sl K HH' (sl.set i (some (.raw (.ref a)))) σ' → tu E σ' H') :
    tSeq (tAsg (tCall (SpBegun K C) [] E1 (tCons t0 (tCons t1 (tCons t2 (tCons t3 (tCons t4 tNil)))))) (gName i)) tu E σ H := by
  show tCons t0 (tCons t1 (tCons t2 (tCons t3 (tCons t4 tNil)))) σ H (fun vs H1 => SpBegun K C (vs ++ []) H1 (fun v H1 => tu E (σ.set i (some v)) H1) E1)
  refine (show EvA K (tCons t0 (tCons t1 (tCons t2 (tCons t3 (tCons t4 tNil))))) σ H [.raw (.ref p), .raw (.ref LP), .int way, .str w, .int more] from ea_cons h0 (ea_cons h1 (ea_cons h2 (ea_cons h3 (ea_cons h4 ea_nil))))) H (Same.refl H) _ fun us H3 e3 ⟨u1, r1, g1, k1, u2, r2, g2, k2, u3, r3, g3, k3, u4, r4, g4, k4, u5, r5, g5, k5, g6⟩ => ?_
  refine ⟨p, l, LP, way, w, more, by rw [g1, g2, g3, g4, g5, g6, show u1 = .ref p from k1, show u2 = .ref LP from k2, show u3 = .int way from k3, show u4 = .str (S w) from k4, show u5 = .int more from k5]; rfl, ht.mono e3, e3 _ _ hLP, nLPl, hw, ho, m0, m3, fun H' HH' a g past P R s bw tok ok rel hP => ?_⟩
  have nLKp : LK ≠ p := ht.neX hLK (fun _ _ _ z => by cases z)
  have hK : HH' LK = some (.lst []) := s _ _ (by
    rw [hide_at fun z => ?_]
    · exact e3 _ _ hLK
    · simp only [List.mem_cons, List.not_mem_nil, or_false] at z
      rcases z with z | z | z
      · exact nLKp z
      · exact nLKl z
      · exact nLL z.symm)
  have hK' := bw.sub _ _ hK
  have s0' : Same HH0 H' := ((into_hide (s0.trans e3) (fun b hb => n0 b (by
    simp only [List.mem_cons, List.not_mem_nil, or_false] at hb ⊢
    rcases hb with h | h | h
    · exact .inl h
    · exact .inr (.inl h)
    · exact .inr (.inr (.inl h))))).trans s).trans bw.sub
  have na : ∀ b kv, (b ≠ p ∧ b ≠ l ∧ b ≠ LP) → H' b = some (.dK kv) → b ∉ [p, l, LP, LK] := fun b kv nb h z => by
    simp only [List.mem_cons, List.not_mem_nil, or_false] at z
    rcases z with z | z | z | z
    · exact nb.1 z
    · exact nb.2.1 z
    · exact nb.2.2 z
    · rw [z, hK'] at h; cases h
  have si := into_hide s0' n0
  refine k _ H' (hide [p, l, LP, LK] H') a g past P R si ⟨hide_same, fun b hb => hide_none hb, bw.tr, bw.lp, ⟨[], hK', rfl⟩, fun e he => ?_, nLPl, nLKl, nLL⟩ ?_ tok ok rel hP ((hS.mono si).set i (d := .raw (.ref a)) (v := .ref a) rfl)
  · have h := bw.pa e he
    rw [hide_at (na e.1 _ ⟨fun z => ?_, fun z => ?_, fun z => ?_⟩ (bw.sub _ _ h))]
    · exact bw.sub _ _ h
    · rw [z, bw.n p (by simp)] at h; cases h
    · rw [z, bw.n l (by simp)] at h; cases h
    · rw [z, bw.n LP (by simp)] at h; cases h
  · rw [hide_at (na a _ ⟨bw.nap, bw.nal, bw.naL⟩ bw.dic)]
    exact bw.dic
theorem LW.keep {H H' HH : Hp} {C p l LP LK : Addr} {g : OT} {past : List OT} {P : List (Addr × Rows)} {ks : List Rows} (w : LW K C H HH p l LP LK g past P ks) (k : Keep2 p l H H') : Same HH H' := fun b o h => k b o (ne_of_none h (w.n p (by simp))) (ne_of_none h (w.n l (by simp))) (w.sub b o h)
theorem RelT.inv {past : List OT} {P0 : List (Addr × Rows)} {a0 : Addr} {R0 : Rows} (h : RelT past (P0 ++ [(a0, R0)])) : ∃ past0 t0, past = past0 ++ [t0] ∧ RelT past0 P0 ∧ TrOk t0 (srtR R0) ∧ DOk R0 := by
  obtain ⟨T, e1, e2, h⟩ := h
  rcases List.eq_nil_or_concat T with rfl | ⟨T0, e, rfl⟩
  · have := congrArg List.length e2
    rw [List.length_append] at this
    simp at this
  · rw [List.concat_eq_append] at e1 e2 h
    rw [List.map_append] at e1 e2
    obtain ⟨f1, f2⟩ := List.append_inj' e2 rfl
    have f3 : (a0, R0) = e.2 := (List.cons.inj f2).1
    have h3 := h e (List.mem_append_right _ (List.mem_singleton.mpr rfl))
    rw [← f3] at h3
    exact ⟨T0.map (fun e => e.1), e.1, e1, ⟨T0, rfl, f1, fun x hx => h x (List.mem_append_left _ hx)⟩, h3.1, h3.2⟩
end
end Rt

namespace Rt
open PySem PySem.Spec PyProof.Rows L2
section
variable {P : Program} {w : World} {K : PySem.W.Frag} {mg : Str → Option Value} {base : Heap}
theorem ok_law {CTrail CNoName CNotThere CTooLong CTaken CTooMany CNothingDone : Addr} {f : Addr} {fd : FuncData} (F : L2.Fun K "law" "law" s_law f fd) (BU : Bl mg) (m_MOST_NAMES : ∃ t, mg "MOST_NAMES" = some (.int 100 t)) (x_Trail : TrC K mg CTrail)
    (c__law_cell_at : Cal P w K mg base CX0 1 "_law_cell_at" (Fn K Rcell)) (c__law_word_by : Cal P w K mg base CX0 2 "_law_word_by" (Fn K Rword)) (c__law_alike : ∀ N, N ≤ 290 → Cal P w K mg base CX0 (N + 1) "_law_alike" (Fn K (Ralike2 N)))
    (c_Trail___init__ : MetX P w K mg base CX0 1 CTrail "__init__" (SpInit CTrail)) (c_Trail_size : MetX P w K mg base CX0 46 CTrail "size" (SpSize K CTrail)) (c__law_begun : Cal P w K mg base CX0 48 "_law_begun" (SpBegun K CTrail)) (c__law_first_deeds : Cal P w K mg base CX0 1 "_law_first_deeds" (FnN K Rfirst))
    (c__law_text_by : Cal P w K mg base CX0 3 "_law_text_by" (Fn K Rtext)) (c__law_other_by : Cal P w K mg base CX0 4 "_law_other_by" (Fn K Rother)) (c__law_number_by : Cal P w K mg base CX0 1 "_law_number_by" (Fn K Rnumber)) (c__law_due : Cal P w K mg base CX0 2 "_law_due" (SpDue12 K))
    (c__law_tried : Cal P w K mg base CX0 48 "_law_tried" (SpTried K CTrail CNoName CNotThere CTooLong CTaken CTooMany CNothingDone)) (c__law_tells : Cal P w K mg base CX0 49 "_law_tells" (SpTells K CTrail)) : FnOk P w K mg base CX0 50 f fd ["_law_script"] (Fn K Rlaw) := by
  have c__law_alike := c__law_alike 4 (by decide)
  obtain ⟨tkM, m_MOST_NAMES⟩ := m_MOST_NAMES
  refine ok_fn F sc_law (fun ds d h => by obtain ⟨a, rfl, _⟩ := h; rfl) fun cdv A outer s f H vs ds d hr hR S0 => ?_
  obtain ⟨ns, rfl, hns, rfl⟩ := hR
  refine ⟨_, (pss_cons (ps_set (i := 1) sc_law.nd rfl (Or.inl rfl) (pe_mk c_Trail___init__ hr (by omega) pass0 x_Trail (by rfl))) (pss_cons (ps_set (i := 2) sc_law.nd rfl (Or.inl rfl) (pe_lst pa_nil)) (pss_cons (ps_set (i := 3) sc_law.nd rfl (Or.inl rfl) (pe_lst pa_nil)) (pss_cons (ps_set (i := 4) sc_law.nd rfl (Or.inl rfl) (pe_op op_mod (pe_c c__law_cell_at hr (by omega) (by rfl) (pa_cons (pv 0) (pa_cons pe_int pa_nil))) pe_int)) (pss_cons (ps_set (i := 5) sc_law.nd rfl (Or.inl rfl) (pe_op op_fdiv (pe_c c__law_cell_at hr (by omega) (by rfl) (pa_cons (pv 0) (pa_cons pe_int pa_nil))) pe_int)) (pss_cons (ps_set (i := 6) sc_law.nd rfl (Or.inl rfl) (pe_c c__law_word_by hr (by omega) (by rfl) (pa_cons (pv 5) (pa_cons pe_int pa_nil)))) (pss_cons (ps_set (i := 7) sc_law.nd rfl (Or.inl rfl) (pe_c c__law_begun hr (by omega) (by rfl) (pa_cons (pv 1) (pa_cons (pv 2) (pa_cons (pv 4) (pa_cons (pv 6) (pa_cons (pe_op op_mod (pv 5) pe_int) pa_nil))))))) (pss_cons (ps_set (i := 8) sc_law.nd rfl (Or.inl rfl) (pe_c c__law_first_deeds hr (by omega) (by rfl) (pa_cons (pv 4) (pa_cons (pv 6) pa_nil)))) (pss_cons (ps_set (i := 9) sc_law.nd rfl (Or.inl rfl) (pe_ix ix_list (pe_lst (pa_cons pe_int (pa_cons pe_int pa_nil))) (pe_callTy call_int1 (by rfl) BU.int_ (by decide +kernel) (pa_cons (pe_cmpR op_eq (pv 4) pe_int (nomark _)) pa_nil)) (fun _ _ => rfl))) (pss_cons (ps_for PassesOwn.never rfl (pi_enum (by rfl) BU.enumerate_ (pa_cons (pe_slice sl_list (pv 0) (po_some pe_int) (po_some (pe_op op_add pe_int (pv 9)))) pa_nil)) (pg_tup (by rfl) (pgs_cons (pg_name (i := 10) sc_law.nd rfl (Or.inl rfl)) (pgs_cons (pg_name (i := 11) sc_law.nd rfl (Or.inl rfl)) pgs_nil))) (pss_cons (ps_set (i := 12) sc_law.nd rfl (Or.inl rfl) (pe_callB (call_sortedDA (by rfl)) (by rfl) BU.sorted_ (by decide +kernel) (pa_cons (pv 7) pa_nil))) (pss_cons (ps_set (i := 13) sc_law.nd rfl (Or.inl rfl) (pe_ix ix_list (pe_lst (pa_cons pe_int (pa_cons pe_int (pa_cons pe_int (pa_cons pe_int (pa_cons pe_int (pa_cons pe_int (pa_cons pe_int (pa_cons pe_int (pa_cons pe_int (pa_cons pe_int pa_nil))))))))))) (pe_op op_mod (pv 11) pe_int) (fun _ _ => rfl))) (pss_cons (ps_set (i := 14) sc_law.nd rfl (Or.inl rfl) (pe_c c__law_text_by hr (by omega) (by rfl) (pa_cons (pe_op op_fdiv (pv 11) pe_int) (pa_cons (pv 12) pa_nil)))) (pss_cons (ps_set (i := 15) sc_law.nd rfl (Or.inl rfl) (pe_c c__law_other_by hr (by omega) (by rfl) (pa_cons (pv 11) (pa_cons (pv 12) pa_nil)))) (pss_cons (ps_set (i := 16) sc_law.nd rfl (Or.inl rfl) (pe_c c__law_number_by hr (by omega) (by rfl) (pa_cons (pe_op op_fdiv (pv 11) pe_int) pa_nil))) (pss_cons (ps_if (pt_cmpR op_lt (pv 10) (pe_callB call_len_seq (by rfl) BU.len_ PySem.boot_len (pa_cons (pv 8) pa_nil)) (nomark _)) (pss_one (ps_asg (pe_ix ix_list (pv 8) (pv 10) (fun _ _ => rfl)) (pg_tup (by rfl) (pgs_cons (pg_name (i := 13) sc_law.nd rfl (Or.inl rfl)) (pgs_cons (pg_name (i := 14) sc_law.nd rfl (Or.inl rfl)) (pgs_cons (pg_name (i := 15) sc_law.nd rfl (Or.inl rfl)) pgs_nil)))))) pss_nil) (pss_cons (ps_if (PW.pt (pw_and (pt_cmp (pc_dinN (hu_of hr) (pv 14) (pv 7))) (pw_and1 (PW.pt (pw_or (pt_cmpR op_lt (pv 10) (pe_callB call_len_seq (by rfl) BU.len_ PySem.boot_len (pa_cons (pv 8) pa_nil)) (nomark _)) (pw_or1 (pt_cmpR op_eq (pe_op op_mod (pe_op op_fdiv (pv 11) pe_int) pe_int) pe_int (nomark _)))))))) (pss_one (ps_set (i := 16) sc_law.nd rfl (Or.inl rfl) (pe_dget (hu_of hr) (pv 7) (pv 14) (fun _ _ => rfl)))) pss_nil) (pss_cons (ps_set (i := 17) sc_law.nd rfl (Or.inl rfl) (pe_c c__law_due hr (by omega) (by rfl) (pa_cons (pv 7) (pa_cons (pv 13) (pa_cons (pv 14) (pa_cons (pv 15) (pa_cons (pv 16) pa_nil))))))) (pss_cons (ps_if (pt_cmpR op_eq (pv 13) pe_int (nomark _)) (pss_cons (ps_set (i := 17) sc_law.nd rfl (Or.inl rfl) (pe_tup (pa_cons pe_str (pa_cons pe_bl (pa_cons (pv 7) pa_nil))))) (pss_one (ps_if (pt_cmpR (op_neNil hr.units) (pv 2) (pe_lst pa_nil) (nomark _)) (pss_one (ps_set (i := 17) sc_law.nd rfl (Or.inl rfl) (pe_tup (pa_cons pe_str (pa_cons pe_non (pa_cons (pe_bm0 PySem.F.plainAttrs_list PySem.F.slot_list_pop PySem.F.type_list_pop mt_pop (pv 2)) pa_nil)))))) pss_nil))) (pss_one (ps_if (pt_cmpR op_eq (pe_ix ix_tup (pv 17) pe_int (fun _ _ => rfl)) pe_str (nomark _)) (pss_one (ps_expr (pe_bm PySem.F.plainAttrs_list PySem.F.slot_list_append PySem.F.type_list_append mt_append (pv 2) (pa_cons (pv 7) pa_nil)))) pss_nil))) (pss_cons (ps_if (pt_not (pt_val (pe_c c__law_alike hr (by omega) (by rfl) (pa_cons (pe_c c__law_tried hr (by omega) (by rfl) (pa_cons (pv 1) (pa_cons (pv 13) (pa_cons (pv 14) (pa_cons (pv 15) (pa_cons (pv 16) pa_nil)))))) (pa_cons (pe_slice sl_tup (pv 17) po_none (po_some pe_int)) pa_nil))))) (pss_one (ps_ret pe_bl)) pss_nil) (pss_cons (ps_set (i := 7) sc_law.nd rfl (Or.inl rfl) (pe_ix ix_tup (pv 17) pe_int (fun _ _ => rfl))) (pss_cons (ps_set (i := 18) sc_law.nd rfl (Or.inl rfl) (pe_c c__law_text_by hr (by omega) (by rfl) (pa_cons (pe_op op_mod (pe_op op_mul (pv 11) pe_int) pe_int) (pa_cons (pe_callB (call_sortedDA (by rfl)) (by rfl) BU.sorted_ (by decide +kernel) (pa_cons (pv 7) pa_nil)) pa_nil)))) (pss_cons (ps_if (PW.pt (pw_and (pt_cmpR op_eq (pe_op op_mod (pe_op op_fdiv (pv 11) pe_int) pe_int) pe_int (nomark _)) (pw_and1 (pt_not (pt_val (pe_c c__law_alike hr (by omega) (by rfl) (pa_cons (pe_mt0 c_Trail_size x_Trail.cl hr (by omega) pass0 (pv 1)) (pa_cons (pe_callB call_lenD (by rfl) BU.len_ PySem.boot_len (pa_cons (pv 7) pa_nil)) pa_nil)))))))) (pss_one (ps_ret pe_bl)) pss_nil) (pss_one (ps_if (PW.pt (pw_or (pt_not (pt_val (pe_c c__law_tells hr (by omega) (by rfl) (pa_cons (pv 1) (pa_cons (pv 18) (pa_cons (pv 7) (pa_cons (pv 3) pa_nil))))))) (pw_or1 (pt_not (pt_val (pe_c c__law_alike hr (by omega) (by rfl) (pa_cons (pe_mt0 c_Trail_size x_Trail.cl hr (by omega) pass0 (pv 1)) (pa_cons (pe_callB call_lenD (by rfl) BU.len_ PySem.boot_len (pa_cons (pv 7) pa_nil)) pa_nil)))))))) (pss_one (ps_ret pe_bl)) pss_nil)))))))))))))))) (pss_one (ps_ret (pe_and (pe_cmpR op_eq (pe_glob (v := .int 100) (by rfl) m_MOST_NAMES ⟨_, rfl⟩) pe_int (nomark _)) (pe_one (pe_cmpR (op_eqD hr.units) (pe_lc (own := [("_law_pair", 19)]) (g := gName 19) (by rfl) sc_law.nd (pi_list (pv 3)) (blkOk_by (own := [("_law_pair", 19)]) (N := N_law) (sc := defScope s_law) (by decide +kernel)) (fun _ _ _ _ _ => pg_name (i := 19) sc_law.nd rfl (Or.inl rfl)) (fun _ _ _ _ _ => (pts_one (pt_not (pt_val (pe_c c__law_alike hr (by omega) (by rfl) (pa_cons (pe_ix (r := rIxT K) ix_tup (pv 19) pe_int (fun _ _ => rfl)) (pa_cons (pe_ix (r := rIxT K) ix_tup (pv 19) pe_int (fun _ _ => rfl)) pa_nil))))))) (fun _ _ _ _ _ => (pv 19))) (pe_lst pa_nil) (nomark _)))))))))))))))), fun nx Q kn kr => ?_⟩
  try dsimp only [cxOf]
  generalize start _ vs = σ at *
  have S0' : Sl K H [some (.scr ns), none, none, none, none, none, none, none, none, none, none, none, none, none, none, none, none, none, none, none] σ := S0
  refine q_mk12 (K := K) fun p l H1 e1 np0 nl0 npl t1 => ?_
  have S1 := S0'.set 1 (d := .raw (.ref p)) (v := .ref p) rfl
  generalize List.set σ 1 (some (V.ref p)) = σ1 at *
  refine q_asgNs (K := K) (en_lst (ds := []) ea_nil (by decide)) fun LP vs2 H2 hLP e2 hLP2 hd2 => ?_
  obtain rfl : vs2 = [] := hd2
  have S2 := S1.set 2 (d := .raw (.ref LP)) (v := .ref LP) rfl
  generalize List.set σ1 2 (some (V.ref LP)) = σ2 at *
  refine q_asgNs (K := K) (en_lst (ds := []) ea_nil (by decide)) fun LK vs3 H3 hLK e3 hLK3 hd3 => ?_
  obtain rfl : vs3 = [] := hd3
  have S3 := S2.set 3 (d := .raw (.ref LK)) (v := .ref LK) rfl
  generalize List.set σ2 3 (some (V.ref LK)) = σ3 at *
  have S3' : Sl K H [some (.scr ns), some (.raw (.ref p)), some (.raw (.ref LP)), some (.raw (.ref LK)), none, none, none, none, none, none, none, none, none, none, none, none, none, none, none, none] σ3 := S3
  have e03 := (e1.trans e2).trans e3
  have nLP0 := Same.free e1 hLP
  have nLK0 := Same.free (e1.trans e2) hLK
  have hLP3 := e3 _ _ hLP2
  have t3 := (t1.mono e2).mono e3
  have nLL : LP ≠ LK := fun z => by rw [← z, hLP2] at hLK; cases hLK
  obtain ⟨dx, vg, vs1, hp1, _, hl1, _⟩ := t1.ex
  have nLPp : LP ≠ p := fun z => by rw [z, hp1] at hLP; cases hLP
  have nLPl : LP ≠ l := fun z => by rw [z, hl1] at hLP; cases hLP
  have nLKp : LK ≠ p := fun z => by rw [z, e2 _ _ hp1] at hLK; cases hLK
  have nLKl : LK ≠ l := fun z => by rw [z, e2 _ _ hl1] at hLK; cases hLK
  have h0n : ∀ b ∈ [p, l, LP, LK], H b = none := fun b hb => by
    simp only [List.mem_cons, List.not_mem_nil, or_false] at hb
    rcases hb with rfl | rfl | rfl | rfl
    · exact np0
    · exact nl0
    · exact nLP0
    · exact nLK0
  clear S1 S2 S3 S0' S0 hLP hLK e1 e2 e3 t1 hp1 hl1 hLP2
  -- begin, more, word
  have hc0 : ∀ H', Same H H' → Ev K (tCall (Fn K Rcell) [] E0 (tCons (tVar 0) (tCons (tC (.int 0)) tNil))) σ3 H' (.int (ns.getD (Int.toNat 0) 0)) := fun H' e => ev_call (ds := [.scr ns, .int 0]) (ea_cons (ev_var (S3'.mono e) (i := 0) (by rfl)) (ea_cons ev_int ea_nil)) (Rcell_mk (by decide))
  refine q_asgJ S3' (x := ns.getD (Int.toNat 0) 0 % 8) (ev_mod (hc0 H3 e03) ev_int (by decide)) fun σ4 H4 e4 S4 => ?_
  have S4' : Sl K H [some (.scr ns), some (.raw (.ref p)), some (.raw (.ref LP)), some (.raw (.ref LK)), some (.int (ns.getD (Int.toNat 0) 0 % 8)), none, none, none, none, none, none, none, none, none, none, none, none, none, none, none] σ4 := S4
  have e04 := e03.trans e4
  refine q_asgJ S4' (x := ns.getD (Int.toNat 0) 0 / 8) (ev_fdiv (ev_call (ds := [.scr ns, .int 0]) (ea_cons (ev_var (S4'.mono e04) (i := 0) (by rfl)) (ea_cons ev_int ea_nil)) (Rcell_mk (by decide))) ev_int ⟨by decide, by decide⟩) fun σ5 H5 e5 S5 => ?_
  have S5' : Sl K H [some (.scr ns), some (.raw (.ref p)), some (.raw (.ref LP)), some (.raw (.ref LK)), some (.int (ns.getD (Int.toNat 0) 0 % 8)), some (.int (ns.getD (Int.toNat 0) 0 / 8)), none, none, none, none, none, none, none, none, none, none, none, none, none, none] σ5 := S5
  have e05 := e04.trans e5
  refine q_asgS S5' (x := wordL (ns.getD (Int.toNat 0) 0 / 8) (Int.toNat 40)) (ev_call (ds := [.int (ns.getD (Int.toNat 0) 0 / 8), .int 40]) (ea_cons (ev_var (S5'.mono e05) (i := 5) (by rfl)) (ea_cons ev_int ea_nil)) (Rword_mk (by decide) (by decide))) fun σ6 H6 e6 S6 => ?_
  have hwl : (wordL (ns.getD (Int.toNat 0) 0 / 8) (Int.toNat 40)).length = 40 := wordL_len (ns.getD (Int.toNat 0) 0 / 8) (Int.toNat 40)
  have hwo := wordL_ok (ns.getD (Int.toNat 0) 0 / 8) (Int.toNat 40)
  generalize wordL (ns.getD (Int.toNat 0) 0 / 8) (Int.toNat 40) = wd at *
  generalize ns.getD (Int.toNat 0) 0 % 8 = bg at *
  generalize ns.getD (Int.toNat 0) 0 / 8 = mo at *
  have S6' : Sl K H [some (.scr ns), some (.raw (.ref p)), some (.raw (.ref LP)), some (.raw (.ref LK)), some (.int bg), some (.int mo), some (.str wd), none, none, none, none, none, none, none, none, none, none, none, none, none] σ6 := S6
  have e06 := e05.trans e6
  have S6h := S6'.mono e06
  have e36 := (e4.trans e5).trans e6
  clear S3' S4 S4' S5 S5' S6 hc0
  refine q_begun12 (way := bg) (more := mo % 4) (w := wd) S6' e06 h0n (ev_var S6h (i := 1) (by rfl)) (ev_var S6h (i := 2) (by rfl)) (ev_var S6h (i := 4) (by rfl)) (ev_var S6h (i := 6) (by rfl)) (ev_mod (ev_var S6h (i := 5) (by rfl)) ev_int (by decide)) (t3.mono e36) (e36 _ _ hLP3) (e36 _ _ hLK3) nLPl nLKl nLL hwl hwo (by omega) (by omega) fun σ7 H7 HH7 a g past P R s7 w7 ha7 tok7 ok7 rel7 hP7 S7 => ?_
  have S7' : Sl K HH7 [some (.scr ns), some (.raw (.ref p)), some (.raw (.ref LP)), some (.raw (.ref LK)), some (.int bg), some (.int mo), some (.str wd), some (.raw (.ref a)), none, none, none, none, none, none, none, none, none, none, none, none] σ7 := S7
  clear S6' S6h S7 e06 e36 e03 e04 e05 e4 e5 e6 t3 hLP3 hLK3
  have S7h := S7'.mono w7.sub
  refine q_asgLWN w7 S7' (firstT_imm (b := bg) hwl hwo) (en_call (R := Rfirst) (ds := [.int bg, .str wd]) (ea_cons (ev_var S7h (i := 4) (by rfl)) (ea_cons (ev_var S7h (i := 6) (by rfl)) ea_nil)) ⟨bg, wd, rfl, hwl, rfl⟩) fun σ8 H8 HH8 e8 s8 w8 S8 => ?_
  have S8' : Sl K HH8 [some (.scr ns), some (.raw (.ref p)), some (.raw (.ref LP)), some (.raw (.ref LK)), some (.int bg), some (.int mo), some (.str wd), some (.raw (.ref a)), some (.lst ((firstT bg wd).map encF)), none, none, none, none, none, none, none, none, none, none, none] σ8 := S8
  have S8h := S8'.mono w8.sub
  obtain ⟨m, hm, hpk⟩ : ∃ m : Nat, m ≤ 40 ∧ atI [D.int 40, D.int 8] (if decide (bg = 1) then 1 else 0) = some (.int (m : Int)) := by
    cases decide (bg = 1)
    · exact ⟨40, by decide, rfl⟩
    · exact ⟨8, by decide, rfl⟩
  refine q_asgLW w8 S8' (d := .int (m : Int)) rfl (ev_ixL (ev_lst (ds := [.int 40, .int 8]) (ea_cons ev_int (ea_cons ev_int ea_nil)) (by show 2 ≤ 100000; decide)) (ev_int1 (b := decide (bg = 1)) (ev_eqI (ev_var S8h (i := 4) (by rfl)) ev_int)) hpk) fun σ9 H9 HH9 e9 s9 w9 S9 => ?_
  clear hpk
  have S9' : Sl K HH9 [some (.scr ns), some (.raw (.ref p)), some (.raw (.ref LP)), some (.raw (.ref LK)), some (.int bg), some (.int mo), some (.str wd), some (.raw (.ref a)), some (.lst ((firstT bg wd).map encF)), some (.int (m : Int)), none, none, none, none, none, none, none, none, none, none] σ9 := S9
  have S9h := S9'.mono w9.sub
  have ha9 := s9 _ _ (s8 _ _ ha7)
  have s9z := (s7.trans s8).trans s9
  clear S7' S7h S8 S8' S8h S9 w7 w8 e8 e9 s7 s8 s9 ha7
  obtain ⟨cs, hcs, hen⟩ := en_cells12 (m := 1 + m) (by omega) (tl := tPart (tC (.int 1))) (th := tPart (tOp (rI0 fun i j => .int (i + j)) (tC (.int 1)) (tVar 9))) (ev_var S9h (i := 0) (by rfl)) (eo_some ev_int) (eo_some (Ev.to (ev_add ev_int (ev_var S9h (i := 9) (by rfl))) (by rw [Int.natCast_add]; rfl)))
  have hfo := firstT_ok (b := bg) hwl hwo
  generalize firstT bg wd = fs at *
  refine q_forEN (Inv := fun la vs i σ' H' => ∃ HH a g past P R ks, Same HH9 HH ∧ LW K CTrail H' HH p l LP LK g past P ks ∧ HH a = some (.dK (kvR R)) ∧ TrOk g (srtR R) ∧ DOk R ∧ RelT past P ∧ P.length ≤ 18 + i ∧ ks.length ≤ i ∧ (∀ r ∈ ks, (∀ p ∈ r, okT p.1) ∧ r.length ≤ 100) ∧ HH la = some (.lst vs) ∧ vs = cs.map V.int ∧ Sl K HH [none, some (.raw (.ref p)), some (.raw (.ref LP)), some (.raw (.ref LK)), none, none, none, some (.raw (.ref a)), some (.lst (fs.map encF)), none, none, none, none, none, none, none, none, none, none, none] σ')
    hen (fun la vs H10 hla e10 h10 hd10 => ?_) (fun la vs i σ' H' ⟨HH, a, g, past, P, R, ks, _, w, _, _, _, _, _, _, _, h, _⟩ => SqL.of (w.sub _ _ h)) (fun la vs i x σ10 H10 T N hx q hT hN => ?_) (fun la vs σ10 H10 q => ?_)
  · have w10 := w9.mono e10
    have nl10 := w9.mut.ne hla
    exact ⟨_, a, g, past, P, R, [], w10.into, w10.wide, w10.into _ _ ha9, tok7, ok7, rel7, by omega, Nat.le_refl _, fun r hr => (by cases hr), by rw [hide_at nl10]; exact h10, dts_intsV hd10, (S9'.mono w10.into).fit (by exact ⟨rfl, rfl, rfl, rfl, rfl, trivial⟩)⟩
  · obtain ⟨HH, a, g, past, P, R, ks, s, w, ha, tok, ok, rel, hP, hks, kok, hla, rfl, S10⟩ := q
    rw [List.getElem?_map] at hx
    obtain ⟨c, hc, rfl⟩ := Option.map_eq_some_iff.mp hx
    have hi : i < cs.length := (List.getElem?_eq_some_iff.mp hc).1
    have w11 := w.mono (Same.new hT (o := .tup [.int (i : Int), .int c]))
    have S11 := (S10.set 10 (d := .int (i : Int)) (v := .int (i : Int)) rfl).set 11 (d := .int c) (v := .int c) rfl
    generalize List.set (List.set σ10 10 (some (V.int (i : Int)))) 11 (some (V.int c)) = σ11 at *
    generalize upd H10 T (.tup [.int (i : Int), .int c]) = H11 at *
    have S11' : Sl K HH [none, some (.raw (.ref p)), some (.raw (.ref LP)), some (.raw (.ref LK)), none, none, none, some (.raw (.ref a)), some (.lst (fs.map encF)), none, some (.int (i : Int)), some (.int c), none, none, none, none, none, none, none, none] σ11 := S11
    have S11h := S11'.mono w11.sub
    have hhd := tok.held
    have hcn := ok.cnt
    have hpl := rel.len
    refine q_asgLWN w11 S11' (D.imms_map fun _ _ => rfl) (en_dsort (ev_var S11h (i := 7) (by rfl)) (.inl (w11.at ha)) (by omega) (nms_perm R) (srt_lt ok.dis)) fun σ12 H12 HH12 e12 s12 w12 S12 => ?_
    have S12' : Sl K HH12 [none, some (.raw (.ref p)), some (.raw (.ref LP)), some (.raw (.ref LK)), none, none, none, some (.raw (.ref a)), some (.lst (fs.map encF)), none, some (.int (i : Int)), some (.int c), some (.lst ((nms (srtR R)).map D.str)), none, none, none, none, none, none, none] σ12 := S12
    have S12h := S12'.mono w12.sub
    refine q_asgLW w12 S12' (d := .int (way12 c)) rfl (ev_ixL (ev_lst (ds := [.int 0, .int 0, .int 0, .int 1, .int 2, .int 3, .int 3, .int 4, .int 4, .int 5]) (ea_cons ev_int (ea_cons ev_int (ea_cons ev_int (ea_cons ev_int (ea_cons ev_int (ea_cons ev_int (ea_cons ev_int (ea_cons ev_int (ea_cons ev_int (ea_cons ev_int ea_nil)))))))))) (by show 10 ≤ 100000; decide)) (ev_mod (ev_var S12h (i := 11) (by rfl)) ev_int (by decide)) (pick10 c)) fun σ13 H13 HH13 e13 s13 w13 S13 => ?_
    have S13' : Sl K HH13 [none, some (.raw (.ref p)), some (.raw (.ref LP)), some (.raw (.ref LK)), none, none, none, some (.raw (.ref a)), some (.lst (fs.map encF)), none, some (.int (i : Int)), some (.int c), some (.lst ((nms (srtR R)).map D.str)), some (.int (way12 c)), none, none, none, none, none, none] σ13 := S13
    have S13h := S13'.mono w13.sub
    obtain ⟨b1, th1⟩ := textD_the (c := c / 10) hhd
    obtain ⟨b2, th2⟩ := otherD_the (c := c) hhd
    refine q_asgLW w13 S13' th1.imm (ev_call (R := Rtext) (ds := [.int (c / 10), .lst ((nms (srtR R)).map D.str)]) (ea_cons (ev_fdiv (ev_var S13h (i := 11) (by rfl)) ev_int ⟨by decide, by decide⟩) (ea_cons (ev_var S13h (i := 12) (by rfl)) ea_nil)) (Rtext_mk hhd)) fun σ14 H14 HH14 e14 s14 w14 S14 => ?_
    have S14' : Sl K HH14 [none, some (.raw (.ref p)), some (.raw (.ref LP)), some (.raw (.ref LK)), none, none, none, some (.raw (.ref a)), some (.lst (fs.map encF)), none, some (.int (i : Int)), some (.int c), some (.lst ((nms (srtR R)).map D.str)), some (.int (way12 c)), some (textD (c / 10) (nms (srtR R))), none, none, none, none, none] σ14 := S14
    have S14h := S14'.mono w14.sub
    refine q_asgLW w14 S14' th2.imm (ev_call (R := Rother) (ds := [.int c, .lst ((nms (srtR R)).map D.str)]) (ea_cons (ev_var S14h (i := 11) (by rfl)) (ea_cons (ev_var S14h (i := 12) (by rfl)) ea_nil)) ⟨_, _, rfl, hhd, rfl⟩) fun σ15 H15 HH15 e15 s15 w15 S15 => ?_
    have S15' : Sl K HH15 [none, some (.raw (.ref p)), some (.raw (.ref LP)), some (.raw (.ref LK)), none, none, none, some (.raw (.ref a)), some (.lst (fs.map encF)), none, some (.int (i : Int)), some (.int c), some (.lst ((nms (srtR R)).map D.str)), some (.int (way12 c)), some (textD (c / 10) (nms (srtR R))), some (otherD c (nms (srtR R))), none, none, none, none] σ15 := S15
    have S15h := S15'.mono w15.sub
    refine q_asgLW w15 S15' (d := .int (numberL (c / 30))) rfl (ev_call (R := Rnumber) (ds := [.int (c / 30)]) (ea_cons (ev_fdiv (ev_var S15h (i := 11) (by rfl)) ev_int ⟨by decide, by decide⟩) ea_nil) ⟨_, rfl, rfl⟩) fun σ16 H16 HH16 e16 s16 w16 S16 => ?_
    have S16' : Sl K HH16 [none, some (.raw (.ref p)), some (.raw (.ref LP)), some (.raw (.ref LK)), none, none, none, some (.raw (.ref a)), some (.lst (fs.map encF)), none, some (.int (i : Int)), some (.int c), some (.lst ((nms (srtR R)).map D.str)), some (.int (way12 c)), some (textD (c / 10) (nms (srtR R))), some (otherD c (nms (srtR R))), some (.int (numberL (c / 30))), none, none, none] σ16 := S16
    have S16h := S16'.mono w16.sub
    have s06 := (((s12.trans s13).trans s14).trans s15).trans s16
    clear S11 S11' S11h S12 S12' S12h S13 S13' S13h S14 S14' S14h S15 S15' S15h S16 w11 w12 w13 w14 w15 e12 e13 e14 e15 e16 s12 s13 s14 s15 s16
    -- a told deed
    refine q_jn (R := fun σ' H' => ∃ HH' way d1 d2 b1 b2, Same HH16 HH' ∧ LW K CTrail H' HH' p l LP LK g past P ks ∧ 0 ≤ way ∧ way ≤ 5 ∧ ThE d1 b1 ∧ ThE d2 b2 ∧ Sl K HH' [none, some (.raw (.ref p)), some (.raw (.ref LP)), some (.raw (.ref LK)), none, none, none, some (.raw (.ref a)), some (.lst (fs.map encF)), none, some (.int (i : Int)), some (.int c), none, some (.int way), some (d1), some (d2), some (.int (numberL (c / 30))), none, none, none] σ') (fun N2 hN2 => ?_) ?_
    · refine s_if (b := decide ((i : Int) < ((fs.map encF).length : Int))) (et_test (ev_lt (ev_var S16h (i := 10) (by rfl)) (ev_lenL (ev_var S16h (i := 8) (by rfl))))) (fun q H17 e17 => ?_) (fun q H17 e17 => ?_)
      · have q' := of_decide_eq_true q
        rw [List.length_map] at q'
        have hif : i < fs.length := by omega
        obtain ⟨f1, f2, ⟨c1, f3⟩, ⟨c2, f4⟩⟩ := hfo.2 fs[i] (List.getElem_mem hif)
        have w17 := w16.mono e17
        have hat : atI (fs.map encF) (i : Int) = some (.tup [.int fs[i].1, fs[i].2.1, fs[i].2.2]) := atI_nat (by rw [List.getElem?_map, List.getElem?_eq_getElem hif]; rfl)
        refine s_asg3 w17 S16' rfl f3.imm f4.imm (ev_ixL (ev_var (S16h.mono e17) (i := 8) (by rfl)) (ev_var (S16h.mono e17) (i := 10) (by rfl)) hat) fun σ18 H18 HH18 e18 s18 w18 S18 => hN2 _ _ ⟨HH18, fs[i].1, fs[i].2.1, fs[i].2.2, c1, c2, s18, w18, f1, by omega, f3, f4, S18.fit (by exact ⟨rfl, rfl, rfl, rfl, rfl, rfl, rfl, rfl, rfl, rfl, rfl, trivial⟩)⟩
      · exact hN2 _ _ ⟨HH16, way12 c, _, _, b1, b2, Same.refl _, w16.mono e17, (way12_in c).1, (way12_in c).2, th1, th2, S16'.fit (by exact ⟨rfl, rfl, rfl, rfl, rfl, rfl, rfl, rfl, rfl, rfl, rfl, trivial⟩)⟩
    clear th1 th2 b1 b2
    rintro σ17 H17 ⟨HH17, way, d1, d2, b1, b2, s17, w17, g0, g5, th1, th2, S17⟩
    have S17h := S17.mono w17.sub
    have ha17 := s17 _ _ (s06 _ _ ha)
    -- its own number
    refine q_jn (R := fun σ' H' => ∃ HH' n, Same HH17 HH' ∧ LW K CTrail H' HH' p l LP LK g past P ks ∧ Sl K HH' [none, some (.raw (.ref p)), some (.raw (.ref LP)), some (.raw (.ref LK)), none, none, none, some (.raw (.ref a)), some (.lst (fs.map encF)), none, some (.int (i : Int)), some (.int c), none, some (.int way), some (d1), some (d2), some (.int n), none, none, none] σ') (fun N2 hN2 => ?_) ?_
    · refine s_if (b := inD R d1 && (decide ((i : Int) < ((fs.map encF).length : Int)) || decide (c / 30 % 2 = 0))) (et_and (et_B (ev_dinD th1.1 (ev_var S17h (i := 14) (by rfl)) (ev_var S17h (i := 7) (by rfl)) (.inl (w17.at ha17)))) fun _ => et_or (et_test (ev_lt (ev_var S17h (i := 10) (by rfl)) (ev_lenL (ev_var S17h (i := 8) (by rfl))))) fun _ => et_test (ev_eqI (ev_mod (ev_fdiv (ev_var S17h (i := 11) (by rfl)) ev_int ⟨by decide, by decide⟩) ev_int (by decide)) ev_int)) (fun q H18 e18 => ?_) (fun q H18 e18 => ?_)
      · obtain ⟨x, n, rfl, hn⟩ := inD_x (Bool.and_eq_true_iff.mp q).1
        have w18 := w17.mono e18
        have S18h := S17h.mono e18
        exact s_asgLW w18 S17 (d := .int n) rfl (ev_dget (ev_var S18h (i := 7) (by rfl)) (ev_var S18h (i := 14) (by rfl)) (.inl (w18.at ha17)) hn) fun σ19 H19 HH19 e19 s19 w19 S19 => hN2 _ _ ⟨HH19, n, s19, w19, S19⟩
      · exact hN2 _ _ ⟨HH17, _, Same.refl _, w17.mono e18, S17⟩
    rintro σ18 H18 ⟨HH18, n, s18, w18, S18⟩
    have S18h := S18.mono w18.sub
    have ha18 := s18 _ _ ha17
    have s08 := (s06.trans s17).trans s18
    clear S16' S16h S17 S17h w16 w17 ha17 s06 s17 s18
    -- what is due
    refine q_dueW w18 S18 (ev_var S18h (i := 7) (by rfl)) (ev_var S18h (i := 13) (by rfl)) (ev_var S18h (i := 14) (by rfl)) (ev_var S18h (i := 15) (by rfl)) (ev_var S18h (i := 16) (by rfl)) ha18 ok th1 th2 g0 fun σ19 H19 HH19 a2 e19 s19 w19 ha2 S19 => ?_
    have S19' : Sl K HH19 [none, some (.raw (.ref p)), some (.raw (.ref LP)), some (.raw (.ref LK)), none, none, none, some (.raw (.ref a)), some (.lst (fs.map encF)), none, some (.int (i : Int)), some (.int c), none, some (.int way), some (d1), some (d2), some (.int n), some (.tup [.str (dueF R way d1 d2 b1 b2 n).1, (dueF R way d1 d2 b1 b2 n).2.1, .raw (.ref a2)]), none, none] σ19 := S19
    have ha19 := s19 _ _ ha18
    have s09 := s08.trans s19
    obtain ⟨v1, _, hv1⟩ := S19'.get (i := 14) (d := d1) rfl
    obtain ⟨v2, _, hv2⟩ := S19'.get (i := 15) (d := d2) rfl
    have hal := al_pair (due_fine R way d1 d2 b1 b2 n).1 (due_fine R way d1 d2 b1 b2 n).2
    clear S18 S18h w18 S19 e19 ha18 s08 s19
    -- the way back, or told
    refine q_jn (R := fun σ' H' => ∃ HH' P' a' R' w_ d_ t_ past' o, Same HH19 HH' ∧ LW K CTrail H' HH' p l LP LK g past P' ks ∧ HH' a' = some (.dK (kvR R')) ∧ DOk R' ∧ TrOk t_ (srtR R') ∧ RelT past' P' ∧ P'.length ≤ P.length + 1 ∧ D.al2 4 (.tup [.str w_, d_]) ∧ Otr CNoName CNotThere CTooLong CTaken CTooMany CNothingDone way g (srtR R) past v1 v2 b1 b2 n o ∧ TRes CNoName CNotThere CTooLong CTaken CTooMany CNothingDone o g past t_ past' w_ d_ ∧ Sl K HH' [none, some (.raw (.ref p)), some (.raw (.ref LP)), some (.raw (.ref LK)), none, none, none, some (.raw (.ref a)), some (.lst (fs.map encF)), none, some (.int (i : Int)), some (.int c), none, some (.int way), some (d1), some (d2), some (.int n), some (.tup [.str w_, d_, .raw (.ref a')]), none, none] σ') (fun N2 hN2 => ?_) ?_
    · refine s_if (b := decide (way = 5)) (et_test (ev_eqI (ev_var (S19'.mono w19.sub) (i := 13) (by rfl)) ev_int)) (fun q H20 e20 => ?_) (fun q H20 e20 => ?_)
      · obtain rfl : way = 5 := of_decide_eq_true q
        have w20 := w19.mono e20
        refine q_asgLW w20 S19' (d := .tup [.str (tx "nothing done"), .bl true, .raw (.ref a)]) rfl (ev_tup (ea_cons (Ev.to ev_str rfl) (ea_cons ev_bl (ea_cons (ev_var (S19'.mono w20.sub) (i := 7) (by rfl)) ea_nil))) (by show 3 ≤ 100000; decide)) fun σ21 H21 HH21 e21 s21 w21 S21 => ?_
        have S21' : Sl K HH21 [none, some (.raw (.ref p)), some (.raw (.ref LP)), some (.raw (.ref LK)), none, none, none, some (.raw (.ref a)), some (.lst (fs.map encF)), none, some (.int (i : Int)), some (.int c), none, some (.int 5), some (d1), some (d2), some (.int n), some (.tup [.str (tx "nothing done"), .bl true, .raw (.ref a)]), none, none] σ21 := S21
        refine s_if (b := !(P.map fun e => V.ref e.1).isEmpty) (et_test (ev_neNilA (ev_var (S21'.mono w21.sub) (i := 2) (by rfl)) w21.lp)) (fun q1 H22 e22 => ?_) (fun q1 H22 e22 => ?_)
        · rcases List.eq_nil_or_concat P with rfl | ⟨P0, ⟨a0, R0⟩, hP0⟩
          · cases q1
          rw [List.concat_eq_append] at hP0
          subst hP0
          have w22 := w21.mono e22
          obtain ⟨past0, t0, rfl, rel0, tok0, ok0⟩ := rel.inv
          have ha0 := w22.pa (a0, R0) (List.mem_append_right _ (List.mem_singleton.mpr rfl))
          refine s_pop (x := tx "told") w22 S21' (ev_var (S21'.mono w22.sub) (i := 2) (by rfl)) fun σ23 H23 HH23 s23 w23 S23 => hN2 _ _ ⟨HH23, P0, a0, R0, tx "told", .non, t0, past0, .did t0 past0 .non, s21.trans s23, w23, s23 _ _ ha0, ok0, tok0, rel0, by rw [List.length_append]; omega, (al_pair (by decide +kernel) (.inr (.inl rfl))).1, ⟨fun z => absurd z (by decide), fun z => absurd z (by decide), fun z => absurd z (by decide), fun z => absurd z (by decide), fun z => absurd z (by decide), fun _ => ⟨fun z => absurd z (by simp), fun r t z => by
            obtain ⟨z1, z2⟩ := List.append_inj' z rfl
            rw [z1, (List.cons.inj z2).1]⟩⟩, .inr ⟨rfl, rfl⟩, S23⟩
        · rcases List.eq_nil_or_concat P with rfl | ⟨P0, e0, hP0⟩
          rotate_left
          · rw [hP0, List.concat_eq_append, List.map_append] at q1
            simp at q1
          have hp0 : past = [] := List.length_eq_zero_iff.mp (by rw [hpl]; rfl)
          subst hp0
          exact hN2 _ _ ⟨HH21, [], a, R, tx "nothing done", .bl true, g, [], .err CNothingDone, s21, w21.mono e22, s21 _ _ ha19, ok, tok, rel, Nat.le_succ _, (al_pair (by decide +kernel) (.inl rfl)).1, ⟨fun z => absurd z (by decide), fun z => absurd z (by decide), fun z => absurd z (by decide), fun z => absurd z (by decide), fun z => absurd z (by decide), fun _ => ⟨fun _ => rfl, fun r t z => absurd z (by simp)⟩⟩, .inl ⟨_, rfl, .inr (.inr (.inr (.inr (.inr ⟨rfl, rfl⟩)))), rfl, rfl, rfl⟩, S21'⟩
      · have q' := of_decide_eq_false q
        have w20 := w19.mono e20
        have S20h := S19'.mono w20.sub
        obtain ⟨u, hu, hm⟩ := due_all (C1 := CNoName) (C2 := CNotThere) (C3 := CTooLong) (C4 := CTaken) (C5 := CTooMany) (C6 := CNothingDone) (n := n) ok tok th1 th2 hv1 hv2 g0 (by omega) past
        refine s_if (b := decide ((dueF R way d1 d2 b1 b2 n).1 = tx "told")) (et_test (ev_eqS (a := (dueF R way d1 d2 b1 b2 n).1) (b := tx "told") (ev_ixT (i := 0) (ev_var S20h (i := 17) (by rfl)) ev_int (by rfl)) (Ev.to ev_str rfl))) (fun q1 H21 e21 => ?_) (fun q1 H21 e21 => ?_)
        · have q1' := of_decide_eq_true q1
          have w21 := w20.mono e21
          rcases hm with ⟨c1, _, hc1, _, _⟩ | ⟨t1, rfl, _, tok1, ok1⟩
          · exact absurd q1' (word_told hc1)
          · have S21h := S19'.mono w21.sub
            refine s_pastA w21 S19' (ev_var S21h (i := 2) (by rfl)) (ev_var S21h (i := 7) (by rfl)) ha19 (by omega) fun H22 w22 => hN2 _ _ ⟨HH19, _, a2, _, _, _, t1, past ++ [g], _, Same.refl _, w22, ha2, ok1, tok1, rel.snoc tok ok, by rw [List.length_append]; exact Nat.le_refl _, hal.1, hu, .inr ⟨rfl, q1'⟩, S19'⟩
        · have q1' := of_decide_eq_false q1
          have w21 := w20.mono e21
          rcases hm with ⟨c1, rfl, hc1, hd1, hR1⟩ | ⟨t1, _, h1, _⟩
          · exact hN2 _ _ ⟨HH19, P, a2, (dueF R way d1 d2 b1 b2 n).2.2, _, _, g, past, _, Same.refl _, w21, ha2, by rw [hR1]; exact ok, by rw [hR1]; exact tok, rel, Nat.le_succ _, hal.1, hu, .inl ⟨c1, rfl, hc1, hd1, rfl, rfl⟩, S19'⟩
          · exact absurd h1 q1'
    rintro σ20 H20 ⟨HH20, P', a', R', w_, d_, t_, past', o, s20, w20, ha20, ok', tok', rel', hP', al, ho, hr, S20⟩
    have S20h := S20.mono w20.sub
    have s010 := s09.trans s20
    have hs20 := s20.trans w20.sub
    have hpl' := rel'.len
    have hla20 := s010 _ _ hla
    -- the deed
    refine q_tri (ev_var S20h (i := 1) (by rfl)) (ev_var S20h (i := 13) (by rfl)) (ev_var S20h (i := 14) (by rfl)) (ev_var S20h (i := 15) (by rfl)) (ev_var S20h (i := 16) (by rfl)) th1.1 th2.1 (Dt.mono hs20 _ hv1) (Dt.mono hs20 _ hv2) w20.tr (by omega) tok g0 g5 ho hr al (fun H' k2 => ev_sl23 (ev_var (S20.mono (w20.keep k2)) (i := 17) (by rfl)) (eo_some ev_int)) fun H21 k21 t21 => ?_
    have w21 := w20.deed k21 t21
    refine q_asgLW w21 S20 (d := .raw (.ref a')) rfl (ev_ixT (i := 2) (ev_var (S20.mono w21.sub) (i := 17) (by rfl)) ev_int (by rfl)) fun σ22 H22 HH22 e22 s22 w22 S22 => ?_
    have S22' : Sl K HH22 [none, some (.raw (.ref p)), some (.raw (.ref LP)), some (.raw (.ref LK)), none, none, none, some (.raw (.ref a')), some (.lst (fs.map encF)), none, some (.int (i : Int)), some (.int c), none, some (.int way), some (d1), some (d2), some (.int n), some (.tup [.str w_, d_, .raw (.ref a')]), none, none] σ22 := S22
    have S22h := S22'.mono w22.sub
    have ha22 := s22 _ _ ha20
    have hhd' := tok'.held
    have hcn' := ok'.cnt
    obtain ⟨b3, th3⟩ := textD_the (c := c * 40692 % 2147483399) hhd'
    refine q_asgLW w22 S22' th3.imm (ev_call (R := Rtext) (ds := [.int (c * 40692 % 2147483399), .lst ((nms (srtR R')).map D.str)]) (ea_cons (ev_mod (ev_mul (ev_var S22h (i := 11) (by rfl)) ev_int (.inr ⟨by decide, by decide⟩)) ev_int (by decide)) (ea_cons (en_dsort (ev_var S22h (i := 7) (by rfl)) (.inl (w22.at ha22)) (by omega) (nms_perm R') (srt_lt ok'.dis)).ev ea_nil)) (Rtext_mk hhd')) fun σ23 H23 HH23 e23 s23 w23 S23 => ?_
    have S23' : Sl K HH23 [none, some (.raw (.ref p)), some (.raw (.ref LP)), some (.raw (.ref LK)), none, none, none, some (.raw (.ref a')), some (.lst (fs.map encF)), none, some (.int (i : Int)), some (.int c), none, some (.int way), some (d1), some (d2), some (.int n), some (.tup [.str w_, d_, .raw (.ref a')]), some (textD (c * 40692 % 2147483399) (nms (srtR R'))), none] σ23 := S23
    have ha23 := s23 _ _ ha22
    have hlen : (srtR R').length = R'.length := (srtR_perm R').length_eq
    have hsz : ∀ H' ks' HH', Same HH23 HH' → LW K CTrail H' HH' p l LP LK t_ past' P' ks' → Ev K _ σ23 H' (.bl true) := fun H' ks' HH' sb w' => ev_call (R := Ralike2 4) (E := E0) (ds := [.int (R'.length : Int), .int (R'.length : Int)]) (ea_cons (Ev.to (ev_size (E := E0) (ev_var (S23'.mono (sb.trans w'.sub)) (i := 1) (by rfl)) w'.tr tok') (by rw [hlen])) (ea_cons (ev_dlen (ev_var (S23'.mono (sb.trans w'.sub)) (i := 7) (by rfl)) (w'.at (sb _ _ ha23))) ea_nil)) ⟨_, rfl, trivial, rfl⟩
    have S23h := S23'.mono w23.sub
    refine q_ifF0 (EvT.to (et_and (et_test (ev_eqI (ev_mod (ev_fdiv (ev_var S23h (i := 11) (by rfl)) ev_int ⟨by decide, by decide⟩) ev_int (by decide)) ev_int)) fun _ => et_not (et_B (hsz H23 ks HH23 (Same.refl _) w23))) (by simp)) fun H24 e24 => ?_
    have w24 := w23.mono e24
    have S24h := S23'.mono w24.sub
    refine s_tells12 w24 (ev_var S24h (i := 1) (by rfl)) (ev_var S24h (i := 18) (by rfl)) (ev_var S24h (i := 7) (by rfl)) (ev_var S24h (i := 3) (by rfl)) ha23 tok' ok' (by omega) (by omega) th3 (fun H' ks' w' sb => EvT.to (et_not (et_B (hsz H' ks' _ sb w'))) rfl) fun H25 ks' w25 s25 hks' => ?_
    refine hN _ _ ⟨_, a', t_, past', P', R', ks', (s.trans s010).trans ((s22.trans s23).trans s25), w25, s25 _ _ ha23, tok', ok', rel', by omega, ?_, ?_, s25 _ _ (s23 _ _ (s22 _ _ hla20)), rfl, (S23'.mono s25).fit (by exact ⟨rfl, rfl, rfl, rfl, rfl, trivial⟩)⟩
    · rcases hks' with rfl | rfl
      · omega
      · rw [List.length_append]; exact Nat.succ_le_succ hks
    · rcases hks' with rfl | rfl
      · exact kok
      · intro r hr1
        rcases List.mem_append.mp hr1 with hr1 | hr1
        · exact kok r hr1
        · rw [List.mem_singleton.mp hr1]
          exact ⟨fun p hp => ok'.ok p ((srtR_perm R').mem_iff.mp hp), by omega⟩
  · obtain ⟨HH, a, g, past, P, R, ks, s, w, ha, tok, ok, rel, hP, hks, kok, hla, rfl, S10⟩ := q
    have S10h := S10.mono w.sub
    obtain ⟨vs2, hk1, hk2⟩ := w.lk
    have hkl : ks.length ≤ 40 := by rw [List.length_map] at hks; omega
    have hlc := en_lcL (K := K) (σ := σ10) (H := H10) (tl := tVar 3) (te := tVar 19) (j := 19) (α := Rows) (es := ks) (enc := encK) (fun _ => false) encK (tt := tNot (tB (tCall (Fn K (Ralike2 4)) [] E0 (tCons (tOp (rIxT K) (tVar 19) (tC (.int 0))) (tCons (tOp (rIxT K) (tVar 19) (tC (.int 1))) tNil))))) (ev_re (ev_var S10h (i := 3) (by rfl)) (⟨LK, vs2, rfl, hk1, Dts.mono w.sub _ hk2⟩ : Dt K H10 (.lst (ks.map encK)) (.ref LK))) S10h (by omega)
      (fun r hr σ' H' e S' => EvT.to (et_not (et_B (ev_call (R := Ralike2 4) (d := .bl true) (ds := [.lst (r.map rowD), .lst (r.map rowD)]) (ea_cons (ev_ixT (i := 0) (ds := [.lst (r.map rowD), .lst (r.map rowD)]) (ev_var S' (i := 19) (by rfl)) ev_int (by rfl)) (ea_cons (ev_ixT (i := 1) (ds := [.lst (r.map rowD), .lst (r.map rowD)]) (ev_var S' (i := 19) (by rfl)) ev_int (by rfl)) ea_nil)) ⟨_, rfl, D.al2_up _ _ (rows_al2 (kok r hr).1 (by have := (kok r hr).2; omega)), rfl⟩))) rfl) (fun r hr h => by cases h) (fun r hr h => by cases h)
    refine s_ret (d := .bl true) (ev_andT (Ev.to (ev_eqI ev_int ev_int) rfl) (Ev.to (ev_eqNil (n := 1) (EvN.to hlc (es := []) (by rw [List.filter_eq_nil_iff.mpr (fun _ _ => by decide)]; rfl)).ev (fun d hd => (by cases hd)) (by decide)) rfl)) fun v H11 e11 hv => kr v H11 ((s9z.trans s).trans (w.sub.trans e11)) hv
end
end Rt

namespace Rt
open PySem PySem.Spec PyProof.Rows L2
theorem dfn_mk {K : PySem.W.Frag} {h : Heap} {mg : Str → Option Value} {x : Str} {st : Stmt} {ps : List Str} {f : Addr} {oc : Value} {od an : Option Addr} {osl : Array (Option Value)} {kV doc pm cdv ct : Value} (X : K.In h) (G : h.Ns mainGlobals mg)
    (a : PySem.W.nsIn K mainGlobals x = some (some (.ref f))) (l : K.lookup f = some ⟨oc, od, .func (PySem.W.fnOf x x (defArgs st) (defBody st) (defScope st) .none kV doc pm an cdv ct), osl⟩) (c : PySem.W.codeIn K cdv x = true) (k : PySem.W.keepIn K (.ref f) = true)
    (hb : ∀ (kV doc pm : Value) (an : Option Addr) (cdv ct : Value) (us : List Value), us.length = ps.length → bindArgs (PySem.W.fnOf x x (defArgs st) (defBody st) (defScope st) .none kV doc pm an cdv ct) ⟨us, []⟩ = pure (ps.zip us)) : Dfn K mg x st ps :=
  ⟨f, _, fun_mk (st := st) l c k, PySem.W.mg_of X G a, (fun_mk (st := st) l c k).binds hb⟩
theorem all_mk {l : PySem.W.OpenLaw} {w : World} {K : PySem.W.Frag} {h : Heap} {mg : Str → Option Value} {fa : Addr} (X : K.In h) (G : h.Ns mainGlobals mg) (hfa : mg "law" = some (.ref fa))
    {od1 an1 : Option Addr} {sl1 : Array (Option Value)} {oc1 kV1 dc1 pm1 cd1 ct1 : Value} {f1 : Addr}
    {od2 an2 : Option Addr} {sl2 : Array (Option Value)} {oc2 kV2 dc2 pm2 cd2 ct2 : Value} {f2 : Addr}
    {od3 an3 : Option Addr} {sl3 : Array (Option Value)} {oc3 kV3 dc3 pm3 cd3 ct3 : Value} {f3 : Addr}
    {od4 an4 : Option Addr} {sl4 : Array (Option Value)} {oc4 kV4 dc4 pm4 cd4 ct4 : Value} {f4 : Addr}
    {od5 an5 : Option Addr} {sl5 : Array (Option Value)} {oc5 kV5 dc5 pm5 cd5 ct5 : Value} {f5 : Addr}
    {od6 an6 : Option Addr} {sl6 : Array (Option Value)} {oc6 kV6 dc6 pm6 cd6 ct6 : Value} {f6 : Addr}
    {od7 an7 : Option Addr} {sl7 : Array (Option Value)} {oc7 kV7 dc7 pm7 cd7 ct7 : Value} {f7 : Addr}
    {od8 an8 : Option Addr} {sl8 : Array (Option Value)} {oc8 kV8 dc8 pm8 cd8 ct8 : Value} {f8 : Addr}
    {od9 an9 : Option Addr} {sl9 : Array (Option Value)} {oc9 kV9 dc9 pm9 cd9 ct9 : Value} {f9 : Addr}
    {od10 an10 : Option Addr} {sl10 : Array (Option Value)} {oc10 kV10 dc10 pm10 cd10 ct10 : Value} {f10 : Addr}
    {od11 an11 : Option Addr} {sl11 : Array (Option Value)} {oc11 kV11 dc11 pm11 cd11 ct11 : Value} {f11 : Addr}
    {od12 an12 : Option Addr} {sl12 : Array (Option Value)} {oc12 kV12 dc12 pm12 cd12 ct12 : Value} {f12 : Addr}
    {od13 an13 : Option Addr} {sl13 : Array (Option Value)} {oc13 kV13 dc13 pm13 cd13 ct13 : Value} {f13 : Addr}
    {od14 an14 : Option Addr} {sl14 : Array (Option Value)} {oc14 kV14 dc14 pm14 cd14 ct14 : Value} {f14 : Addr}
    {od15 an15 : Option Addr} {sl15 : Array (Option Value)} {oc15 kV15 dc15 pm15 cd15 ct15 : Value} {f15 : Addr}
    {od16 an16 : Option Addr} {sl16 : Array (Option Value)} {oc16 kV16 dc16 pm16 cd16 ct16 : Value} {f16 : Addr}
    {od17 an17 : Option Addr} {sl17 : Array (Option Value)} {oc17 kV17 dc17 pm17 cd17 ct17 : Value} {f17 : Addr}
    {od18 an18 : Option Addr} {sl18 : Array (Option Value)} {oc18 kV18 dc18 pm18 cd18 ct18 : Value} {f18 : Addr}
    {od19 an19 : Option Addr} {sl19 : Array (Option Value)} {oc19 kV19 dc19 pm19 cd19 ct19 : Value} {f19 : Addr}
    {od20 an20 : Option Addr} {sl20 : Array (Option Value)} {oc20 kV20 dc20 pm20 cd20 ct20 : Value} {f20 : Addr}
    {od21 an21 : Option Addr} {sl21 : Array (Option Value)} {oc21 kV21 dc21 pm21 cd21 ct21 : Value} {f21 : Addr}
    {od22 an22 : Option Addr} {sl22 : Array (Option Value)} {oc22 kV22 dc22 pm22 cd22 ct22 : Value} {f22 : Addr}
    {od23 an23 : Option Addr} {sl23 : Array (Option Value)} {oc23 kV23 dc23 pm23 cd23 ct23 : Value} {f23 : Addr}
    {od24 an24 : Option Addr} {sl24 : Array (Option Value)} {oc24 kV24 dc24 pm24 cd24 ct24 : Value} {f24 : Addr}
    {od25 an25 : Option Addr} {sl25 : Array (Option Value)} {oc25 kV25 dc25 pm25 cd25 ct25 : Value} {f25 : Addr}
    {od26 an26 : Option Addr} {sl26 : Array (Option Value)} {oc26 kV26 dc26 pm26 cd26 ct26 : Value} {f26 : Addr}
    {od27 an27 : Option Addr} {sl27 : Array (Option Value)} {oc27 kV27 dc27 pm27 cd27 ct27 : Value} {f27 : Addr}
    {od28 an28 : Option Addr} {sl28 : Array (Option Value)} {oc28 kV28 dc28 pm28 cd28 ct28 : Value} {f28 : Addr}
    {od29 an29 : Option Addr} {sl29 : Array (Option Value)} {oc29 kV29 dc29 pm29 cd29 ct29 : Value} {f29 : Addr}
    {od30 an30 : Option Addr} {sl30 : Array (Option Value)} {oc30 kV30 dc30 pm30 cd30 ct30 : Value} {f30 : Addr}
    {od31 an31 : Option Addr} {sl31 : Array (Option Value)} {oc31 kV31 dc31 pm31 cd31 ct31 : Value} {f31 : Addr}
    {od32 an32 : Option Addr} {sl32 : Array (Option Value)} {oc32 kV32 dc32 pm32 cd32 ct32 : Value} {f32 : Addr}
    {od33 an33 : Option Addr} {sl33 : Array (Option Value)} {oc33 kV33 dc33 pm33 cd33 ct33 : Value} {f33 : Addr}
    {od34 an34 : Option Addr} {sl34 : Array (Option Value)} {oc34 kV34 dc34 pm34 cd34 ct34 : Value} {f34 : Addr}
    {od35 an35 : Option Addr} {sl35 : Array (Option Value)} {oc35 kV35 dc35 pm35 cd35 ct35 : Value} {f35 : Addr}
    {od36 an36 : Option Addr} {sl36 : Array (Option Value)} {oc36 kV36 dc36 pm36 cd36 ct36 : Value} {f36 : Addr}
    {od37 an37 : Option Addr} {sl37 : Array (Option Value)} {oc37 kV37 dc37 pm37 cd37 ct37 : Value} {f37 : Addr}
    {od38 an38 : Option Addr} {sl38 : Array (Option Value)} {oc38 kV38 dc38 pm38 cd38 ct38 : Value} {f38 : Addr}
    {od39 an39 : Option Addr} {sl39 : Array (Option Value)} {oc39 kV39 dc39 pm39 cd39 ct39 : Value} {f39 : Addr}
    {od40 an40 : Option Addr} {sl40 : Array (Option Value)} {oc40 kV40 dc40 pm40 cd40 ct40 : Value} {f40 : Addr}
    {CTrailError : Addr}
    {CNoName : Addr}
    {CNotThere : Addr}
    {CTaken : Addr}
    {CTooLong : Addr}
    {CTooMany : Addr}
    {CNoNote : Addr}
    {CNothingDone : Addr}
    {CTrail : Addr}
    {od41 an41 : Option Addr} {sl41 : Array (Option Value)} {oc41 kV41 dc41 pm41 cd41 ct41 : Value} {f41 : Addr}
    {od42 an42 : Option Addr} {sl42 : Array (Option Value)} {oc42 kV42 dc42 pm42 cd42 ct42 : Value} {f42 : Addr}
    {od43 an43 : Option Addr} {sl43 : Array (Option Value)} {oc43 kV43 dc43 pm43 cd43 ct43 : Value} {f43 : Addr}
    {od44 an44 : Option Addr} {sl44 : Array (Option Value)} {oc44 kV44 dc44 pm44 cd44 ct44 : Value} {f44 : Addr}
    {od45 an45 : Option Addr} {sl45 : Array (Option Value)} {oc45 kV45 dc45 pm45 cd45 ct45 : Value} {f45 : Addr}
    {od46 an46 : Option Addr} {sl46 : Array (Option Value)} {oc46 kV46 dc46 pm46 cd46 ct46 : Value} {f46 : Addr}
    {od47 an47 : Option Addr} {sl47 : Array (Option Value)} {oc47 kV47 dc47 pm47 cd47 ct47 : Value} {f47 : Addr}
    {od48 an48 : Option Addr} {sl48 : Array (Option Value)} {oc48 kV48 dc48 pm48 cd48 ct48 : Value} {f48 : Addr}
    {od49 an49 : Option Addr} {sl49 : Array (Option Value)} {oc49 kV49 dc49 pm49 cd49 ct49 : Value} {f49 : Addr}
    {od50 an50 : Option Addr} {sl50 : Array (Option Value)} {oc50 kV50 dc50 pm50 cd50 ct50 : Value} {f50 : Addr}
    {od51 an51 : Option Addr} {sl51 : Array (Option Value)} {oc51 kV51 dc51 pm51 cd51 ct51 : Value} {f51 : Addr}
    (a1 : PySem.W.nsIn K mainGlobals "is_sign" = some (some (.ref f1))) (l1 : K.lookup f1 = some ⟨oc1, od1, .func (PySem.W.fnOf "is_sign" "is_sign" (defArgs s_is_sign) (defBody s_is_sign) (defScope s_is_sign) .none kV1 dc1 pm1 an1 cd1 ct1), sl1⟩) (c1 : PySem.W.codeIn K cd1 "is_sign" = true) (k1 : PySem.W.keepIn K (.ref f1) = true)
    (a2 : PySem.W.nsIn K mainGlobals "is_name" = some (some (.ref f2))) (l2 : K.lookup f2 = some ⟨oc2, od2, .func (PySem.W.fnOf "is_name" "is_name" (defArgs s_is_name) (defBody s_is_name) (defScope s_is_name) .none kV2 dc2 pm2 an2 cd2 ct2), sl2⟩) (c2 : PySem.W.codeIn K cd2 "is_name" = true) (k2 : PySem.W.keepIn K (.ref f2) = true)
    (a3 : PySem.W.nsIn K mainGlobals "common" = some (some (.ref f3))) (l3 : K.lookup f3 = some ⟨oc3, od3, .func (PySem.W.fnOf "common" "common" (defArgs s_common) (defBody s_common) (defScope s_common) .none kV3 dc3 pm3 an3 cd3 ct3), sl3⟩) (c3 : PySem.W.codeIn K cd3 "common" = true) (k3 : PySem.W.keepIn K (.ref f3) = true)
    (a4 : PySem.W.nsIn K mainGlobals "rest" = some (some (.ref f4))) (l4 : K.lookup f4 = some ⟨oc4, od4, .func (PySem.W.fnOf "rest" "rest" (defArgs s_rest) (defBody s_rest) (defScope s_rest) .none kV4 dc4 pm4 an4 cd4 ct4), sl4⟩) (c4 : PySem.W.codeIn K cd4 "rest" = true) (k4 : PySem.W.keepIn K (.ref f4) = true)
    (a5 : PySem.W.nsIn K mainGlobals "branch_of" = some (some (.ref f5))) (l5 : K.lookup f5 = some ⟨oc5, od5, .func (PySem.W.fnOf "branch_of" "branch_of" (defArgs s_branch_of) (defBody s_branch_of) (defScope s_branch_of) .none kV5 dc5 pm5 an5 cd5 ct5), sl5⟩) (c5 : PySem.W.codeIn K cd5 "branch_of" = true) (k5 : PySem.W.keepIn K (.ref f5) = true)
    (a6 : PySem.W.nsIn K mainGlobals "with_branch" = some (some (.ref f6))) (l6 : K.lookup f6 = some ⟨oc6, od6, .func (PySem.W.fnOf "with_branch" "with_branch" (defArgs s_with_branch) (defBody s_with_branch) (defScope s_with_branch) .none kV6 dc6 pm6 an6 cd6 ct6), sl6⟩) (c6 : PySem.W.codeIn K cd6 "with_branch" = true) (k6 : PySem.W.keepIn K (.ref f6) = true)
    (a7 : PySem.W.nsIn K mainGlobals "knot_of" = some (some (.ref f7))) (l7 : K.lookup f7 = some ⟨oc7, od7, .func (PySem.W.fnOf "knot_of" "knot_of" (defArgs s_knot_of) (defBody s_knot_of) (defScope s_knot_of) .none kV7 dc7 pm7 an7 cd7 ct7), sl7⟩) (c7 : PySem.W.codeIn K cd7 "knot_of" = true) (k7 : PySem.W.keepIn K (.ref f7) = true)
    (a8 : PySem.W.nsIn K mainGlobals "behind" = some (some (.ref f8))) (l8 : K.lookup f8 = some ⟨oc8, od8, .func (PySem.W.fnOf "behind" "behind" (defArgs s_behind) (defBody s_behind) (defScope s_behind) .none kV8 dc8 pm8 an8 cd8 ct8), sl8⟩) (c8 : PySem.W.codeIn K cd8 "behind" = true) (k8 : PySem.W.keepIn K (.ref f8) = true)
    (a9 : PySem.W.nsIn K mainGlobals "found" = some (some (.ref f9))) (l9 : K.lookup f9 = some ⟨oc9, od9, .func (PySem.W.fnOf "found" "found" (defArgs s_found) (defBody s_found) (defScope s_found) .none kV9 dc9 pm9 an9 cd9 ct9), sl9⟩) (c9 : PySem.W.codeIn K cd9 "found" = true) (k9 : PySem.W.keepIn K (.ref f9) = true)
    (a10 : PySem.W.nsIn K mainGlobals "put" = some (some (.ref f10))) (l10 : K.lookup f10 = some ⟨oc10, od10, .func (PySem.W.fnOf "put" "put" (defArgs s_put) (defBody s_put) (defScope s_put) .none kV10 dc10 pm10 an10 cd10 ct10), sl10⟩) (c10 : PySem.W.codeIn K cd10 "put" = true) (k10 : PySem.W.keepIn K (.ref f10) = true)
    (a11 : PySem.W.nsIn K mainGlobals "thinned" = some (some (.ref f11))) (l11 : K.lookup f11 = some ⟨oc11, od11, .func (PySem.W.fnOf "thinned" "thinned" (defArgs s_thinned) (defBody s_thinned) (defScope s_thinned) .none kV11 dc11 pm11 an11 cd11 ct11), sl11⟩) (c11 : PySem.W.codeIn K cd11 "thinned" = true) (k11 : PySem.W.keepIn K (.ref f11) = true)
    (a12 : PySem.W.nsIn K mainGlobals "without" = some (some (.ref f12))) (l12 : K.lookup f12 = some ⟨oc12, od12, .func (PySem.W.fnOf "without" "without" (defArgs s_without) (defBody s_without) (defScope s_without) .none kV12 dc12 pm12 an12 cd12 ct12), sl12⟩) (c12 : PySem.W.codeIn K cd12 "without" = true) (k12 : PySem.W.keepIn K (.ref f12) = true)
    (a13 : PySem.W.nsIn K mainGlobals "ahead" = some (some (.ref f13))) (l13 : K.lookup f13 = some ⟨oc13, od13, .func (PySem.W.fnOf "ahead" "ahead" (defArgs s_ahead) (defBody s_ahead) (defScope s_ahead) .none kV13 dc13 pm13 an13 cd13 ct13), sl13⟩) (c13 : PySem.W.codeIn K cd13 "ahead" = true) (k13 : PySem.W.keepIn K (.ref f13) = true)
    (a14 : PySem.W.nsIn K mainGlobals "names" = some (some (.ref f14))) (l14 : K.lookup f14 = some ⟨oc14, od14, .func (PySem.W.fnOf "names" "names" (defArgs s_names) (defBody s_names) (defScope s_names) .none kV14 dc14 pm14 an14 cd14 ct14), sl14⟩) (c14 : PySem.W.codeIn K cd14 "names" = true) (k14 : PySem.W.keepIn K (.ref f14) = true)
    (a15 : PySem.W.nsIn K mainGlobals "cut" = some (some (.ref f15))) (l15 : K.lookup f15 = some ⟨oc15, od15, .func (PySem.W.fnOf "cut" "cut" (defArgs s_cut) (defBody s_cut) (defScope s_cut) .none kV15 dc15 pm15 an15 cd15 ct15), sl15⟩) (c15 : PySem.W.codeIn K cd15 "cut" = true) (k15 : PySem.W.keepIn K (.ref f15) = true)
    (a16 : PySem.W.nsIn K mainGlobals "branches_behind" = some (some (.ref f16))) (l16 : K.lookup f16 = some ⟨oc16, od16, .func (PySem.W.fnOf "branches_behind" "branches_behind" (defArgs s_branches_behind) (defBody s_branches_behind) (defScope s_branches_behind) .none kV16 dc16 pm16 an16 cd16 ct16), sl16⟩) (c16 : PySem.W.codeIn K cd16 "branches_behind" = true) (k16 : PySem.W.keepIn K (.ref f16) = true)
    (a17 : PySem.W.nsIn K mainGlobals "joined" = some (some (.ref f17))) (l17 : K.lookup f17 = some ⟨oc17, od17, .func (PySem.W.fnOf "joined" "joined" (defArgs s_joined) (defBody s_joined) (defScope s_joined) .none kV17 dc17 pm17 an17 cd17 ct17), sl17⟩) (c17 : PySem.W.codeIn K cd17 "joined" = true) (k17 : PySem.W.keepIn K (.ref f17) = true)
    (a18 : PySem.W.nsIn K mainGlobals "moved" = some (some (.ref f18))) (l18 : K.lookup f18 = some ⟨oc18, od18, .func (PySem.W.fnOf "moved" "moved" (defArgs s_moved) (defBody s_moved) (defScope s_moved) .none kV18 dc18 pm18 an18 cd18 ct18), sl18⟩) (c18 : PySem.W.codeIn K cd18 "moved" = true) (k18 : PySem.W.keepIn K (.ref f18) = true)
    (a19 : PySem.W.nsIn K mainGlobals "copied" = some (some (.ref f19))) (l19 : K.lookup f19 = some ⟨oc19, od19, .func (PySem.W.fnOf "copied" "copied" (defArgs s_copied) (defBody s_copied) (defScope s_copied) .none kV19 dc19 pm19 an19 cd19 ct19), sl19⟩) (c19 : PySem.W.codeIn K cd19 "copied" = true) (k19 : PySem.W.keepIn K (.ref f19) = true)
    (a20 : PySem.W.nsIn K mainGlobals "under" = some (some (.ref f20))) (l20 : K.lookup f20 = some ⟨oc20, od20, .func (PySem.W.fnOf "under" "under" (defArgs s_under) (defBody s_under) (defScope s_under) .none kV20 dc20 pm20 an20 cd20 ct20), sl20⟩) (c20 : PySem.W.codeIn K cd20 "under" = true) (k20 : PySem.W.keepIn K (.ref f20) = true)
    (a21 : PySem.W.nsIn K mainGlobals "many" = some (some (.ref f21))) (l21 : K.lookup f21 = some ⟨oc21, od21, .func (PySem.W.fnOf "many" "many" (defArgs s_many) (defBody s_many) (defScope s_many) .none kV21 dc21 pm21 an21 cd21 ct21), sl21⟩) (c21 : PySem.W.codeIn K cd21 "many" = true) (k21 : PySem.W.keepIn K (.ref f21) = true)
    (a22 : PySem.W.nsIn K mainGlobals "need_name" = some (some (.ref f22))) (l22 : K.lookup f22 = some ⟨oc22, od22, .func (PySem.W.fnOf "need_name" "need_name" (defArgs s_need_name) (defBody s_need_name) (defScope s_need_name) .none kV22 dc22 pm22 an22 cd22 ct22), sl22⟩) (c22 : PySem.W.codeIn K cd22 "need_name" = true) (k22 : PySem.W.keepIn K (.ref f22) = true)
    (a23 : PySem.W.nsIn K mainGlobals "need_branch" = some (some (.ref f23))) (l23 : K.lookup f23 = some ⟨oc23, od23, .func (PySem.W.fnOf "need_branch" "need_branch" (defArgs s_need_branch) (defBody s_need_branch) (defScope s_need_branch) .none kV23 dc23 pm23 an23 cd23 ct23), sl23⟩) (c23 : PySem.W.codeIn K cd23 "need_branch" = true) (k23 : PySem.W.keepIn K (.ref f23) = true)
    (a24 : PySem.W.nsIn K mainGlobals "_law_cell_at" = some (some (.ref f24))) (l24 : K.lookup f24 = some ⟨oc24, od24, .func (PySem.W.fnOf "_law_cell_at" "_law_cell_at" (defArgs s__law_cell_at) (defBody s__law_cell_at) (defScope s__law_cell_at) .none kV24 dc24 pm24 an24 cd24 ct24), sl24⟩) (c24 : PySem.W.codeIn K cd24 "_law_cell_at" = true) (k24 : PySem.W.keepIn K (.ref f24) = true)
    (a25 : PySem.W.nsIn K mainGlobals "_law_whole" = some (some (.ref f25))) (l25 : K.lookup f25 = some ⟨oc25, od25, .func (PySem.W.fnOf "_law_whole" "_law_whole" (defArgs s__law_whole) (defBody s__law_whole) (defScope s__law_whole) .none kV25 dc25 pm25 an25 cd25 ct25), sl25⟩) (c25 : PySem.W.codeIn K cd25 "_law_whole" = true) (k25 : PySem.W.keepIn K (.ref f25) = true)
    (a26 : PySem.W.nsIn K mainGlobals "_law_sign_by" = some (some (.ref f26))) (l26 : K.lookup f26 = some ⟨oc26, od26, .func (PySem.W.fnOf "_law_sign_by" "_law_sign_by" (defArgs s__law_sign_by) (defBody s__law_sign_by) (defScope s__law_sign_by) .none kV26 dc26 pm26 an26 cd26 ct26), sl26⟩) (c26 : PySem.W.codeIn K cd26 "_law_sign_by" = true) (k26 : PySem.W.keepIn K (.ref f26) = true)
    (a27 : PySem.W.nsIn K mainGlobals "_law_word_by" = some (some (.ref f27))) (l27 : K.lookup f27 = some ⟨oc27, od27, .func (PySem.W.fnOf "_law_word_by" "_law_word_by" (defArgs s__law_word_by) (defBody s__law_word_by) (defScope s__law_word_by) .none kV27 dc27 pm27 an27 cd27 ct27), sl27⟩) (c27 : PySem.W.codeIn K cd27 "_law_word_by" = true) (k27 : PySem.W.keepIn K (.ref f27) = true)
    (a28 : PySem.W.nsIn K mainGlobals "_law_number_by" = some (some (.ref f28))) (l28 : K.lookup f28 = some ⟨oc28, od28, .func (PySem.W.fnOf "_law_number_by" "_law_number_by" (defArgs s__law_number_by) (defBody s__law_number_by) (defScope s__law_number_by) .none kV28 dc28 pm28 an28 cd28 ct28), sl28⟩) (c28 : PySem.W.codeIn K cd28 "_law_number_by" = true) (k28 : PySem.W.keepIn K (.ref f28) = true)
    (a29 : PySem.W.nsIn K mainGlobals "_law_alike" = some (some (.ref f29))) (l29 : K.lookup f29 = some ⟨oc29, od29, .func (PySem.W.fnOf "_law_alike" "_law_alike" (defArgs s__law_alike) (defBody s__law_alike) (defScope s__law_alike) .none kV29 dc29 pm29 an29 cd29 ct29), sl29⟩) (c29 : PySem.W.codeIn K cd29 "_law_alike" = true) (k29 : PySem.W.keepIn K (.ref f29) = true)
    (a30 : PySem.W.nsIn K mainGlobals "_law_text_by" = some (some (.ref f30))) (l30 : K.lookup f30 = some ⟨oc30, od30, .func (PySem.W.fnOf "_law_text_by" "_law_text_by" (defArgs s__law_text_by) (defBody s__law_text_by) (defScope s__law_text_by) .none kV30 dc30 pm30 an30 cd30 ct30), sl30⟩) (c30 : PySem.W.codeIn K cd30 "_law_text_by" = true) (k30 : PySem.W.keepIn K (.ref f30) = true)
    (a31 : PySem.W.nsIn K mainGlobals "_law_other_by" = some (some (.ref f31))) (l31 : K.lookup f31 = some ⟨oc31, od31, .func (PySem.W.fnOf "_law_other_by" "_law_other_by" (defArgs s__law_other_by) (defBody s__law_other_by) (defScope s__law_other_by) .none kV31 dc31 pm31 an31 cd31 ct31), sl31⟩) (c31 : PySem.W.codeIn K cd31 "_law_other_by" = true) (k31 : PySem.W.keepIn K (.ref f31) = true)
    (a32 : PySem.W.nsIn K mainGlobals "_law_word_of" = some (some (.ref f32))) (l32 : K.lookup f32 = some ⟨oc32, od32, .func (PySem.W.fnOf "_law_word_of" "_law_word_of" (defArgs s__law_word_of) (defBody s__law_word_of) (defScope s__law_word_of) .none kV32 dc32 pm32 an32 cd32 ct32), sl32⟩) (c32 : PySem.W.codeIn K cd32 "_law_word_of" = true) (k32 : PySem.W.keepIn K (.ref f32) = true)
    (a33 : PySem.W.nsIn K mainGlobals "_law_tried" = some (some (.ref f33))) (l33 : K.lookup f33 = some ⟨oc33, od33, .func (PySem.W.fnOf "_law_tried" "_law_tried" (defArgs s__law_tried) (defBody s__law_tried) (defScope s__law_tried) .none kV33 dc33 pm33 an33 cd33 ct33), sl33⟩) (c33 : PySem.W.codeIn K cd33 "_law_tried" = true) (k33 : PySem.W.keepIn K (.ref f33) = true)
    (a34 : PySem.W.nsIn K mainGlobals "_law_named" = some (some (.ref f34))) (l34 : K.lookup f34 = some ⟨oc34, od34, .func (PySem.W.fnOf "_law_named" "_law_named" (defArgs s__law_named) (defBody s__law_named) (defScope s__law_named) .none kV34 dc34 pm34 an34 cd34 ct34), sl34⟩) (c34 : PySem.W.codeIn K cd34 "_law_named" = true) (k34 : PySem.W.keepIn K (.ref f34) = true)
    (a35 : PySem.W.nsIn K mainGlobals "_law_branch" = some (some (.ref f35))) (l35 : K.lookup f35 = some ⟨oc35, od35, .func (PySem.W.fnOf "_law_branch" "_law_branch" (defArgs s__law_branch) (defBody s__law_branch) (defScope s__law_branch) .none kV35 dc35 pm35 an35 cd35 ct35), sl35⟩) (c35 : PySem.W.codeIn K cd35 "_law_branch" = true) (k35 : PySem.W.keepIn K (.ref f35) = true)
    (a36 : PySem.W.nsIn K mainGlobals "_law_due" = some (some (.ref f36))) (l36 : K.lookup f36 = some ⟨oc36, od36, .func (PySem.W.fnOf "_law_due" "_law_due" (defArgs s__law_due) (defBody s__law_due) (defScope s__law_due) .none kV36 dc36 pm36 an36 cd36 ct36), sl36⟩) (c36 : PySem.W.codeIn K cd36 "_law_due" = true) (k36 : PySem.W.keepIn K (.ref f36) = true)
    (a37 : PySem.W.nsIn K mainGlobals "_law_begun" = some (some (.ref f37))) (l37 : K.lookup f37 = some ⟨oc37, od37, .func (PySem.W.fnOf "_law_begun" "_law_begun" (defArgs s__law_begun) (defBody s__law_begun) (defScope s__law_begun) .none kV37 dc37 pm37 an37 cd37 ct37), sl37⟩) (c37 : PySem.W.codeIn K cd37 "_law_begun" = true) (k37 : PySem.W.keepIn K (.ref f37) = true)
    (a38 : PySem.W.nsIn K mainGlobals "_law_first_deeds" = some (some (.ref f38))) (l38 : K.lookup f38 = some ⟨oc38, od38, .func (PySem.W.fnOf "_law_first_deeds" "_law_first_deeds" (defArgs s__law_first_deeds) (defBody s__law_first_deeds) (defScope s__law_first_deeds) .none kV38 dc38 pm38 an38 cd38 ct38), sl38⟩) (c38 : PySem.W.codeIn K cd38 "_law_first_deeds" = true) (k38 : PySem.W.keepIn K (.ref f38) = true)
    (a39 : PySem.W.nsIn K mainGlobals "_law_tells" = some (some (.ref f39))) (l39 : K.lookup f39 = some ⟨oc39, od39, .func (PySem.W.fnOf "_law_tells" "_law_tells" (defArgs s__law_tells) (defBody s__law_tells) (defScope s__law_tells) .none kV39 dc39 pm39 an39 cd39 ct39), sl39⟩) (c39 : PySem.W.codeIn K cd39 "_law_tells" = true) (k39 : PySem.W.keepIn K (.ref f39) = true)
    (a40 : PySem.W.nsIn K mainGlobals "law" = some (some (.ref f40))) (l40 : K.lookup f40 = some ⟨oc40, od40, .func (PySem.W.fnOf "law" "law" (defArgs s_law) (defBody s_law) (defScope s_law) .none kV40 dc40 pm40 an40 cd40 ct40), sl40⟩) (c40 : PySem.W.codeIn K cd40 "law" = true) (k40 : PySem.W.keepIn K (.ref f40) = true)
    (z_len : PySem.W.nsIn K mainGlobals "len" = some none)
    (z_range : PySem.W.nsIn K mainGlobals "range" = some none)
    (z_tuple : PySem.W.nsIn K mainGlobals "tuple" = some none)
    (z_sorted : PySem.W.nsIn K mainGlobals "sorted" = some none)
    (z_isinstance : PySem.W.nsIn K mainGlobals "isinstance" = some none)
    (z_str : PySem.W.nsIn K mainGlobals "str" = some none)
    (z_int : PySem.W.nsIn K mainGlobals "int" = some none)
    (z_bool : PySem.W.nsIn K mainGlobals "bool" = some none)
    (z_list : PySem.W.nsIn K mainGlobals "list" = some none)
    (z_min : PySem.W.nsIn K mainGlobals "min" = some none)
    (z_max : PySem.W.nsIn K mainGlobals "max" = some none)
    (z_set : PySem.W.nsIn K mainGlobals "set" = some none)
    (z_dict : PySem.W.nsIn K mainGlobals "dict" = some none)
    (z_ord : PySem.W.nsIn K mainGlobals "ord" = some none)
    (z_enumerate : PySem.W.nsIn K mainGlobals "enumerate" = some none)
    (z_ValueError : PySem.W.nsIn K mainGlobals "ValueError" = some none)
    (aC_TrailError : PySem.W.nsIn K mainGlobals "TrailError" = some (some (.ref CTrailError)))
    (aC_NoName : PySem.W.nsIn K mainGlobals "NoName" = some (some (.ref CNoName)))
    (aC_NotThere : PySem.W.nsIn K mainGlobals "NotThere" = some (some (.ref CNotThere)))
    (aC_Taken : PySem.W.nsIn K mainGlobals "Taken" = some (some (.ref CTaken)))
    (aC_TooLong : PySem.W.nsIn K mainGlobals "TooLong" = some (some (.ref CTooLong)))
    (aC_TooMany : PySem.W.nsIn K mainGlobals "TooMany" = some (some (.ref CTooMany)))
    (aC_NoNote : PySem.W.nsIn K mainGlobals "NoNote" = some (some (.ref CNoNote)))
    (aC_NothingDone : PySem.W.nsIn K mainGlobals "NothingDone" = some (some (.ref CNothingDone)))
    (xn1 : PySem.W.specialIn K (.builtin "object.__class__") "__get__" = some (some (.builtin "getset_descriptor.__get__"))) (xn2 : PySem.W.takesIn K (.builtin "object.__class__") = some true) (yt1 : PySem.W.hasDictIn K CTrailError = true) (yt2 : PySem.W.typeIn K (.ref CTrailError) = some (.type "type"))
    (xa_NoName : PySem.W.excIn K CNoName [.type "ValueError", .type "Exception", .type "BaseException", .type "object"] "ValueError.__new__" = true)
    (xb_NoName : PySem.W.keepIn K (.ref CNoName) = true)
    (xd_NoName : PySem.W.subIn K (.ref CNoName) (.type "BaseException") = some true)
    (xe_NoName : PySem.W.typeIn K (.ref CNoName) = some (.type "type"))
    (xf_NoName : PySem.W.subIn K (.ref CNoName) (.ref CNoName) = some true)
    (xg_NoName : PySem.W.findIn K (.ref CNoName) "__getattribute__" = some (some (.builtin "BaseException.__getattribute__")))
    (xh_NoName : PySem.W.findIn K (.ref CNoName) "__getattr__" = some none)
    (xi_NoName : PySem.W.hasDictIn K CNoName = true)
    (xj_NoName : PySem.W.findIn K (.ref CNoName) "__class__" = some (some (.builtin "object.__class__")))
    (xk_NoName : PySem.W.mroIn K CNoName (.type "object") = some true)
    (xl_NoName : PySem.W.subIn K (.ref CNoName) (.ref CTrailError) = some true)
    (xm_NoName : PySem.W.subIn K (.ref CNoName) (.type "ValueError") = some true)
    (xa_NotThere : PySem.W.excIn K CNotThere [.type "ValueError", .type "Exception", .type "BaseException", .type "object"] "ValueError.__new__" = true)
    (xb_NotThere : PySem.W.keepIn K (.ref CNotThere) = true)
    (xd_NotThere : PySem.W.subIn K (.ref CNotThere) (.type "BaseException") = some true)
    (xe_NotThere : PySem.W.typeIn K (.ref CNotThere) = some (.type "type"))
    (xf_NotThere : PySem.W.subIn K (.ref CNotThere) (.ref CNotThere) = some true)
    (xg_NotThere : PySem.W.findIn K (.ref CNotThere) "__getattribute__" = some (some (.builtin "BaseException.__getattribute__")))
    (xh_NotThere : PySem.W.findIn K (.ref CNotThere) "__getattr__" = some none)
    (xi_NotThere : PySem.W.hasDictIn K CNotThere = true)
    (xj_NotThere : PySem.W.findIn K (.ref CNotThere) "__class__" = some (some (.builtin "object.__class__")))
    (xk_NotThere : PySem.W.mroIn K CNotThere (.type "object") = some true)
    (xl_NotThere : PySem.W.subIn K (.ref CNotThere) (.ref CTrailError) = some true)
    (xm_NotThere : PySem.W.subIn K (.ref CNotThere) (.type "ValueError") = some true)
    (xa_Taken : PySem.W.excIn K CTaken [.type "ValueError", .type "Exception", .type "BaseException", .type "object"] "ValueError.__new__" = true)
    (xb_Taken : PySem.W.keepIn K (.ref CTaken) = true)
    (xd_Taken : PySem.W.subIn K (.ref CTaken) (.type "BaseException") = some true)
    (xe_Taken : PySem.W.typeIn K (.ref CTaken) = some (.type "type"))
    (xf_Taken : PySem.W.subIn K (.ref CTaken) (.ref CTaken) = some true)
    (xg_Taken : PySem.W.findIn K (.ref CTaken) "__getattribute__" = some (some (.builtin "BaseException.__getattribute__")))
    (xh_Taken : PySem.W.findIn K (.ref CTaken) "__getattr__" = some none)
    (xi_Taken : PySem.W.hasDictIn K CTaken = true)
    (xj_Taken : PySem.W.findIn K (.ref CTaken) "__class__" = some (some (.builtin "object.__class__")))
    (xk_Taken : PySem.W.mroIn K CTaken (.type "object") = some true)
    (xl_Taken : PySem.W.subIn K (.ref CTaken) (.ref CTrailError) = some true)
    (xm_Taken : PySem.W.subIn K (.ref CTaken) (.type "ValueError") = some true)
    (xa_TooLong : PySem.W.excIn K CTooLong [.type "ValueError", .type "Exception", .type "BaseException", .type "object"] "ValueError.__new__" = true)
    (xb_TooLong : PySem.W.keepIn K (.ref CTooLong) = true)
    (xd_TooLong : PySem.W.subIn K (.ref CTooLong) (.type "BaseException") = some true)
    (xe_TooLong : PySem.W.typeIn K (.ref CTooLong) = some (.type "type"))
    (xf_TooLong : PySem.W.subIn K (.ref CTooLong) (.ref CTooLong) = some true)
    (xg_TooLong : PySem.W.findIn K (.ref CTooLong) "__getattribute__" = some (some (.builtin "BaseException.__getattribute__")))
    (xh_TooLong : PySem.W.findIn K (.ref CTooLong) "__getattr__" = some none)
    (xi_TooLong : PySem.W.hasDictIn K CTooLong = true)
    (xj_TooLong : PySem.W.findIn K (.ref CTooLong) "__class__" = some (some (.builtin "object.__class__")))
    (xk_TooLong : PySem.W.mroIn K CTooLong (.type "object") = some true)
    (xl_TooLong : PySem.W.subIn K (.ref CTooLong) (.ref CTrailError) = some true)
    (xm_TooLong : PySem.W.subIn K (.ref CTooLong) (.type "ValueError") = some true)
    (xa_TooMany : PySem.W.excIn K CTooMany [.type "ValueError", .type "Exception", .type "BaseException", .type "object"] "ValueError.__new__" = true)
    (xb_TooMany : PySem.W.keepIn K (.ref CTooMany) = true)
    (xd_TooMany : PySem.W.subIn K (.ref CTooMany) (.type "BaseException") = some true)
    (xe_TooMany : PySem.W.typeIn K (.ref CTooMany) = some (.type "type"))
    (xf_TooMany : PySem.W.subIn K (.ref CTooMany) (.ref CTooMany) = some true)
    (xg_TooMany : PySem.W.findIn K (.ref CTooMany) "__getattribute__" = some (some (.builtin "BaseException.__getattribute__")))
    (xh_TooMany : PySem.W.findIn K (.ref CTooMany) "__getattr__" = some none)
    (xi_TooMany : PySem.W.hasDictIn K CTooMany = true)
    (xj_TooMany : PySem.W.findIn K (.ref CTooMany) "__class__" = some (some (.builtin "object.__class__")))
    (xk_TooMany : PySem.W.mroIn K CTooMany (.type "object") = some true)
    (xl_TooMany : PySem.W.subIn K (.ref CTooMany) (.ref CTrailError) = some true)
    (xm_TooMany : PySem.W.subIn K (.ref CTooMany) (.type "ValueError") = some true)
    (xa_NoNote : PySem.W.excIn K CNoNote [.type "ValueError", .type "Exception", .type "BaseException", .type "object"] "ValueError.__new__" = true)
    (xb_NoNote : PySem.W.keepIn K (.ref CNoNote) = true)
    (xd_NoNote : PySem.W.subIn K (.ref CNoNote) (.type "BaseException") = some true)
    (xe_NoNote : PySem.W.typeIn K (.ref CNoNote) = some (.type "type"))
    (xf_NoNote : PySem.W.subIn K (.ref CNoNote) (.ref CNoNote) = some true)
    (xg_NoNote : PySem.W.findIn K (.ref CNoNote) "__getattribute__" = some (some (.builtin "BaseException.__getattribute__")))
    (xh_NoNote : PySem.W.findIn K (.ref CNoNote) "__getattr__" = some none)
    (xi_NoNote : PySem.W.hasDictIn K CNoNote = true)
    (xj_NoNote : PySem.W.findIn K (.ref CNoNote) "__class__" = some (some (.builtin "object.__class__")))
    (xk_NoNote : PySem.W.mroIn K CNoNote (.type "object") = some true)
    (xl_NoNote : PySem.W.subIn K (.ref CNoNote) (.ref CTrailError) = some true)
    (xm_NoNote : PySem.W.subIn K (.ref CNoNote) (.type "ValueError") = some true)
    (xa_NothingDone : PySem.W.excIn K CNothingDone [.type "ValueError", .type "Exception", .type "BaseException", .type "object"] "ValueError.__new__" = true)
    (xb_NothingDone : PySem.W.keepIn K (.ref CNothingDone) = true)
    (xd_NothingDone : PySem.W.subIn K (.ref CNothingDone) (.type "BaseException") = some true)
    (xe_NothingDone : PySem.W.typeIn K (.ref CNothingDone) = some (.type "type"))
    (xf_NothingDone : PySem.W.subIn K (.ref CNothingDone) (.ref CNothingDone) = some true)
    (xg_NothingDone : PySem.W.findIn K (.ref CNothingDone) "__getattribute__" = some (some (.builtin "BaseException.__getattribute__")))
    (xh_NothingDone : PySem.W.findIn K (.ref CNothingDone) "__getattr__" = some none)
    (xi_NothingDone : PySem.W.hasDictIn K CNothingDone = true)
    (xj_NothingDone : PySem.W.findIn K (.ref CNothingDone) "__class__" = some (some (.builtin "object.__class__")))
    (xk_NothingDone : PySem.W.mroIn K CNothingDone (.type "object") = some true)
    (xl_NothingDone : PySem.W.subIn K (.ref CNothingDone) (.ref CTrailError) = some true)
    (xm_NothingDone : PySem.W.subIn K (.ref CNothingDone) (.type "ValueError") = some true)
    {tk_MOST_SIGNS : Tok} (g_MOST_SIGNS : PySem.W.nsIn K mainGlobals "MOST_SIGNS" = some (some (.int 40 tk_MOST_SIGNS)))
    {tk_MOST_NAMES : Tok} (g_MOST_NAMES : PySem.W.nsIn K mainGlobals "MOST_NAMES" = some (some (.int 100 tk_MOST_NAMES)))
    (sn_NoName_NotThere : PySem.W.subIn K (.ref CNoName) (.ref CNotThere) = some false)
    (sn_NoName_TooLong : PySem.W.subIn K (.ref CNoName) (.ref CTooLong) = some false)
    (sn_NoName_Taken : PySem.W.subIn K (.ref CNoName) (.ref CTaken) = some false)
    (sn_NoName_TooMany : PySem.W.subIn K (.ref CNoName) (.ref CTooMany) = some false)
    (sn_NoName_NothingDone : PySem.W.subIn K (.ref CNoName) (.ref CNothingDone) = some false)
    (sn_NoName_NoNote : PySem.W.subIn K (.ref CNoName) (.ref CNoNote) = some false)
    (sn_NotThere_NoName : PySem.W.subIn K (.ref CNotThere) (.ref CNoName) = some false)
    (sn_NotThere_TooLong : PySem.W.subIn K (.ref CNotThere) (.ref CTooLong) = some false)
    (sn_NotThere_Taken : PySem.W.subIn K (.ref CNotThere) (.ref CTaken) = some false)
    (sn_NotThere_TooMany : PySem.W.subIn K (.ref CNotThere) (.ref CTooMany) = some false)
    (sn_NotThere_NothingDone : PySem.W.subIn K (.ref CNotThere) (.ref CNothingDone) = some false)
    (sn_NotThere_NoNote : PySem.W.subIn K (.ref CNotThere) (.ref CNoNote) = some false)
    (sn_TooLong_NoName : PySem.W.subIn K (.ref CTooLong) (.ref CNoName) = some false)
    (sn_TooLong_NotThere : PySem.W.subIn K (.ref CTooLong) (.ref CNotThere) = some false)
    (sn_TooLong_Taken : PySem.W.subIn K (.ref CTooLong) (.ref CTaken) = some false)
    (sn_TooLong_TooMany : PySem.W.subIn K (.ref CTooLong) (.ref CTooMany) = some false)
    (sn_TooLong_NothingDone : PySem.W.subIn K (.ref CTooLong) (.ref CNothingDone) = some false)
    (sn_TooLong_NoNote : PySem.W.subIn K (.ref CTooLong) (.ref CNoNote) = some false)
    (sn_Taken_NoName : PySem.W.subIn K (.ref CTaken) (.ref CNoName) = some false)
    (sn_Taken_NotThere : PySem.W.subIn K (.ref CTaken) (.ref CNotThere) = some false)
    (sn_Taken_TooLong : PySem.W.subIn K (.ref CTaken) (.ref CTooLong) = some false)
    (sn_Taken_TooMany : PySem.W.subIn K (.ref CTaken) (.ref CTooMany) = some false)
    (sn_Taken_NothingDone : PySem.W.subIn K (.ref CTaken) (.ref CNothingDone) = some false)
    (sn_Taken_NoNote : PySem.W.subIn K (.ref CTaken) (.ref CNoNote) = some false)
    (sn_TooMany_NoName : PySem.W.subIn K (.ref CTooMany) (.ref CNoName) = some false)
    (sn_TooMany_NotThere : PySem.W.subIn K (.ref CTooMany) (.ref CNotThere) = some false)
    (sn_TooMany_TooLong : PySem.W.subIn K (.ref CTooMany) (.ref CTooLong) = some false)
    (sn_TooMany_Taken : PySem.W.subIn K (.ref CTooMany) (.ref CTaken) = some false)
    (sn_TooMany_NothingDone : PySem.W.subIn K (.ref CTooMany) (.ref CNothingDone) = some false)
    (sn_TooMany_NoNote : PySem.W.subIn K (.ref CTooMany) (.ref CNoNote) = some false)
    (sn_NothingDone_NoName : PySem.W.subIn K (.ref CNothingDone) (.ref CNoName) = some false)
    (sn_NothingDone_NotThere : PySem.W.subIn K (.ref CNothingDone) (.ref CNotThere) = some false)
    (sn_NothingDone_TooLong : PySem.W.subIn K (.ref CNothingDone) (.ref CTooLong) = some false)
    (sn_NothingDone_Taken : PySem.W.subIn K (.ref CNothingDone) (.ref CTaken) = some false)
    (sn_NothingDone_TooMany : PySem.W.subIn K (.ref CNothingDone) (.ref CTooMany) = some false)
    (sn_NothingDone_NoNote : PySem.W.subIn K (.ref CNothingDone) (.ref CNoNote) = some false)
    (ytd : PySem.W.subIn K (.ref CTrailError) (.type "BaseException") = some true)
    (tra : PySem.W.nsIn K mainGlobals "Trail" = some (some (.ref CTrail)))
    (trb : PySem.W.plainGet K CTrail Str.empty = true)
    (trc : PySem.W.hasDictIn K CTrail = true)
    (trd : PySem.W.plainOver K CTrail = true)
    (tre : PySem.W.findIn K (.ref CTrail) "__setattr__" = some (some (.builtin "object.__setattr__")))
    (trf : PySem.W.findIn K (.ref CTrail) "grown" = some none)
    (trg : PySem.W.findIn K (.ref CTrail) "past" = some none)
    (trh : PySem.W.makesIn K CTrail = true)
    (tri : PySem.W.keepIn K (.ref CTrail) = true)
    (a41 : PySem.W.findIn K (.ref CTrail) "do" = some (some (.ref f41))) (i41 : PySem.W.isFn K (.ref f41) = true) (l41 : K.lookup f41 = some ⟨oc41, od41, .func (PySem.W.fnOf "do" "Trail.do" (defArgs s_Trail_do) (defBody s_Trail_do) (defScope s_Trail_do) .none kV41 dc41 pm41 an41 cd41 ct41), sl41⟩) (c41 : PySem.W.codeIn K cd41 "Trail.do" = true) (k41 : PySem.W.keepIn K (.ref f41) = true)
    (a42 : PySem.W.findIn K (.ref CTrail) "size" = some (some (.ref f42))) (i42 : PySem.W.isFn K (.ref f42) = true) (l42 : K.lookup f42 = some ⟨oc42, od42, .func (PySem.W.fnOf "size" "Trail.size" (defArgs s_Trail_size) (defBody s_Trail_size) (defScope s_Trail_size) .none kV42 dc42 pm42 an42 cd42 ct42), sl42⟩) (c42 : PySem.W.codeIn K cd42 "Trail.size" = true) (k42 : PySem.W.keepIn K (.ref f42) = true)
    (a43 : PySem.W.findIn K (.ref CTrail) "keep" = some (some (.ref f43))) (i43 : PySem.W.isFn K (.ref f43) = true) (l43 : K.lookup f43 = some ⟨oc43, od43, .func (PySem.W.fnOf "keep" "Trail.keep" (defArgs s_Trail_keep) (defBody s_Trail_keep) (defScope s_Trail_keep) .none kV43 dc43 pm43 an43 cd43 ct43), sl43⟩) (c43 : PySem.W.codeIn K cd43 "Trail.keep" = true) (k43 : PySem.W.keepIn K (.ref f43) = true)
    (a44 : PySem.W.findIn K (.ref CTrail) "drop" = some (some (.ref f44))) (i44 : PySem.W.isFn K (.ref f44) = true) (l44 : K.lookup f44 = some ⟨oc44, od44, .func (PySem.W.fnOf "drop" "Trail.drop" (defArgs s_Trail_drop) (defBody s_Trail_drop) (defScope s_Trail_drop) .none kV44 dc44 pm44 an44 cd44 ct44), sl44⟩) (c44 : PySem.W.codeIn K cd44 "Trail.drop" = true) (k44 : PySem.W.keepIn K (.ref f44) = true)
    (a45 : PySem.W.findIn K (.ref CTrail) "prune" = some (some (.ref f45))) (i45 : PySem.W.isFn K (.ref f45) = true) (l45 : K.lookup f45 = some ⟨oc45, od45, .func (PySem.W.fnOf "prune" "Trail.prune" (defArgs s_Trail_prune) (defBody s_Trail_prune) (defScope s_Trail_prune) .none kV45 dc45 pm45 an45 cd45 ct45), sl45⟩) (c45 : PySem.W.codeIn K cd45 "Trail.prune" = true) (k45 : PySem.W.keepIn K (.ref f45) = true)
    (a46 : PySem.W.findIn K (.ref CTrail) "move" = some (some (.ref f46))) (i46 : PySem.W.isFn K (.ref f46) = true) (l46 : K.lookup f46 = some ⟨oc46, od46, .func (PySem.W.fnOf "move" "Trail.move" (defArgs s_Trail_move) (defBody s_Trail_move) (defScope s_Trail_move) .none kV46 dc46 pm46 an46 cd46 ct46), sl46⟩) (c46 : PySem.W.codeIn K cd46 "Trail.move" = true) (k46 : PySem.W.keepIn K (.ref f46) = true)
    (a47 : PySem.W.findIn K (.ref CTrail) "graft" = some (some (.ref f47))) (i47 : PySem.W.isFn K (.ref f47) = true) (l47 : K.lookup f47 = some ⟨oc47, od47, .func (PySem.W.fnOf "graft" "Trail.graft" (defArgs s_Trail_graft) (defBody s_Trail_graft) (defScope s_Trail_graft) .none kV47 dc47 pm47 an47 cd47 ct47), sl47⟩) (c47 : PySem.W.codeIn K cd47 "Trail.graft" = true) (k47 : PySem.W.keepIn K (.ref f47) = true)
    (a48 : PySem.W.findIn K (.ref CTrail) "back" = some (some (.ref f48))) (i48 : PySem.W.isFn K (.ref f48) = true) (l48 : K.lookup f48 = some ⟨oc48, od48, .func (PySem.W.fnOf "back" "Trail.back" (defArgs s_Trail_back) (defBody s_Trail_back) (defScope s_Trail_back) .none kV48 dc48 pm48 an48 cd48 ct48), sl48⟩) (c48 : PySem.W.codeIn K cd48 "Trail.back" = true) (k48 : PySem.W.keepIn K (.ref f48) = true)
    (a49 : PySem.W.findIn K (.ref CTrail) "told" = some (some (.ref f49))) (i49 : PySem.W.isFn K (.ref f49) = true) (l49 : K.lookup f49 = some ⟨oc49, od49, .func (PySem.W.fnOf "told" "Trail.told" (defArgs s_Trail_told) (defBody s_Trail_told) (defScope s_Trail_told) .none kV49 dc49 pm49 an49 cd49 ct49), sl49⟩) (c49 : PySem.W.codeIn K cd49 "Trail.told" = true) (k49 : PySem.W.keepIn K (.ref f49) = true)
    (a50 : PySem.W.findIn K (.ref CTrail) "__init__" = some (some (.ref f50))) (i50 : PySem.W.isFn K (.ref f50) = true) (l50 : K.lookup f50 = some ⟨oc50, od50, .func (PySem.W.fnOf "__init__" "Trail.__init__" (defArgs s_Trail___init__) (defBody s_Trail___init__) (defScope s_Trail___init__) .none kV50 dc50 pm50 an50 cd50 ct50), sl50⟩) (c50 : PySem.W.codeIn K cd50 "Trail.__init__" = true) (k50 : PySem.W.keepIn K (.ref f50) = true)
    (a51 : PySem.W.findIn K (.ref CTrail) "tree" = some (some (.ref f51))) (i51 : PySem.W.isFn K (.ref f51) = true) (l51 : K.lookup f51 = some ⟨oc51, od51, .func (PySem.W.fnOf "tree" "Trail.tree" (defArgs s_Trail_tree) (defBody s_Trail_tree) (defScope s_Trail_tree) .none kV51 dc51 pm51 an51 cd51 ct51), sl51⟩) (c51 : PySem.W.codeIn K cd51 "Trail.tree" = true) (k51 : PySem.W.keepIn K (.ref f51) = true)
    : ∃ fd : FuncData, (∀ (s : Shared) (v : Value), BindsTo s fd ⟨[v], []⟩ [("_law_script", v)]) ∧ ∀ base : Heap, K.In base → base.Ns mainGlobals mg → FnOk l.prog w K mg base CX0 50 fa fd ["_law_script"] (Fn K Rlaw) := by
  have e := hfa.symm.trans (PySem.W.mg_of X G a40)
  cases e
  have d_is_sign : Dfn K mg "is_sign" s_is_sign ["sign"] := dfn_mk (st := s_is_sign) X G a1 l1 c1 k1 fun _ _ _ _ _ _ us hl => match us, hl with | [_], _ => rfl
  have d_is_name : Dfn K mg "is_name" s_is_name ["thing"] := dfn_mk (st := s_is_name) X G a2 l2 c2 k2 fun _ _ _ _ _ _ us hl => match us, hl with | [_], _ => rfl
  have d_common : Dfn K mg "common" s_common ["one", "other"] := dfn_mk (st := s_common) X G a3 l3 c3 k3 fun _ _ _ _ _ _ us hl => match us, hl with | [_, _], _ => rfl
  have d_rest : Dfn K mg "rest" s_rest ["name", "beginning"] := dfn_mk (st := s_rest) X G a4 l4 c4 k4 fun _ _ _ _ _ _ us hl => match us, hl with | [_, _], _ => rfl
  have d_branch_of : Dfn K mg "branch_of" s_branch_of ["branches", "sign"] := dfn_mk (st := s_branch_of) X G a5 l5 c5 k5 fun _ _ _ _ _ _ us hl => match us, hl with | [_, _], _ => rfl
  have d_with_branch : Dfn K mg "with_branch" s_with_branch ["branches", "sign", "tree"] := dfn_mk (st := s_with_branch) X G a6 l6 c6 k6 fun _ _ _ _ _ _ us hl => match us, hl with | [_, _, _], _ => rfl
  have d_knot_of : Dfn K mg "knot_of" s_knot_of ["shared", "branches"] := dfn_mk (st := s_knot_of) X G a7 l7 c7 k7 fun _ _ _ _ _ _ us hl => match us, hl with | [_, _], _ => rfl
  have d_behind : Dfn K mg "behind" s_behind ["tree", "size"] := dfn_mk (st := s_behind) X G a8 l8 c8 k8 fun _ _ _ _ _ _ us hl => match us, hl with | [_, _], _ => rfl
  have d_found : Dfn K mg "found" s_found ["tree", "name"] := dfn_mk (st := s_found) X G a9 l9 c9 k9 fun _ _ _ _ _ _ us hl => match us, hl with | [_, _], _ => rfl
  have d_put : Dfn K mg "put" s_put ["tree", "name", "number"] := dfn_mk (st := s_put) X G a10 l10 c10 k10 fun _ _ _ _ _ _ us hl => match us, hl with | [_, _, _], _ => rfl
  have d_thinned : Dfn K mg "thinned" s_thinned ["tree", "name"] := dfn_mk (st := s_thinned) X G a11 l11 c11 k11 fun _ _ _ _ _ _ us hl => match us, hl with | [_, _], _ => rfl
  have d_without : Dfn K mg "without" s_without ["tree", "name"] := dfn_mk (st := s_without) X G a12 l12 c12 k12 fun _ _ _ _ _ _ us hl => match us, hl with | [_, _], _ => rfl
  have d_ahead : Dfn K mg "ahead" s_ahead ["tree", "beginning"] := dfn_mk (st := s_ahead) X G a13 l13 c13 k13 fun _ _ _ _ _ _ us hl => match us, hl with | [_, _], _ => rfl
  have d_names : Dfn K mg "names" s_names ["tree"] := dfn_mk (st := s_names) X G a14 l14 c14 k14 fun _ _ _ _ _ _ us hl => match us, hl with | [_], _ => rfl
  have d_cut : Dfn K mg "cut" s_cut ["tree", "beginning"] := dfn_mk (st := s_cut) X G a15 l15 c15 k15 fun _ _ _ _ _ _ us hl => match us, hl with | [_, _], _ => rfl
  have d_branches_behind : Dfn K mg "branches_behind" s_branches_behind ["tree", "size"] := dfn_mk (st := s_branches_behind) X G a16 l16 c16 k16 fun _ _ _ _ _ _ us hl => match us, hl with | [_, _], _ => rfl
  have d_joined : Dfn K mg "joined" s_joined ["one", "other"] := dfn_mk (st := s_joined) X G a17 l17 c17 k17 fun _ _ _ _ _ _ us hl => match us, hl with | [_, _], _ => rfl
  have d_moved : Dfn K mg "moved" s_moved ["tree", "beginning", "other"] := dfn_mk (st := s_moved) X G a18 l18 c18 k18 fun _ _ _ _ _ _ us hl => match us, hl with | [_, _, _], _ => rfl
  have d_copied : Dfn K mg "copied" s_copied ["tree", "beginning", "other"] := dfn_mk (st := s_copied) X G a19 l19 c19 k19 fun _ _ _ _ _ _ us hl => match us, hl with | [_, _, _], _ => rfl
  have d_under : Dfn K mg "under" s_under ["tree", "beginning"] := dfn_mk (st := s_under) X G a20 l20 c20 k20 fun _ _ _ _ _ _ us hl => match us, hl with | [_, _], _ => rfl
  have d_many : Dfn K mg "many" s_many ["tree", "beginning"] := dfn_mk (st := s_many) X G a21 l21 c21 k21 fun _ _ _ _ _ _ us hl => match us, hl with | [_, _], _ => rfl
  have d_need_name : Dfn K mg "need_name" s_need_name ["thing"] := dfn_mk (st := s_need_name) X G a22 l22 c22 k22 fun _ _ _ _ _ _ us hl => match us, hl with | [_], _ => rfl
  have d_need_branch : Dfn K mg "need_branch" s_need_branch ["tree", "beginning", "other"] := dfn_mk (st := s_need_branch) X G a23 l23 c23 k23 fun _ _ _ _ _ _ us hl => match us, hl with | [_, _, _], _ => rfl
  have d__law_cell_at : Dfn K mg "_law_cell_at" s__law_cell_at ["_law_script", "_law_k"] := dfn_mk (st := s__law_cell_at) X G a24 l24 c24 k24 fun _ _ _ _ _ _ us hl => match us, hl with | [_, _], _ => rfl
  have d__law_whole : Dfn K mg "_law_whole" s__law_whole ["_law_told"] := dfn_mk (st := s__law_whole) X G a25 l25 c25 k25 fun _ _ _ _ _ _ us hl => match us, hl with | [_], _ => rfl
  have d__law_sign_by : Dfn K mg "_law_sign_by" s__law_sign_by ["_law_cell"] := dfn_mk (st := s__law_sign_by) X G a26 l26 c26 k26 fun _ _ _ _ _ _ us hl => match us, hl with | [_], _ => rfl
  have d__law_word_by : Dfn K mg "_law_word_by" s__law_word_by ["_law_cell", "_law_size"] := dfn_mk (st := s__law_word_by) X G a27 l27 c27 k27 fun _ _ _ _ _ _ us hl => match us, hl with | [_, _], _ => rfl
  have d__law_number_by : Dfn K mg "_law_number_by" s__law_number_by ["_law_cell"] := dfn_mk (st := s__law_number_by) X G a28 l28 c28 k28 fun _ _ _ _ _ _ us hl => match us, hl with | [_], _ => rfl
  have d__law_alike : Dfn K mg "_law_alike" s__law_alike ["_law_told", "_law_due_here"] := dfn_mk (st := s__law_alike) X G a29 l29 c29 k29 fun _ _ _ _ _ _ us hl => match us, hl with | [_, _], _ => rfl
  have d__law_text_by : Dfn K mg "_law_text_by" s__law_text_by ["_law_cell", "_law_held"] := dfn_mk (st := s__law_text_by) X G a30 l30 c30 k30 fun _ _ _ _ _ _ us hl => match us, hl with | [_, _], _ => rfl
  have d__law_other_by : Dfn K mg "_law_other_by" s__law_other_by ["_law_cell", "_law_held"] := dfn_mk (st := s__law_other_by) X G a31 l31 c31 k31 fun _ _ _ _ _ _ us hl => match us, hl with | [_, _], _ => rfl
  have d__law_word_of : Dfn K mg "_law_word_of" s__law_word_of ["_law_e"] := dfn_mk (st := s__law_word_of) X G a32 l32 c32 k32 fun _ _ _ _ _ _ us hl => match us, hl with | [_], _ => rfl
  have d__law_tried : Dfn K mg "_law_tried" s__law_tried ["_law_trail", "_law_way", "_law_one", "_law_other", "_law_number"] := dfn_mk (st := s__law_tried) X G a33 l33 c33 k33 fun _ _ _ _ _ _ us hl => match us, hl with | [_, _, _, _, _], _ => rfl
  have d__law_named : Dfn K mg "_law_named" s__law_named ["_law_thing"] := dfn_mk (st := s__law_named) X G a34 l34 c34 k34 fun _ _ _ _ _ _ us hl => match us, hl with | [_], _ => rfl
  have d__law_branch : Dfn K mg "_law_branch" s__law_branch ["_law_plain", "_law_one", "_law_other", "_law_stay"] := dfn_mk (st := s__law_branch) X G a35 l35 c35 k35 fun _ _ _ _ _ _ us hl => match us, hl with | [_, _, _, _], _ => rfl
  have d__law_due : Dfn K mg "_law_due" s__law_due ["_law_plain", "_law_way", "_law_one", "_law_other", "_law_number"] := dfn_mk (st := s__law_due) X G a36 l36 c36 k36 fun _ _ _ _ _ _ us hl => match us, hl with | [_, _, _, _, _], _ => rfl
  have d__law_begun : Dfn K mg "_law_begun" s__law_begun ["_law_trail", "_law_past", "_law_way", "_law_word", "_law_more"] := dfn_mk (st := s__law_begun) X G a37 l37 c37 k37 fun _ _ _ _ _ _ us hl => match us, hl with | [_, _, _, _, _], _ => rfl
  have d__law_first_deeds : Dfn K mg "_law_first_deeds" s__law_first_deeds ["_law_begin", "_law_word"] := dfn_mk (st := s__law_first_deeds) X G a38 l38 c38 k38 fun _ _ _ _ _ _ us hl => match us, hl with | [_, _], _ => rfl
  have d__law_tells : Dfn K mg "_law_tells" s__law_tells ["_law_trail", "_law_start", "_law_plain", "_law_kept"] := dfn_mk (st := s__law_tells) X G a39 l39 c39 k39 fun _ _ _ _ _ _ us hl => match us, hl with | [_, _, _, _], _ => rfl
  have m_TrailError := PySem.W.mg_of X G aC_TrailError
  have m_NoName := PySem.W.mg_of X G aC_NoName
  have m_NotThere := PySem.W.mg_of X G aC_NotThere
  have m_Taken := PySem.W.mg_of X G aC_Taken
  have m_TooLong := PySem.W.mg_of X G aC_TooLong
  have m_TooMany := PySem.W.mg_of X G aC_TooMany
  have m_NoNote := PySem.W.mg_of X G aC_NoNote
  have m_NothingDone := PySem.W.mg_of X G aC_NothingDone
  have x_NoName : Xc K mg "NoName" CNoName CTrailError := ⟨m_NoName, xa_NoName, xb_NoName, xd_NoName, xe_NoName, xf_NoName, ⟨xg_NoName, xh_NoName, xd_NoName, xi_NoName, xj_NoName, xn1, xn2, xk_NoName⟩, kit_sub yt1 yt2 xl_NoName, kit_subV xm_NoName⟩
  have x_NotThere : Xc K mg "NotThere" CNotThere CTrailError := ⟨m_NotThere, xa_NotThere, xb_NotThere, xd_NotThere, xe_NotThere, xf_NotThere, ⟨xg_NotThere, xh_NotThere, xd_NotThere, xi_NotThere, xj_NotThere, xn1, xn2, xk_NotThere⟩, kit_sub yt1 yt2 xl_NotThere, kit_subV xm_NotThere⟩
  have x_Taken : Xc K mg "Taken" CTaken CTrailError := ⟨m_Taken, xa_Taken, xb_Taken, xd_Taken, xe_Taken, xf_Taken, ⟨xg_Taken, xh_Taken, xd_Taken, xi_Taken, xj_Taken, xn1, xn2, xk_Taken⟩, kit_sub yt1 yt2 xl_Taken, kit_subV xm_Taken⟩
  have x_TooLong : Xc K mg "TooLong" CTooLong CTrailError := ⟨m_TooLong, xa_TooLong, xb_TooLong, xd_TooLong, xe_TooLong, xf_TooLong, ⟨xg_TooLong, xh_TooLong, xd_TooLong, xi_TooLong, xj_TooLong, xn1, xn2, xk_TooLong⟩, kit_sub yt1 yt2 xl_TooLong, kit_subV xm_TooLong⟩
  have x_TooMany : Xc K mg "TooMany" CTooMany CTrailError := ⟨m_TooMany, xa_TooMany, xb_TooMany, xd_TooMany, xe_TooMany, xf_TooMany, ⟨xg_TooMany, xh_TooMany, xd_TooMany, xi_TooMany, xj_TooMany, xn1, xn2, xk_TooMany⟩, kit_sub yt1 yt2 xl_TooMany, kit_subV xm_TooMany⟩
  have x_NoNote : Xc K mg "NoNote" CNoNote CTrailError := ⟨m_NoNote, xa_NoNote, xb_NoNote, xd_NoNote, xe_NoNote, xf_NoNote, ⟨xg_NoNote, xh_NoNote, xd_NoNote, xi_NoNote, xj_NoNote, xn1, xn2, xk_NoNote⟩, kit_sub yt1 yt2 xl_NoNote, kit_subV xm_NoNote⟩
  have x_NothingDone : Xc K mg "NothingDone" CNothingDone CTrailError := ⟨m_NothingDone, xa_NothingDone, xb_NothingDone, xd_NothingDone, xe_NothingDone, xf_NothingDone, ⟨xg_NothingDone, xh_NothingDone, xd_NothingDone, xi_NothingDone, xj_NothingDone, xn1, xn2, xk_NothingDone⟩, kit_sub yt1 yt2 xl_NothingDone, kit_subV xm_NothingDone⟩
  have m_MOST_SIGNS : ∃ t, mg "MOST_SIGNS" = some (.int 40 t) := ⟨_, PySem.W.mg_of X G g_MOST_SIGNS⟩
  have m_MOST_NAMES : ∃ t, mg "MOST_NAMES" = some (.int 100 t) := ⟨_, PySem.W.mg_of X G g_MOST_NAMES⟩
  have BU : Bl mg := ⟨PySem.W.mg_none_of X G z_len, PySem.W.mg_none_of X G z_range, PySem.W.mg_none_of X G z_tuple, PySem.W.mg_none_of X G z_sorted, PySem.W.mg_none_of X G z_isinstance, PySem.W.mg_none_of X G z_str, PySem.W.mg_none_of X G z_int, PySem.W.mg_none_of X G z_bool, PySem.W.mg_none_of X G z_list, PySem.W.mg_none_of X G z_min, PySem.W.mg_none_of X G z_max, PySem.W.mg_none_of X G z_set, PySem.W.mg_none_of X G z_dict, PySem.W.mg_none_of X G z_ord, PySem.W.mg_none_of X G z_enumerate, PySem.W.mg_none_of X G z_ValueError⟩
  have n_NoName_NotThere := kit_no xi_NotThere xe_NotThere xf_NoName sn_NoName_NotThere
  have n_NoName_TooLong := kit_no xi_TooLong xe_TooLong xf_NoName sn_NoName_TooLong
  have n_NoName_Taken := kit_no xi_Taken xe_Taken xf_NoName sn_NoName_Taken
  have n_NoName_TooMany := kit_no xi_TooMany xe_TooMany xf_NoName sn_NoName_TooMany
  have n_NoName_NothingDone := kit_no xi_NothingDone xe_NothingDone xf_NoName sn_NoName_NothingDone
  have n_NoName_NoNote := kit_no xi_NoNote xe_NoNote xf_NoName sn_NoName_NoNote
  have n_NotThere_NoName := kit_no xi_NoName xe_NoName xf_NotThere sn_NotThere_NoName
  have n_NotThere_TooLong := kit_no xi_TooLong xe_TooLong xf_NotThere sn_NotThere_TooLong
  have n_NotThere_Taken := kit_no xi_Taken xe_Taken xf_NotThere sn_NotThere_Taken
  have n_NotThere_TooMany := kit_no xi_TooMany xe_TooMany xf_NotThere sn_NotThere_TooMany
  have n_NotThere_NothingDone := kit_no xi_NothingDone xe_NothingDone xf_NotThere sn_NotThere_NothingDone
  have n_NotThere_NoNote := kit_no xi_NoNote xe_NoNote xf_NotThere sn_NotThere_NoNote
  have n_TooLong_NoName := kit_no xi_NoName xe_NoName xf_TooLong sn_TooLong_NoName
  have n_TooLong_NotThere := kit_no xi_NotThere xe_NotThere xf_TooLong sn_TooLong_NotThere
  have n_TooLong_Taken := kit_no xi_Taken xe_Taken xf_TooLong sn_TooLong_Taken
  have n_TooLong_TooMany := kit_no xi_TooMany xe_TooMany xf_TooLong sn_TooLong_TooMany
  have n_TooLong_NothingDone := kit_no xi_NothingDone xe_NothingDone xf_TooLong sn_TooLong_NothingDone
  have n_TooLong_NoNote := kit_no xi_NoNote xe_NoNote xf_TooLong sn_TooLong_NoNote
  have n_Taken_NoName := kit_no xi_NoName xe_NoName xf_Taken sn_Taken_NoName
  have n_Taken_NotThere := kit_no xi_NotThere xe_NotThere xf_Taken sn_Taken_NotThere
  have n_Taken_TooLong := kit_no xi_TooLong xe_TooLong xf_Taken sn_Taken_TooLong
  have n_Taken_TooMany := kit_no xi_TooMany xe_TooMany xf_Taken sn_Taken_TooMany
  have n_Taken_NothingDone := kit_no xi_NothingDone xe_NothingDone xf_Taken sn_Taken_NothingDone
  have n_Taken_NoNote := kit_no xi_NoNote xe_NoNote xf_Taken sn_Taken_NoNote
  have n_TooMany_NoName := kit_no xi_NoName xe_NoName xf_TooMany sn_TooMany_NoName
  have n_TooMany_NotThere := kit_no xi_NotThere xe_NotThere xf_TooMany sn_TooMany_NotThere
  have n_TooMany_TooLong := kit_no xi_TooLong xe_TooLong xf_TooMany sn_TooMany_TooLong
  have n_TooMany_Taken := kit_no xi_Taken xe_Taken xf_TooMany sn_TooMany_Taken
  have n_TooMany_NothingDone := kit_no xi_NothingDone xe_NothingDone xf_TooMany sn_TooMany_NothingDone
  have n_TooMany_NoNote := kit_no xi_NoNote xe_NoNote xf_TooMany sn_TooMany_NoNote
  have n_NothingDone_NoName := kit_no xi_NoName xe_NoName xf_NothingDone sn_NothingDone_NoName
  have n_NothingDone_NotThere := kit_no xi_NotThere xe_NotThere xf_NothingDone sn_NothingDone_NotThere
  have n_NothingDone_TooLong := kit_no xi_TooLong xe_TooLong xf_NothingDone sn_NothingDone_TooLong
  have n_NothingDone_Taken := kit_no xi_Taken xe_Taken xf_NothingDone sn_NothingDone_Taken
  have n_NothingDone_TooMany := kit_no xi_TooMany xe_TooMany xf_NothingDone sn_NothingDone_TooMany
  have n_NothingDone_NoNote := kit_no xi_NoNote xe_NoNote xf_NothingDone sn_NothingDone_NoNote
  have u_NoName := PySem.W.exm_ref ytd yt1 yt2 xl_NoName
  have u_NotThere := PySem.W.exm_ref ytd yt1 yt2 xl_NotThere
  have u_TooLong := PySem.W.exm_ref ytd yt1 yt2 xl_TooLong
  have u_Taken := PySem.W.exm_ref ytd yt1 yt2 xl_Taken
  have u_TooMany := PySem.W.exm_ref ytd yt1 yt2 xl_TooMany
  have u_NothingDone := PySem.W.exm_ref ytd yt1 yt2 xl_NothingDone
  have x_Trail : TrC K mg CTrail := ⟨⟨trb, trc, trd, tre⟩, trf, trg, PySem.W.mg_of X G tra, trh, tri⟩
  have FM41 := fun_mk (st := s_Trail_do) l41 c41 k41
  have dm_Trail_do : MDfn K CTrail "do" "Trail.do" s_Trail_do ["self", "tree"] := ⟨_, _, FM41, ⟨a41, i41, k41⟩, FM41.binds (ps := ["self", "tree"]) fun _ _ _ _ _ _ us hl => match us, hl with | [_, _], _ => rfl⟩
  have FM42 := fun_mk (st := s_Trail_size) l42 c42 k42
  have dm_Trail_size : MDfn K CTrail "size" "Trail.size" s_Trail_size ["self"] := ⟨_, _, FM42, ⟨a42, i42, k42⟩, FM42.binds (ps := ["self"]) fun _ _ _ _ _ _ us hl => match us, hl with | [_], _ => rfl⟩
  have FM43 := fun_mk (st := s_Trail_keep) l43 c43 k43
  have dm_Trail_keep : MDfn K CTrail "keep" "Trail.keep" s_Trail_keep ["self", "name", "number"] := ⟨_, _, FM43, ⟨a43, i43, k43⟩, FM43.binds (ps := ["self", "name", "number"]) fun _ _ _ _ _ _ us hl => match us, hl with | [_, _, _], _ => rfl⟩
  have FM44 := fun_mk (st := s_Trail_drop) l44 c44 k44
  have dm_Trail_drop : MDfn K CTrail "drop" "Trail.drop" s_Trail_drop ["self", "name"] := ⟨_, _, FM44, ⟨a44, i44, k44⟩, FM44.binds (ps := ["self", "name"]) fun _ _ _ _ _ _ us hl => match us, hl with | [_, _], _ => rfl⟩
  have FM45 := fun_mk (st := s_Trail_prune) l45 c45 k45
  have dm_Trail_prune : MDfn K CTrail "prune" "Trail.prune" s_Trail_prune ["self", "beginning"] := ⟨_, _, FM45, ⟨a45, i45, k45⟩, FM45.binds (ps := ["self", "beginning"]) fun _ _ _ _ _ _ us hl => match us, hl with | [_, _], _ => rfl⟩
  have FM46 := fun_mk (st := s_Trail_move) l46 c46 k46
  have dm_Trail_move : MDfn K CTrail "move" "Trail.move" s_Trail_move ["self", "beginning", "other"] := ⟨_, _, FM46, ⟨a46, i46, k46⟩, FM46.binds (ps := ["self", "beginning", "other"]) fun _ _ _ _ _ _ us hl => match us, hl with | [_, _, _], _ => rfl⟩
  have FM47 := fun_mk (st := s_Trail_graft) l47 c47 k47
  have dm_Trail_graft : MDfn K CTrail "graft" "Trail.graft" s_Trail_graft ["self", "beginning", "other"] := ⟨_, _, FM47, ⟨a47, i47, k47⟩, FM47.binds (ps := ["self", "beginning", "other"]) fun _ _ _ _ _ _ us hl => match us, hl with | [_, _, _], _ => rfl⟩
  have FM48 := fun_mk (st := s_Trail_back) l48 c48 k48
  have dm_Trail_back : MDfn K CTrail "back" "Trail.back" s_Trail_back ["self"] := ⟨_, _, FM48, ⟨a48, i48, k48⟩, FM48.binds (ps := ["self"]) fun _ _ _ _ _ _ us hl => match us, hl with | [_], _ => rfl⟩
  have FM49 := fun_mk (st := s_Trail_told) l49 c49 k49
  have dm_Trail_told : MDfn K CTrail "told" "Trail.told" s_Trail_told ["self", "beginning"] := ⟨_, _, FM49, ⟨a49, i49, k49⟩, FM49.binds (ps := ["self", "beginning"]) fun _ _ _ _ _ _ us hl => match us, hl with | [_, _], _ => rfl⟩
  have FM50 := fun_mk (st := s_Trail___init__) l50 c50 k50
  have dm_Trail___init__ : MDfn K CTrail "__init__" "Trail.__init__" s_Trail___init__ ["self"] := ⟨_, _, FM50, ⟨a50, i50, k50⟩, FM50.binds (ps := ["self"]) fun _ _ _ _ _ _ us hl => match us, hl with | [_], _ => rfl⟩
  have FM51 := fun_mk (st := s_Trail_tree) l51 c51 k51
  have dm_Trail_tree : MDfn K CTrail "tree" "Trail.tree" s_Trail_tree ["self"] := ⟨_, _, FM51, ⟨a51, i51, k51⟩, FM51.binds (ps := ["self"]) fun _ _ _ _ _ _ us hl => match us, hl with | [_], _ => rfl⟩
  have F40 := fun_mk (st := s_law) l40 c40 k40
  refine ⟨PySem.W.fnOf "law" "law" (defArgs s_law) (defBody s_law) (defScope s_law) .none kV40 dc40 pm40 an40 cd40 ct40, fun s v => .of_eq rfl, fun base _ _ => ?_⟩
  have c_is_sign := cal_is_sign (P := l.prog) (w := w) (base := base) d_is_sign BU
  have c_is_name := cal_is_name (P := l.prog) (w := w) (base := base) d_is_name BU m_MOST_SIGNS c_is_sign
  have c_Trail_do := met_do (P := l.prog) (w := w) (base := base) dm_Trail_do BU x_Trail
  have c_names := cal_names (P := l.prog) (w := w) (base := base) d_names BU
  have c_common := cal_common (P := l.prog) (w := w) (base := base) d_common BU
  have c_branch_of := cal_branch_of (P := l.prog) (w := w) (base := base) d_branch_of BU
  have c_with_branch := cal_with_branch (P := l.prog) (w := w) (base := base) d_with_branch BU
  have c_knot_of := cal_knot_of (P := l.prog) (w := w) (base := base) d_knot_of BU
  have c_cut := cal_cut (P := l.prog) (w := w) (base := base) d_cut BU c_common c_branch_of c_with_branch c_knot_of
  have c_under := cal_under (P := l.prog) (w := w) (base := base) d_under BU c_cut c_names
  have c_many := cal_many (P := l.prog) (w := w) (base := base) d_many BU c_under
  have c_Trail_size := met_size (P := l.prog) (w := w) (base := base) dm_Trail_size BU x_Trail c_many
  have c_need_name := cal_need_name (P := l.prog) (w := w) (base := base) d_need_name BU c_is_name x_NoName
  have c_rest := cal_rest (P := l.prog) (w := w) (base := base) d_rest BU
  have c_found := cal_found (P := l.prog) (w := w) (base := base) d_found BU c_rest c_branch_of
  have c_behind := cal_behind (P := l.prog) (w := w) (base := base) d_behind BU
  have c_put := cal_put (P := l.prog) (w := w) (base := base) d_put BU c_common c_branch_of c_with_branch c_behind
  have c_Trail_keep := met_keep (P := l.prog) (w := w) (base := base) dm_Trail_keep BU m_MOST_NAMES x_Trail x_TooMany c_need_name c_found c_put c_Trail_size c_Trail_do
  have c_thinned := cal_thinned (P := l.prog) (w := w) (base := base) d_thinned BU c_branch_of c_with_branch c_knot_of
  have c_without := cal_without (P := l.prog) (w := w) (base := base) d_without BU c_found c_thinned x_NotThere
  have c_Trail_drop := met_drop (P := l.prog) (w := w) (base := base) dm_Trail_drop BU x_Trail c_need_name c_found c_without c_Trail_do
  have c_Trail_prune := met_prune (P := l.prog) (w := w) (base := base) dm_Trail_prune BU x_Trail x_NotThere c_need_name c_cut c_names c_Trail_do
  have c_need_branch := cal_need_branch (P := l.prog) (w := w) (base := base) d_need_branch BU m_MOST_SIGNS x_NotThere x_TooLong c_need_name c_cut c_names
  have c_branches_behind := cal_branches_behind (P := l.prog) (w := w) (base := base) d_branches_behind BU c_behind
  have c_joined := cal_joined (P := l.prog) (w := w) (base := base) d_joined BU c_common c_branch_of c_with_branch c_branches_behind x_Taken
  have c_ahead := cal_ahead (P := l.prog) (w := w) (base := base) d_ahead BU
  have c_moved := cal_moved (P := l.prog) (w := w) (base := base) d_moved BU c_cut c_ahead c_joined x_NotThere
  have c_Trail_move := met_move (P := l.prog) (w := w) (base := base) dm_Trail_move BU x_Trail c_need_branch c_moved c_names c_Trail_do
  have c_copied := cal_copied (P := l.prog) (w := w) (base := base) d_copied BU c_cut c_ahead c_joined x_NotThere
  have c_Trail_graft := met_graft (P := l.prog) (w := w) (base := base) dm_Trail_graft BU m_MOST_NAMES x_Trail x_TooMany c_need_branch c_copied c_names c_Trail_size c_Trail_do
  have c_Trail_back := met_back (P := l.prog) (w := w) (base := base) dm_Trail_back BU x_Trail x_NothingDone
  have c__law_sign_by := cal_sign_by (P := l.prog) (w := w) (base := base) d__law_sign_by BU
  have c__law_word_by := cal_word_by (P := l.prog) (w := w) (base := base) d__law_word_by BU c__law_sign_by
  have c__law_text_by := cal_text_by (P := l.prog) (w := w) (base := base) d__law_text_by BU c__law_word_by
  have c__law_other_by := cal_other_by (P := l.prog) (w := w) (base := base) d__law_other_by BU c__law_text_by
  have c_Trail_told := met_told (P := l.prog) (w := w) (base := base) dm_Trail_told BU x_Trail c_need_name c_under
  have c_Trail___init__ := met_init (P := l.prog) (w := w) (base := base) dm_Trail___init__ BU x_Trail
  have c__law_named := cal_named (P := l.prog) (w := w) (base := base) d__law_named BU
  have c_Trail_tree := met_tree (P := l.prog) (w := w) (base := base) dm_Trail_tree BU x_Trail
  have c__law_branch := cal_branch12 (P := l.prog) (w := w) (base := base) d__law_branch BU
  have c__law_due := cal_due12 (P := l.prog) (w := w) (base := base) d__law_due BU c__law_named c__law_branch
  have c__law_word_of := cal_word_of (P := l.prog) (w := w) (base := base) d__law_word_of BU x_NoName x_NotThere x_TooLong x_Taken x_TooMany x_NothingDone x_NoNote
  have c__law_whole := cal_whole (P := l.prog) (w := w) (base := base) d__law_whole BU
  have c__law_alike := cal_alike (P := l.prog) (w := w) (base := base) d__law_alike BU c__law_whole
  have c__law_first_deeds := cal_first (P := l.prog) (w := w) (base := base) d__law_first_deeds BU
  have c__law_begun := cal_begun (P := l.prog) (w := w) (base := base) d__law_begun BU x_Trail c_Trail_keep c_Trail_graft
  have c__law_tried := cal_tried (P := l.prog) (w := w) (base := base) d__law_tried BU x_Trail m_TrailError x_NoName x_NotThere x_TooLong x_Taken x_TooMany x_NothingDone x_NoNote u_NoName u_NotThere u_TooLong u_Taken u_TooMany u_NothingDone n_NoName_NotThere n_NoName_TooLong n_NoName_Taken n_NoName_TooMany n_NoName_NothingDone n_NoName_NoNote n_NotThere_NoName n_NotThere_TooLong n_NotThere_Taken n_NotThere_TooMany n_NotThere_NothingDone n_NotThere_NoNote n_TooLong_NoName n_TooLong_NotThere n_TooLong_Taken n_TooLong_TooMany n_TooLong_NothingDone n_TooLong_NoNote n_Taken_NoName n_Taken_NotThere n_Taken_TooLong n_Taken_TooMany n_Taken_NothingDone n_Taken_NoNote n_TooMany_NoName n_TooMany_NotThere n_TooMany_TooLong n_TooMany_Taken n_TooMany_NothingDone n_TooMany_NoNote n_NothingDone_NoName n_NothingDone_NotThere n_NothingDone_TooLong n_NothingDone_Taken n_NothingDone_TooMany n_NothingDone_NoNote c__law_word_of c_Trail_told c_Trail_keep c_Trail_drop c_Trail_prune c_Trail_move c_Trail_graft c_Trail_back
  have c__law_tells := cal_tells (P := l.prog) (w := w) (base := base) d__law_tells BU x_Trail c__law_named c__law_alike c__law_tried c_Trail_told
  have c__law_number_by := cal_number_by (P := l.prog) (w := w) (base := base) d__law_number_by BU
  have c__law_cell_at := cal_cell_at (P := l.prog) (w := w) (base := base) d__law_cell_at BU
  exact ok_law (P := l.prog) (w := w) (base := base) F40 BU m_MOST_NAMES x_Trail c__law_cell_at c__law_word_by c__law_alike c_Trail___init__ c_Trail_size c__law_begun c__law_first_deeds c__law_text_by c__law_other_by c__law_number_by c__law_due c__law_tried c__law_tells
theorem walk {l : PySem.W.OpenLaw} {q : Program} {loose : List Str} {XP : (Str → Option Value) → Heap → Prop} {YP : World → Heap → Prop} {d : DefRec} {K : Params → PySem.W.Frag} (hn : l.most = some 63) (hdf : d.params.defaults = [])
    (hY : ∀ (w : World) (h : Heap), YP w h → (K w.params).In h)
    (F : ∀ (w : World) (mg : Str → Option Value) (fa : Addr) (h : Heap), (K w.params).In h → h.Ns mainGlobals mg → mg d.name = some (.ref fa) →
      ∃ fd : FuncData, (∀ (s : Shared) (u : Value), BindsTo s fd ⟨[u], []⟩ [("_law_script", u)]) ∧ ∀ base : Heap, (K w.params).In base → base.Ns mainGlobals mg → FnOk l.prog w (K w.params) mg base CX0 50 fa fd ["_law_script"] (Fn (K w.params) Rlaw)) :
    PySem.W.WalkO q loose XP YP l.row.toRowW d [] (fun f vs => PySem.call f vs) :=
  L2.walk_of (n := 63) (k := 50) (x := "_law_script") (CX := fun _ => CX0) (sp := fun w => Fn (K w.params) Rlaw) hn (by decide) hdf ⟨rfl, by decide, by decide⟩ hY F
    (fun _ _ a ns hl hO hS => ⟨[.scr ns], .bl true, ⟨.ref a, [], rfl, ⟨a, rfl, Fz.of hS hO⟩, rfl⟩, ⟨ns, rfl, hl, rfl⟩, fun v H' _ hv => hv⟩) fun _ _ _ _ _ z => z
end Rt
open PySem PySem.W PyProof.Rows in
set_option maxRecDepth 100000 in
set_option maxHeartbeats 0 in
theorem PySem.Challenge.cw_radixtrail_k12_whole_deeds_holds : PySem.Challenge.rw_radixtrail_k12_whole_deeds.Holds := by
  w_on; o_law; k_head; (case hw => w_witness2)
  k_fill
  refine Rt.walk (l := PySem.Challenge.rw_radixtrail_k12_whole_deeds) rfl rfl (fun w h Y => PySem.W.kIn_of Y) ?F
  case F =>
    intro w mg fa h KX G hmg
    refine' Rt.all_mk KX G hmg ?a1 ?l1 ?c1 ?k1 ?a2 ?l2 ?c2 ?k2 ?a3 ?l3 ?c3 ?k3 ?a4 ?l4 ?c4 ?k4 ?a5 ?l5 ?c5 ?k5 ?a6 ?l6 ?c6 ?k6 ?a7 ?l7 ?c7 ?k7 ?a8 ?l8 ?c8 ?k8 ?a9 ?l9 ?c9 ?k9 ?a10 ?l10 ?c10 ?k10 ?a11 ?l11 ?c11 ?k11 ?a12 ?l12 ?c12 ?k12 ?a13 ?l13 ?c13 ?k13 ?a14 ?l14 ?c14 ?k14 ?a15 ?l15 ?c15 ?k15 ?a16 ?l16 ?c16 ?k16 ?a17 ?l17 ?c17 ?k17 ?a18 ?l18 ?c18 ?k18 ?a19 ?l19 ?c19 ?k19 ?a20 ?l20 ?c20 ?k20 ?a21 ?l21 ?c21 ?k21 ?a22 ?l22 ?c22 ?k22 ?a23 ?l23 ?c23 ?k23 ?a24 ?l24 ?c24 ?k24 ?a25 ?l25 ?c25 ?k25 ?a26 ?l26 ?c26 ?k26 ?a27 ?l27 ?c27 ?k27 ?a28 ?l28 ?c28 ?k28 ?a29 ?l29 ?c29 ?k29 ?a30 ?l30 ?c30 ?k30 ?a31 ?l31 ?c31 ?k31 ?a32 ?l32 ?c32 ?k32 ?a33 ?l33 ?c33 ?k33 ?a34 ?l34 ?c34 ?k34 ?a35 ?l35 ?c35 ?k35 ?a36 ?l36 ?c36 ?k36 ?a37 ?l37 ?c37 ?k37 ?a38 ?l38 ?c38 ?k38 ?a39 ?l39 ?c39 ?k39 ?a40 ?l40 ?c40 ?k40 ?z_len ?z_range ?z_tuple ?z_sorted ?z_isinstance ?z_str ?z_int ?z_bool ?z_list ?z_min ?z_max ?z_set ?z_dict ?z_ord ?z_enumerate ?z_ValueError ?aC_TrailError ?aC_NoName ?aC_NotThere ?aC_Taken ?aC_TooLong ?aC_TooMany ?aC_NoNote ?aC_NothingDone ?xn1 ?xn2 ?yt1 ?yt2 ?xa_NoName ?xb_NoName ?xd_NoName ?xe_NoName ?xf_NoName ?xg_NoName ?xh_NoName ?xi_NoName ?xj_NoName ?xk_NoName ?xl_NoName ?xm_NoName ?xa_NotThere ?xb_NotThere ?xd_NotThere ?xe_NotThere ?xf_NotThere ?xg_NotThere ?xh_NotThere ?xi_NotThere ?xj_NotThere ?xk_NotThere ?xl_NotThere ?xm_NotThere ?xa_Taken ?xb_Taken ?xd_Taken ?xe_Taken ?xf_Taken ?xg_Taken ?xh_Taken ?xi_Taken ?xj_Taken ?xk_Taken ?xl_Taken ?xm_Taken ?xa_TooLong ?xb_TooLong ?xd_TooLong ?xe_TooLong ?xf_TooLong ?xg_TooLong ?xh_TooLong ?xi_TooLong ?xj_TooLong ?xk_TooLong ?xl_TooLong ?xm_TooLong ?xa_TooMany ?xb_TooMany ?xd_TooMany ?xe_TooMany ?xf_TooMany ?xg_TooMany ?xh_TooMany ?xi_TooMany ?xj_TooMany ?xk_TooMany ?xl_TooMany ?xm_TooMany ?xa_NoNote ?xb_NoNote ?xd_NoNote ?xe_NoNote ?xf_NoNote ?xg_NoNote ?xh_NoNote ?xi_NoNote ?xj_NoNote ?xk_NoNote ?xl_NoNote ?xm_NoNote ?xa_NothingDone ?xb_NothingDone ?xd_NothingDone ?xe_NothingDone ?xf_NothingDone ?xg_NothingDone ?xh_NothingDone ?xi_NothingDone ?xj_NothingDone ?xk_NothingDone ?xl_NothingDone ?xm_NothingDone ?g_MOST_SIGNS ?g_MOST_NAMES ?sn_NoName_NotThere ?sn_NoName_TooLong ?sn_NoName_Taken ?sn_NoName_TooMany ?sn_NoName_NothingDone ?sn_NoName_NoNote ?sn_NotThere_NoName ?sn_NotThere_TooLong ?sn_NotThere_Taken ?sn_NotThere_TooMany ?sn_NotThere_NothingDone ?sn_NotThere_NoNote ?sn_TooLong_NoName ?sn_TooLong_NotThere ?sn_TooLong_Taken ?sn_TooLong_TooMany ?sn_TooLong_NothingDone ?sn_TooLong_NoNote ?sn_Taken_NoName ?sn_Taken_NotThere ?sn_Taken_TooLong ?sn_Taken_TooMany ?sn_Taken_NothingDone ?sn_Taken_NoNote ?sn_TooMany_NoName ?sn_TooMany_NotThere ?sn_TooMany_TooLong ?sn_TooMany_Taken ?sn_TooMany_NothingDone ?sn_TooMany_NoNote ?sn_NothingDone_NoName ?sn_NothingDone_NotThere ?sn_NothingDone_TooLong ?sn_NothingDone_Taken ?sn_NothingDone_TooMany ?sn_NothingDone_NoNote ?ytd ?tra ?trb ?trc ?trd ?tre ?trf ?trg ?trh ?tri ?a41 ?i41 ?l41 ?c41 ?k41 ?a42 ?i42 ?l42 ?c42 ?k42 ?a43 ?i43 ?l43 ?c43 ?k43 ?a44 ?i44 ?l44 ?c44 ?k44 ?a45 ?i45 ?l45 ?c45 ?k45 ?a46 ?i46 ?l46 ?c46 ?k46 ?a47 ?i47 ?l47 ?c47 ?k47 ?a48 ?i48 ?l48 ?c48 ?k48 ?a49 ?i49 ?l49 ?c49 ?k49 ?a50 ?i50 ?l50 ?c50 ?k50 ?a51 ?i51 ?l51 ?c51 ?k51
    (case a1 => k_is)
    (case l1 => k_is)
    (case c1 => k_is)
    (case k1 => k_is)
    (case a2 => k_is)
    (case l2 => k_is)
    (case c2 => k_is)
    (case k2 => k_is)
    (case a3 => k_is)
    (case l3 => k_is)
    (case c3 => k_is)
    (case k3 => k_is)
    (case a4 => k_is)
    (case l4 => k_is)
    (case c4 => k_is)
    (case k4 => k_is)
    (case a5 => k_is)
    (case l5 => k_is)
    (case c5 => k_is)
    (case k5 => k_is)
    (case a6 => k_is)
    (case l6 => k_is)
    (case c6 => k_is)
    (case k6 => k_is)
    (case a7 => k_is)
    (case l7 => k_is)
    (case c7 => k_is)
    (case k7 => k_is)
    (case a8 => k_is)
    (case l8 => k_is)
    (case c8 => k_is)
    (case k8 => k_is)
    (case a9 => k_is)
    (case l9 => k_is)
    (case c9 => k_is)
    (case k9 => k_is)
    (case a10 => k_is)
    (case l10 => k_is)
    (case c10 => k_is)
    (case k10 => k_is)
    (case a11 => k_is)
    (case l11 => k_is)
    (case c11 => k_is)
    (case k11 => k_is)
    (case a12 => k_is)
    (case l12 => k_is)
    (case c12 => k_is)
    (case k12 => k_is)
    (case a13 => k_is)
    (case l13 => k_is)
    (case c13 => k_is)
    (case k13 => k_is)
    (case a14 => k_is)
    (case l14 => k_is)
    (case c14 => k_is)
    (case k14 => k_is)
    (case a15 => k_is)
    (case l15 => k_is)
    (case c15 => k_is)
    (case k15 => k_is)
    (case a16 => k_is)
    (case l16 => k_is)
    (case c16 => k_is)
    (case k16 => k_is)
    (case a17 => k_is)
    (case l17 => k_is)
    (case c17 => k_is)
    (case k17 => k_is)
    (case a18 => k_is)
    (case l18 => k_is)
    (case c18 => k_is)
    (case k18 => k_is)
    (case a19 => k_is)
    (case l19 => k_is)
    (case c19 => k_is)
    (case k19 => k_is)
    (case a20 => k_is)
    (case l20 => k_is)
    (case c20 => k_is)
    (case k20 => k_is)
    (case a21 => k_is)
    (case l21 => k_is)
    (case c21 => k_is)
    (case k21 => k_is)
    (case a22 => k_is)
    (case l22 => k_is)
    (case c22 => k_is)
    (case k22 => k_is)
    (case a23 => k_is)
    (case l23 => k_is)
    (case c23 => k_is)
    (case k23 => k_is)
    (case a24 => k_is)
    (case l24 => k_is)
    (case c24 => k_is)
    (case k24 => k_is)
    (case a25 => k_is)
    (case l25 => k_is)
    (case c25 => k_is)
    (case k25 => k_is)
    (case a26 => k_is)
    (case l26 => k_is)
    (case c26 => k_is)
    (case k26 => k_is)
    (case a27 => k_is)
    (case l27 => k_is)
    (case c27 => k_is)
    (case k27 => k_is)
    (case a28 => k_is)
    (case l28 => k_is)
    (case c28 => k_is)
    (case k28 => k_is)
    (case a29 => k_is)
    (case l29 => k_is)
    (case c29 => k_is)
    (case k29 => k_is)
    (case a30 => k_is)
    (case l30 => k_is)
    (case c30 => k_is)
    (case k30 => k_is)
    (case a31 => k_is)
    (case l31 => k_is)
    (case c31 => k_is)
    (case k31 => k_is)
    (case a32 => k_is)
    (case l32 => k_is)
    (case c32 => k_is)
    (case k32 => k_is)
    (case a33 => k_is)
    (case l33 => k_is)
    (case c33 => k_is)
    (case k33 => k_is)
    (case a34 => k_is)
    (case l34 => k_is)
    (case c34 => k_is)
    (case k34 => k_is)
    (case a35 => k_is)
    (case l35 => k_is)
    (case c35 => k_is)
    (case k35 => k_is)
    (case a36 => k_is)
    (case l36 => k_is)
    (case c36 => k_is)
    (case k36 => k_is)
    (case a37 => k_is)
    (case l37 => k_is)
    (case c37 => k_is)
    (case k37 => k_is)
    (case a38 => k_is)
    (case l38 => k_is)
    (case c38 => k_is)
    (case k38 => k_is)
    (case a39 => k_is)
    (case l39 => k_is)
    (case c39 => k_is)
    (case k39 => k_is)
    (case a40 => k_is)
    (case l40 => k_is)
    (case c40 => k_is)
    (case k40 => k_is)
    (case z_len => k_is)
    (case z_range => k_is)
    (case z_tuple => k_is)
    (case z_sorted => k_is)
    (case z_isinstance => k_is)
    (case z_str => k_is)
    (case z_int => k_is)
    (case z_bool => k_is)
    (case z_list => k_is)
    (case z_min => k_is)
    (case z_max => k_is)
    (case z_set => k_is)
    (case z_dict => k_is)
    (case z_ord => k_is)
    (case z_enumerate => k_is)
    (case z_ValueError => k_is)
    (case aC_TrailError => k_is)
    (case aC_NoName => k_is)
    (case aC_NotThere => k_is)
    (case aC_Taken => k_is)
    (case aC_TooLong => k_is)
    (case aC_TooMany => k_is)
    (case aC_NoNote => k_is)
    (case aC_NothingDone => k_is)
    (case xn1 => k_is)
    (case xn2 => k_is)
    (case yt1 => k_is)
    (case yt2 => k_is)
    (case xa_NoName => k_exc)
    (case xb_NoName => k_is)
    (case xd_NoName => k_is)
    (case xe_NoName => k_is)
    (case xf_NoName => first | k_is | rfl)
    (case xg_NoName => k_is)
    (case xh_NoName => k_is)
    (case xi_NoName => k_is)
    (case xj_NoName => k_is)
    (case xk_NoName => k_is)
    (case xl_NoName => first | k_is | rfl)
    (case xm_NoName => k_is)
    (case xa_NotThere => k_exc)
    (case xb_NotThere => k_is)
    (case xd_NotThere => k_is)
    (case xe_NotThere => k_is)
    (case xf_NotThere => first | k_is | rfl)
    (case xg_NotThere => k_is)
    (case xh_NotThere => k_is)
    (case xi_NotThere => k_is)
    (case xj_NotThere => k_is)
    (case xk_NotThere => k_is)
    (case xl_NotThere => first | k_is | rfl)
    (case xm_NotThere => k_is)
    (case xa_Taken => k_exc)
    (case xb_Taken => k_is)
    (case xd_Taken => k_is)
    (case xe_Taken => k_is)
    (case xf_Taken => first | k_is | rfl)
    (case xg_Taken => k_is)
    (case xh_Taken => k_is)
    (case xi_Taken => k_is)
    (case xj_Taken => k_is)
    (case xk_Taken => k_is)
    (case xl_Taken => first | k_is | rfl)
    (case xm_Taken => k_is)
    (case xa_TooLong => k_exc)
    (case xb_TooLong => k_is)
    (case xd_TooLong => k_is)
    (case xe_TooLong => k_is)
    (case xf_TooLong => first | k_is | rfl)
    (case xg_TooLong => k_is)
    (case xh_TooLong => k_is)
    (case xi_TooLong => k_is)
    (case xj_TooLong => k_is)
    (case xk_TooLong => k_is)
    (case xl_TooLong => first | k_is | rfl)
    (case xm_TooLong => k_is)
    (case xa_TooMany => k_exc)
    (case xb_TooMany => k_is)
    (case xd_TooMany => k_is)
    (case xe_TooMany => k_is)
    (case xf_TooMany => first | k_is | rfl)
    (case xg_TooMany => k_is)
    (case xh_TooMany => k_is)
    (case xi_TooMany => k_is)
    (case xj_TooMany => k_is)
    (case xk_TooMany => k_is)
    (case xl_TooMany => first | k_is | rfl)
    (case xm_TooMany => k_is)
    (case xa_NoNote => k_exc)
    (case xb_NoNote => k_is)
    (case xd_NoNote => k_is)
    (case xe_NoNote => k_is)
    (case xf_NoNote => first | k_is | rfl)
    (case xg_NoNote => k_is)
    (case xh_NoNote => k_is)
    (case xi_NoNote => k_is)
    (case xj_NoNote => k_is)
    (case xk_NoNote => k_is)
    (case xl_NoNote => first | k_is | rfl)
    (case xm_NoNote => k_is)
    (case xa_NothingDone => k_exc)
    (case xb_NothingDone => k_is)
    (case xd_NothingDone => k_is)
    (case xe_NothingDone => k_is)
    (case xf_NothingDone => first | k_is | rfl)
    (case xg_NothingDone => k_is)
    (case xh_NothingDone => k_is)
    (case xi_NothingDone => k_is)
    (case xj_NothingDone => k_is)
    (case xk_NothingDone => k_is)
    (case xl_NothingDone => first | k_is | rfl)
    (case xm_NothingDone => k_is)
    (case g_MOST_SIGNS => k_is)
    (case g_MOST_NAMES => k_is)
    (case sn_NoName_NotThere => k_is)
    (case sn_NoName_TooLong => k_is)
    (case sn_NoName_Taken => k_is)
    (case sn_NoName_TooMany => k_is)
    (case sn_NoName_NothingDone => k_is)
    (case sn_NoName_NoNote => k_is)
    (case sn_NotThere_NoName => k_is)
    (case sn_NotThere_TooLong => k_is)
    (case sn_NotThere_Taken => k_is)
    (case sn_NotThere_TooMany => k_is)
    (case sn_NotThere_NothingDone => k_is)
    (case sn_NotThere_NoNote => k_is)
    (case sn_TooLong_NoName => k_is)
    (case sn_TooLong_NotThere => k_is)
    (case sn_TooLong_Taken => k_is)
    (case sn_TooLong_TooMany => k_is)
    (case sn_TooLong_NothingDone => k_is)
    (case sn_TooLong_NoNote => k_is)
    (case sn_Taken_NoName => k_is)
    (case sn_Taken_NotThere => k_is)
    (case sn_Taken_TooLong => k_is)
    (case sn_Taken_TooMany => k_is)
    (case sn_Taken_NothingDone => k_is)
    (case sn_Taken_NoNote => k_is)
    (case sn_TooMany_NoName => k_is)
    (case sn_TooMany_NotThere => k_is)
    (case sn_TooMany_TooLong => k_is)
    (case sn_TooMany_Taken => k_is)
    (case sn_TooMany_NothingDone => k_is)
    (case sn_TooMany_NoNote => k_is)
    (case sn_NothingDone_NoName => k_is)
    (case sn_NothingDone_NotThere => k_is)
    (case sn_NothingDone_TooLong => k_is)
    (case sn_NothingDone_Taken => k_is)
    (case sn_NothingDone_TooMany => k_is)
    (case sn_NothingDone_NoNote => k_is)
    (case ytd => k_is)
    (case tra => k_is)
    (case trb => k_is)
    (case trc => k_is)
    (case trd => k_is)
    (case tre => k_is)
    (case trf => k_is)
    (case trg => k_is)
    (case trh => k_is)
    (case tri => k_is)
    (case a41 => k_is)
    (case i41 => k_is)
    (case l41 => k_is)
    (case c41 => k_is)
    (case k41 => k_is)
    (case a42 => k_is)
    (case i42 => k_is)
    (case l42 => k_is)
    (case c42 => k_is)
    (case k42 => k_is)
    (case a43 => k_is)
    (case i43 => k_is)
    (case l43 => k_is)
    (case c43 => k_is)
    (case k43 => k_is)
    (case a44 => k_is)
    (case i44 => k_is)
    (case l44 => k_is)
    (case c44 => k_is)
    (case k44 => k_is)
    (case a45 => k_is)
    (case i45 => k_is)
    (case l45 => k_is)
    (case c45 => k_is)
    (case k45 => k_is)
    (case a46 => k_is)
    (case i46 => k_is)
    (case l46 => k_is)
    (case c46 => k_is)
    (case k46 => k_is)
    (case a47 => k_is)
    (case i47 => k_is)
    (case l47 => k_is)
    (case c47 => k_is)
    (case k47 => k_is)
    (case a48 => k_is)
    (case i48 => k_is)
    (case l48 => k_is)
    (case c48 => k_is)
    (case k48 => k_is)
    (case a49 => k_is)
    (case i49 => k_is)
    (case l49 => k_is)
    (case c49 => k_is)
    (case k49 => k_is)
    (case a50 => k_is)
    (case i50 => k_is)
    (case l50 => k_is)
    (case c50 => k_is)
    (case k50 => k_is)
    (case a51 => k_is)
    (case i51 => k_is)
    (case l51 => k_is)
    (case c51 => k_is)
    (case k51 => k_is)
