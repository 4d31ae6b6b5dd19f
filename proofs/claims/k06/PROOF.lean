import PyProof.Rows.All
import Wide.All
import OpenK.AllK
import Wide.FinOn
import HandS.ForMost
import HandS.ForExc
import HandS.Codes
import HandS.IsInst
import HandS.SortRule
import HandS.Deep
import HandS.ExcIs
import HandS.Strs
import PySem.Challenge.RW_radixtrail_k06_all_knots
set_option Elab.async false
set_option linter.all false
set_option maxRecDepth 100000
set_option maxHeartbeats 4000000
namespace Rt
open PySem L2

/-! ### texts as lists of signs -/
abbrev Tx := List Nat
def S (l : Tx) : Str := ⟨l.toArray⟩
theorem S_cps (l : Tx) : (S l).cps.toList = l := by simp [S]
theorem S_of (x : Str) : S x.cps.toList = x := by cases x; simp [S]
theorem S_inj {a b : Tx} (h : S a = S b) : a = b := by
  have := congrArg (fun z : Str => z.cps.toList) h
  simpa [S_cps] using this
theorem S_eq {a b : Tx} : (S a = S b) ↔ a = b := ⟨S_inj, fun h => by rw [h]⟩
theorem S_len (l : Tx) : (S l).length = l.length := by simp [S, Str.length]
theorem S_app (a b : Tx) : S a ++ S b = S (a ++ b) := by
  show (⟨(S a).cps ++ (S b).cps⟩ : Str) = _
  simp [S]
def tx (s : String) : Tx := (Str.ofString s).cps.toList
theorem S_tx (s : String) : S (tx s) = Str.ofString s := S_of _
def cutL (l : Tx) (lo hi : Option Int) : Tx := (l.drop (HT.sIx l.length 0 lo)).take (HT.sIx l.length l.length hi - HT.sIx l.length 0 lo)
theorem S_cut (l : Tx) (lo hi : Option Int) : cutS (S l) lo hi = S (cutL l lo hi) := by
  show (⟨(((S l).cps.toList.drop (HT.sIx (S l).length 0 lo)).take (HT.sIx (S l).length (S l).length hi - HT.sIx (S l).length 0 lo)).toArray⟩ : Str) = _
  rw [S_cps, S_len]; rfl
theorem cutL_nn (l : Tx) (i j : Nat) : cutL l (some (i : Int)) (some (j : Int)) = (l.drop i).take (j - i) := by
  unfold cutL
  rw [HT.sIx_nat, HT.sIx_nat]
  by_cases h : i ≤ l.length
  · rw [Nat.min_eq_left h]
    by_cases h2 : j ≤ l.length
    · rw [Nat.min_eq_left h2]
    · rw [Nat.min_eq_right (by omega)]
      rw [List.take_of_length_le (by rw [List.length_drop]; omega), List.take_of_length_le (by rw [List.length_drop]; omega)]
  · rw [Nat.min_eq_right (by omega : l.length ≤ i), List.drop_eq_nil_of_le (Nat.le_refl _), List.drop_eq_nil_of_le (by omega : l.length ≤ i)]
    simp
theorem cutL_to (l : Tx) (j : Nat) : cutL l none (some (j : Int)) = l.take j := by
  have h := cutL_nn l 0 j
  rw [List.drop_zero, Nat.sub_zero] at h
  rw [← h]
  unfold cutL
  rw [HT.sIx_nat, HT.sIx_none, HT.sIx_nat]; simp
theorem cutL_from (l : Tx) (i : Nat) : cutL l (some (i : Int)) none = l.drop i := by
  unfold cutL
  rw [HT.sIx_nat, HT.sIx_none]
  by_cases h : i ≤ l.length
  · rw [Nat.min_eq_left h, List.take_of_length_le (by rw [List.length_drop]; omega)]
  · rw [Nat.min_eq_right (by omega), List.drop_eq_nil_of_le (Nat.le_refl _), List.drop_eq_nil_of_le (by omega : l.length ≤ i)]; simp
theorem cutL_to1 (l : Tx) : cutL l none (some 1) = l.take 1 := cutL_to l 1
theorem cutL_from1 (l : Tx) : cutL l (some 1) none = l.drop 1 := cutL_from l 1
theorem cutL_one (l : Tx) (k : Nat) : cutL l (some (k : Int)) (some ((k : Int) + 1)) = (l.drop k).take 1 := by
  rw [show ((k : Int) + 1) = ((k + 1 : Nat) : Int) by omega, cutL_nn, Nat.add_sub_cancel_left]
theorem cutL_behind (l : Tx) (k : Nat) : cutL l (some ((k : Int) + 1)) none = l.drop (k + 1) := by
  rw [show ((k : Int) + 1) = ((k + 1 : Nat) : Int) by omega, cutL_from]

/-! ### data -/
inductive D where
  | non | bl (b : Bool) | int (i : Int) | str (l : Tx) | tup (ds : List D) | lst (ds : List D) | raw (v : V) | scr (ns : List Int)
mutual
def D.imm : D → Bool
  | .tup ds => D.imms ds
  | .lst _ => false
  | _ => true
def D.imms : List D → Bool
  | [] => true
  | d :: ds => d.imm && D.imms ds
end
theorem D.imms_mem : ∀ {ds : List D}, D.imms ds = true → ∀ d ∈ ds, d.imm = true
  | [], _, d, h => by cases h
  | e :: ds, h, d, hd => by
    have h' : (e.imm && D.imms ds) = true := h
    rw [Bool.and_eq_true] at h'
    rcases List.mem_cons.mp hd with rfl | hd
    · exact h'.1
    · exact D.imms_mem h'.2 d hd
theorem D.imms_of : ∀ {ds : List D}, (∀ d ∈ ds, d.imm = true) → D.imms ds = true
  | [], _ => rfl
  | e :: ds, h => by
    show (e.imm && D.imms ds) = true
    rw [h e List.mem_cons_self, D.imms_of fun d hd => h d (List.mem_cons_of_mem _ hd)]; rfl
theorem D.imms_app {a b : List D} (ha : D.imms a = true) (hb : D.imms b = true) : D.imms (a ++ b) = true :=
  D.imms_of fun d hd => (List.mem_append.mp hd).elim (D.imms_mem ha d) (D.imms_mem hb d)
theorem D.imms_map {α : Type} {f : α → D} {l : List α} (h : ∀ x ∈ l, (f x).imm = true) : D.imms (l.map f) = true :=
  D.imms_of fun d hd => by
    obtain ⟨x, hx, rfl⟩ := List.mem_map.mp hd
    exact h x hx
def immS : List (Option D) → Bool
  | [] => true
  | none :: r => immS r
  | some d :: r => d.imm && immS r
theorem immS_of : ∀ {ds : List (Option D)}, immS ds = true → ∀ d, some d ∈ ds → d.imm = true
  | [], _, d, h => by cases h
  | none :: r, h, d, hd => by
    rcases List.mem_cons.mp hd with q | q
    · cases q
    · exact immS_of (ds := r) h d q
  | some e :: r, h, d, hd => by
    have h' : (e.imm && immS r) = true := h
    rw [Bool.and_eq_true] at h'
    rcases List.mem_cons.mp hd with q | q
    · cases q; exact h'.1
    · exact immS_of (ds := r) h'.2 d q
theorem D.imm_tup {ds : List D} (h : D.imms ds = true) : (D.tup ds).imm = true := h

section
variable {K : PySem.W.Frag} {H H' : Hp}
/-- a list that nobody changes: the script -/
def Fz (K : PySem.W.Frag) (H : Hp) (a : Addr) (xs : List V) : Prop :=
  (∃ o, H a = some (.frz o (.lst xs))) ∨ ∃ (o : Obj) (its : Array Value) (n : Nat), K.lookup a = some o ∧ o.cls = .type "list" ∧ o.dict = none ∧ o.data = .seq its n ∧ its.size ≤ sizeLine ∧ Vals xs its.toList
theorem Fz.sql {a : Addr} {xs : List V} (h : Fz K H a xs) : SqL K H a xs := by
  rcases h with ⟨o, h⟩ | h
  · exact .inl (.inr ⟨o, h⟩)
  · exact .inr h
theorem Fz.of {a : Addr} {xs : List V} (h : SqL K H a xs) (ho : Only H) : Fz K H a xs := by
  rcases h with (h | ⟨o, h⟩) | h
  · rcases ho a with q | ⟨o, ys, q⟩
    · rw [h] at q; cases q
    · rw [h] at q; cases q
  · exact .inl ⟨o, h⟩
  · exact .inr h
theorem Fz.mono {a : Addr} {xs : List V} (e : Same H H') (h : Fz K H a xs) : Fz K H' a xs := by
  rcases h with ⟨o, h⟩ | h
  · exact .inl ⟨o, e _ _ h⟩
  · exact .inr h
theorem Fz.put {a l : Addr} {xs ys : List V} {o : HO} (hl : H l = some (.lst ys)) (h : Fz K H a xs) : Fz K (upd H l o) a xs := by
  rcases h with ⟨u, h⟩ | h
  · exact .inl ⟨u, by rw [upd_ne (ne_of h hl (by intro q; cases q))]; exact h⟩
  · exact .inr h
mutual
def Dt (K : PySem.W.Frag) (H : Hp) : D → V → Prop
  | .non, v => v = .non
  | .bl b, v => v = .bl b
  | .int i, v => v = .int i
  | .str l, v => v = .str (S l)
  | .raw w, v => v = w
  | .scr ns, v => ∃ a, v = .ref a ∧ Fz K H a (ns.map V.int)
  | .tup ds, v => ∃ a vs, v = .ref a ∧ H a = some (.tup vs) ∧ Dts K H ds vs
  | .lst ds, v => ∃ a vs, v = .ref a ∧ H a = some (.lst vs) ∧ Dts K H ds vs
def Dts (K : PySem.W.Frag) (H : Hp) : List D → List V → Prop
  | [], vs => vs = []
  | d :: ds, vs => ∃ v r, vs = v :: r ∧ Dt K H d v ∧ Dts K H ds r
end
theorem Same.rd {a : Addr} {u : HO} (e : Same H H') (h : Rd H a u) : Rd H' a u := by
  rcases h with h | ⟨o, h⟩
  · exact .inl (e a _ h)
  · exact .inr ⟨o, e a _ h⟩
theorem Same.sqt {a : Addr} {xs : List V} (e : Same H H') (h : SqT K H a xs) : SqT K H' a xs := by
  rcases h with h | h
  · exact .inl (Same.rd e h)
  · exact .inr h
theorem Same.sql {a : Addr} {xs : List V} (e : Same H H') (h : SqL K H a xs) : SqL K H' a xs := e.seq h
theorem Same.new {p : Addr} {o : HO} (h : H p = none) : Same H (upd H p o) := fun a u e => by
  rw [upd_ne (ne_of_none e h)]
  exact e
theorem Same.mut {p : Addr} {o : HO} (e : Same H H') (h : H p = none) : Same H (upd H' p o) := fun a u ha => by
  rw [upd_ne (ne_of_none ha h)]
  exact e a u ha
mutual
theorem Dt.mono (e : Same H H') : ∀ (d : D) {v : V}, Dt K H d v → Dt K H' d v
  | .non, _, h => h
  | .bl _, _, h => h
  | .int _, _, h => h
  | .str _, _, h => h
  | .raw _, _, h => h
  | .scr _, _, ⟨a, h1, h2⟩ => ⟨a, h1, Fz.mono e h2⟩
  | .tup ds, _, ⟨a, vs, h1, h2, h3⟩ => ⟨a, vs, h1, e _ _ h2, Dts.mono e ds h3⟩
  | .lst ds, _, ⟨a, vs, h1, h2, h3⟩ => ⟨a, vs, h1, e _ _ h2, Dts.mono e ds h3⟩
theorem Dts.mono (e : Same H H') : ∀ (ds : List D) {vs : List V}, Dts K H ds vs → Dts K H' ds vs
  | [], _, h => h
  | d :: ds, _, ⟨v, r, h1, h2, h3⟩ => ⟨v, r, h1, Dt.mono e d h2, Dts.mono e ds h3⟩
end
mutual
theorem Dt.put {l : Addr} {xs : List V} {o : HO} (hl : H l = some (.lst xs)) : ∀ (d : D) {v : V}, d.imm = true → Dt K H d v → Dt K (upd H l o) d v
  | .non, _, _, h => h
  | .bl _, _, _, h => h
  | .int _, _, _, h => h
  | .str _, _, _, h => h
  | .raw _, _, _, h => h
  | .scr _, _, _, ⟨a, h1, h2⟩ => ⟨a, h1, Fz.put hl h2⟩
  | .tup ds, _, i, ⟨a, vs, h1, h2, h3⟩ => ⟨a, vs, h1, by rw [upd_ne (ne_of h2 hl (by intro q; cases q))]; exact h2, Dts.put hl ds i h3⟩
  | .lst ds, _, i, _ => by cases i
theorem Dts.put {l : Addr} {xs : List V} {o : HO} (hl : H l = some (.lst xs)) : ∀ (ds : List D) {vs : List V}, D.imms ds = true → Dts K H ds vs → Dts K (upd H l o) ds vs
  | [], _, _, h => h
  | d :: ds, _, i, ⟨v, r, h1, h2, h3⟩ => by
    have i' : (d.imm && D.imms ds) = true := i
    rw [Bool.and_eq_true] at i'
    exact ⟨v, r, h1, Dt.put hl d i'.1 h2, Dts.put hl ds i'.2 h3⟩
end
theorem Dts.len : ∀ {ds : List D} {vs : List V}, Dts K H ds vs → vs.length = ds.length
  | [], _, h => by rw [show _ = [] from h]; rfl
  | d :: ds, _, ⟨v, r, h1, h2, h3⟩ => by rw [h1, List.length_cons, List.length_cons, Dts.len h3]
theorem Dts.get : ∀ {ds : List D} {vs : List V} {i : Nat} {d : D}, Dts K H ds vs → ds[i]? = some d → ∃ v, vs[i]? = some v ∧ Dt K H d v
  | [], _, _, _, _, e => by simp at e
  | d :: ds, _, 0, e, ⟨v, r, h1, h2, h3⟩, he => by
    simp at he; subst he
    exact ⟨v, by rw [h1]; rfl, h2⟩
  | d :: ds, _, i + 1, e, ⟨v, r, h1, h2, h3⟩, he => by
    obtain ⟨w, q1, q2⟩ := Dts.get (i := i) (d := e) h3 (by simpa using he)
    exact ⟨w, by rw [h1]; simpa using q1, q2⟩
theorem Dts.getv : ∀ {ds : List D} {vs : List V} {i : Nat} {v : V}, Dts K H ds vs → vs[i]? = some v → ∃ d, ds[i]? = some d ∧ Dt K H d v
  | [], _, _, _, h, e => by rw [show _ = [] from h] at e; simp at e
  | d :: ds, _, 0, e, ⟨v, r, h1, h2, h3⟩, he => by
    rw [h1] at he; simp at he; subst he
    exact ⟨d, rfl, h2⟩
  | d :: ds, _, i + 1, e, ⟨v, r, h1, h2, h3⟩, he => by
    rw [h1] at he
    obtain ⟨w, q1, q2⟩ := Dts.getv (i := i) (v := e) h3 (by simpa using he)
    exact ⟨w, by simpa using q1, q2⟩
theorem Dts.snoc : ∀ {ds : List D} {vs : List V} {d : D} {v : V}, Dts K H ds vs → Dt K H d v → Dts K H (ds ++ [d]) (vs ++ [v])
  | [], _, d, v, h, q => by rw [show _ = [] from h]; exact ⟨v, [], rfl, q, rfl⟩
  | e :: ds, _, d, v, ⟨w, r, h1, h2, h3⟩, q => by rw [h1]; exact ⟨w, r ++ [v], rfl, h2, Dts.snoc h3 q⟩
theorem Dts.app : ∀ {ds es : List D} {vs ws : List V}, Dts K H ds vs → Dts K H es ws → Dts K H (ds ++ es) (vs ++ ws)
  | [], _, _, _, h, q => by rw [show _ = [] from h]; exact q
  | e :: ds, _, _, _, ⟨w, r, h1, h2, h3⟩, q => by rw [h1]; exact ⟨w, _, rfl, h2, Dts.app h3 q⟩
theorem Dts.drop : ∀ (n : Nat) {ds : List D} {vs : List V}, Dts K H ds vs → Dts K H (ds.drop n) (vs.drop n)
  | 0, _, _, h => h
  | n + 1, [], _, h => by rw [show _ = [] from h]; exact rfl
  | n + 1, e :: ds, _, ⟨w, r, h1, h2, h3⟩ => by rw [h1]; exact Dts.drop n h3
theorem Dts.take : ∀ (n : Nat) {ds : List D} {vs : List V}, Dts K H ds vs → Dts K H (ds.take n) (vs.take n)
  | 0, _, _, h => by rw [List.take_zero, List.take_zero]; exact rfl
  | n + 1, [], _, h => by rw [show _ = [] from h]; exact rfl
  | n + 1, e :: ds, _, ⟨w, r, h1, h2, h3⟩ => by rw [h1]; exact ⟨w, _, rfl, h2, Dts.take n h3⟩

/-! ### slots -/
def Sl (K : PySem.W.Frag) (H : Hp) : List (Option D) → St → Prop
  | [], σ => σ = []
  | none :: ds, σ => ∃ x r, σ = x :: r ∧ Sl K H ds r
  | some d :: ds, σ => ∃ v r, σ = some v :: r ∧ Dt K H d v ∧ Sl K H ds r
theorem Sl.get : ∀ {ds : List (Option D)} {σ : St} {i : Nat} {d : D}, Sl K H ds σ → ds[i]? = some (some d) → ∃ v, σ[i]? = some (some v) ∧ Dt K H d v
  | [], _, _, _, _, e => by simp at e
  | none :: ds, _, 0, _, _, e => by simp at e
  | some d :: ds, _, 0, e, ⟨v, r, h1, h2, h3⟩, he => by
    simp at he; subst he
    exact ⟨v, by rw [h1]; rfl, h2⟩
  | none :: ds, _, i + 1, e, ⟨v, r, h1, h3⟩, he => by
    obtain ⟨w, q1, q2⟩ := Sl.get (i := i) (d := e) h3 (by simpa using he)
    exact ⟨w, by rw [h1]; simpa using q1, q2⟩
  | some d :: ds, _, i + 1, e, ⟨v, r, h1, h2, h3⟩, he => by
    obtain ⟨w, q1, q2⟩ := Sl.get (i := i) (d := e) h3 (by simpa using he)
    exact ⟨w, by rw [h1]; simpa using q1, q2⟩
theorem Sl.set : ∀ {ds : List (Option D)} {σ : St} (i : Nat) {d : D} {v : V}, Sl K H ds σ → Dt K H d v → Sl K H (ds.set i (some d)) (σ.set i (some v))
  | [], _, _, _, _, h, _ => by rw [show _ = [] from h]; exact rfl
  | none :: ds, _, 0, d, v, ⟨x, r, h1, h2⟩, q => by rw [h1]; exact ⟨v, r, rfl, q, h2⟩
  | some d :: ds, _, 0, e, v, ⟨x, r, h1, h2, h3⟩, q => by rw [h1]; exact ⟨v, r, rfl, q, h3⟩
  | none :: ds, _, i + 1, d, v, ⟨x, r, h1, h2⟩, q => by rw [h1]; exact ⟨x, _, rfl, Sl.set i h2 q⟩
  | some d :: ds, _, i + 1, e, v, ⟨x, r, h1, h2, h3⟩, q => by rw [h1]; exact ⟨x, _, rfl, h2, Sl.set i h3 q⟩
theorem Sl.unset : ∀ {ds : List (Option D)} {σ : St} (i : Nat) (x : Option V), Sl K H ds σ → Sl K H (ds.set i none) (σ.set i x)
  | [], _, _, _, h => by rw [show _ = [] from h]; exact rfl
  | none :: ds, _, 0, v, ⟨x, r, h1, h2⟩ => by rw [h1]; exact ⟨v, r, rfl, h2⟩
  | some d :: ds, _, 0, v, ⟨x, r, h1, h2, h3⟩ => by rw [h1]; exact ⟨v, r, rfl, h3⟩
  | none :: ds, _, i + 1, v, ⟨x, r, h1, h2⟩ => by rw [h1]; exact ⟨x, _, rfl, Sl.unset i v h2⟩
  | some d :: ds, _, i + 1, v, ⟨x, r, h1, h2, h3⟩ => by rw [h1]; exact ⟨x, _, rfl, h2, Sl.unset i v h3⟩
theorem Sl.mono (e : Same H H') : ∀ {ds : List (Option D)} {σ : St}, Sl K H ds σ → Sl K H' ds σ
  | [], _, h => h
  | none :: ds, _, ⟨x, r, h1, h2⟩ => ⟨x, r, h1, Sl.mono e h2⟩
  | some d :: ds, _, ⟨v, r, h1, h2, h3⟩ => ⟨v, r, h1, Dt.mono e d h2, Sl.mono e h3⟩
/-- forgetting: each told slot is told alike -/
def Fits : List (Option D) → List (Option D) → Prop
  | [], [] => True
  | none :: r, _ :: s => Fits r s
  | some d :: r, some e :: s => d = e ∧ Fits r s
  | _, _ => False
theorem Sl.fit : ∀ {ds es : List (Option D)} {σ : St}, Fits es ds → Sl K H ds σ → Sl K H es σ
  | [], [], _, _, h => h
  | [], none :: _, _, f, _ => f.elim
  | [], some _ :: _, _, f, _ => f.elim
  | none :: _, [], _, f, _ => f.elim
  | some _ :: _, [], _, f, _ => f.elim
  | none :: ds, none :: es, _, f, ⟨x, r, h1, h2⟩ => ⟨x, r, h1, Sl.fit f h2⟩
  | some d :: ds, none :: es, _, f, ⟨v, r, h1, h2, h3⟩ => ⟨_, r, h1, Sl.fit f h3⟩
  | none :: ds, some e :: es, _, f, _ => f.elim
  | some d :: ds, some e :: es, _, ⟨f1, f2⟩, ⟨v, r, h1, h2, h3⟩ => ⟨v, r, h1, by rw [f1]; exact h2, Sl.fit f2 h3⟩
def wipeD (ds : List (Option D)) : List Nat → List (Option D)
  | [] => ds
  | v :: vs => (wipeD ds vs).set v none
theorem Sl.wipe {ds : List (Option D)} {σ : St} (h : Sl K H ds σ) : ∀ vs : List Nat, Sl K H (wipeD ds vs) (L2.wipe σ vs)
  | [] => h
  | v :: vs => by
    show Sl K H ((wipeD ds vs).set v none) ((L2.wipe σ vs).set v none)
    exact Sl.unset v none (Sl.wipe h vs)
theorem Sl.put {l : Addr} {xs : List V} {o : HO} (hl : H l = some (.lst xs)) : ∀ {ds : List (Option D)} {σ : St}, (∀ d, some d ∈ ds → d.imm = true) → Sl K H ds σ → Sl K (upd H l o) ds σ
  | [], _, _, h => h
  | none :: ds, _, i, ⟨x, r, h1, h2⟩ => ⟨x, r, h1, Sl.put hl (fun d hd => i d (List.mem_cons_of_mem _ hd)) h2⟩
  | some d :: ds, _, i, ⟨v, r, h1, h2, h3⟩ => ⟨v, r, h1, Dt.put hl d (i d List.mem_cons_self) h2, Sl.put hl (fun d hd => i d (List.mem_cons_of_mem _ hd)) h3⟩
theorem Sl.start {N : List Str} : ∀ {ds : List D} {vs : List V}, Dts K H ds vs → Sl K H (ds.map some ++ List.replicate (N.length - ds.length) none) (L2.start N vs) := by
  intro ds vs h
  have e := h.len
  unfold L2.start
  rw [e]
  have rep : ∀ n : Nat, Sl K H (List.replicate n none) (List.replicate n none) := by
    intro n
    induction n with
    | zero => exact rfl
    | succ n ih => exact ⟨none, _, rfl, ih⟩
  have go : ∀ (n : Nat) (ds : List D) (vs : List V), Dts K H ds vs → Sl K H (ds.map some ++ List.replicate n none) (vs.map some ++ List.replicate n none) := by
    intro n ds
    induction ds with
    | nil => intro vs h; rw [show vs = [] from h]; exact rep n
    | cons d ds ih =>
      rintro vs ⟨v, r, h1, h2, h3⟩
      rw [h1]
      exact ⟨v, _, rfl, h2, ih r h3⟩
  exact go _ ds vs h
end
end Rt
namespace Rt
open PySem L2

theorem small {n : Nat} (h : n ≤ 100000) : n ≤ sizeLine := Nat.le_trans h (by decide)
theorem smallLt {n : Nat} (h : n < 100000) : n < sizeLine := Nat.lt_of_lt_of_le h (by decide)
theorem free_back {H H' : Hp} {p : Addr} (e : Same H H') (h : H' p = none) : H p = none := e.free h

/-! ### what evaluates to what -/
def EvP (te : TE) (σ : St) (H : Hp) (P : V → Hp → Prop) : Prop := ∀ H1, Same H H1 → ∀ Q : VK, (∀ v H2, Same H1 H2 → P v H2 → Q v H2) → te σ H1 Q
def Ev (K : PySem.W.Frag) (te : TE) (σ : St) (H : Hp) (d : D) : Prop := ∀ H1, Same H H1 → ∀ Q : VK, (∀ v H2, Same H1 H2 → Dt K H2 d v → Q v H2) → te σ H1 Q
/-- a new list of these -/
def EvN (K : PySem.W.Frag) (te : TE) (σ : St) (H : Hp) (ds : List D) : Prop := ∀ H1, Same H H1 → ∀ Q : VK, (∀ p vs H2, H1 p = none → Same H1 H2 → H2 p = some (.lst vs) → Dts K H2 ds vs → Q (.ref p) H2) → te σ H1 Q
def EvT (K : PySem.W.Frag) (tt : TT) (σ : St) (H : Hp) (b : Bool) : Prop := ∀ H1, Same H H1 → ∀ Q : Bool → Hp → Prop, (∀ H2, Same H1 H2 → Q b H2) → tt σ H1 Q
def EvA (K : PySem.W.Frag) (ta : TA) (σ : St) (H : Hp) (ds : List D) : Prop := ∀ H1, Same H H1 → ∀ Q : List V → Hp → Prop, (∀ vs H2, Same H1 H2 → Dts K H2 ds vs → Q vs H2) → ta σ H1 Q
def EvO (K : PySem.W.Frag) (to : TO) (σ : St) (H : Hp) (o : Option Int) : Prop := ∀ H1, Same H H1 → ∀ Q : Option Int → Hp → Prop, (∀ H2, Same H1 H2 → Q o H2) → to σ H1 Q

section
variable {K : PySem.W.Frag} {σ : St} {H H' : Hp} {ta tb te tx : TE} {t u : TT} {d e : D}

theorem Ev.mono (s : Same H H') (h : Ev K te σ H d) : Ev K te σ H' d := fun H1 a Q q => h H1 (s.trans a) Q q
theorem EvN.mono {ds : List D} (s : Same H H') (h : EvN K te σ H ds) : EvN K te σ H' ds := fun H1 a Q q => h H1 (s.trans a) Q q
theorem EvT.mono {b : Bool} (s : Same H H') (h : EvT K t σ H b) : EvT K t σ H' b := fun H1 a Q q => h H1 (s.trans a) Q q
theorem EvA.mono {t : TA} {ds : List D} (s : Same H H') (h : EvA K t σ H ds) : EvA K t σ H' ds := fun H1 a Q q => h H1 (s.trans a) Q q
theorem EvN.ev {ds : List D} (h : EvN K te σ H ds) : Ev K te σ H (.lst ds) := fun H1 a Q q => h H1 a Q fun p vs H2 _ s hp hd => q _ _ s ⟨p, vs, rfl, hp, hd⟩
theorem Ev.to (h : Ev K te σ H d) (q : d = e) : Ev K te σ H e := by rw [← q]; exact h
theorem EvN.to {ds es : List D} (h : EvN K te σ H ds) (q : ds = es) : EvN K te σ H es := by rw [← q]; exact h
theorem EvT.to {a b : Bool} (h : EvT K t σ H a) (q : a = b) : EvT K t σ H b := by rw [← q]; exact h
theorem EvA.to {t : TA} {ds es : List D} (h : EvA K t σ H ds) (q : ds = es) : EvA K t σ H es := by rw [← q]; exact h

/-! ### names, constants -/
theorem ev_var {ds : List (Option D)} {i : Nat} (s : Sl K H ds σ) (h : ds[i]? = some (some d)) : Ev K (tVar i) σ H d := fun H1 a Q q => by
  obtain ⟨v, h1, h2⟩ := (s.mono a).get h
  exact ⟨v, h1, q v H1 (Same.refl H1) h2⟩
theorem ev_int {i : Int} : Ev K (tC (.int i)) σ H (.int i) := fun H1 _ Q q => q _ H1 (Same.refl H1) rfl
theorem ev_bl {b : Bool} : Ev K (tC (.bl b)) σ H (.bl b) := fun H1 _ Q q => q _ H1 (Same.refl H1) rfl
theorem ev_non : Ev K (tC .non) σ H .non := fun H1 _ Q q => q _ H1 (Same.refl H1) rfl
theorem ev_str {x : Str} : Ev K (tC (.str x)) σ H (.str x.cps.toList) := fun H1 _ Q q => q _ H1 (Same.refl H1) (by show V.str x = .str (S x.cps.toList); rw [S_of])
theorem ev_c {v : V} : Ev K (tC v) σ H (.raw v) := fun H1 _ Q q => q _ H1 (Same.refl H1) rfl
/-- a local list whose address is known -/
theorem ev_own {l : Addr} {vs : List V} {ds : List D} (h : Ev K te σ H (.raw (.ref l))) (hl : H l = some (.lst vs)) (hd : Dts K H ds vs) : Ev K te σ H (.lst ds) := fun H1 a Q q =>
  h H1 a Q fun v H2 s hv => q v H2 s ⟨l, vs, hv, (a.trans s) _ _ hl, Dts.mono (a.trans s) ds hd⟩

/-! ### arguments, displays -/
theorem ea_nil : EvA K tNil σ H [] := fun H1 _ Q q => q [] H1 (Same.refl H1) rfl
theorem ea_cons {tr : TA} {ds : List D} (h : Ev K ta σ H d) (hr : EvA K tr σ H ds) : EvA K (tCons ta tr) σ H (d :: ds) := fun H1 a Q q =>
  h H1 a _ fun v H2 s2 hv => hr H2 (a.trans s2) _ fun vs H3 s3 hvs => q _ H3 (s2.trans s3) ⟨v, vs, rfl, Dt.mono s3 d hv, hvs⟩
theorem ev_tup {t : TA} {ds : List D} (h : EvA K t σ H ds) (hz : ds.length ≤ 100000) : Ev K (tTup t) σ H (.tup ds) := fun H1 a Q q =>
  h H1 a _ fun vs H2 s2 hvs => ⟨small (by rw [hvs.len]; exact hz), fun p hp => q _ _ (s2.trans (Same.new hp)) ⟨p, vs, rfl, upd_same, Dts.mono (Same.new hp) ds hvs⟩⟩
theorem en_lst {t : TA} {ds : List D} (h : EvA K t σ H ds) (hz : ds.length ≤ 100000) : EvN K (tLst t) σ H ds := fun H1 a Q q =>
  h H1 a _ fun vs H2 s2 hvs => ⟨small (by rw [hvs.len]; exact hz), fun p hp => q p vs _ (s2.free hp) (s2.trans (Same.new hp)) upd_same (Dts.mono (Same.new hp) ds hvs)⟩
theorem ev_lst {t : TA} {ds : List D} (h : EvA K t σ H ds) (hz : ds.length ≤ 100000) : Ev K (tLst t) σ H (.lst ds) := (en_lst h hz).ev

/-! ### two-place operations -/
theorem ev_op {r : R2} {z : D} (ha : Ev K ta σ H d) (hb : Ev K tb σ H e) (hr : ∀ v w H1, Same H H1 → Dt K H1 d v → Dt K H1 e w → ∀ Q : VK, (∀ x H2, Same H1 H2 → Dt K H2 z x → Q x H2) → r v w H1 Q) : Ev K (tOp r ta tb) σ H z := fun H1 a Q q =>
  ha H1 a _ fun v H2 s2 hv => hb H2 (a.trans s2) _ fun w H3 s3 hw => hr v w H3 ((a.trans s2).trans s3) (Dt.mono s3 d hv) hw Q fun x H4 s4 hx => q x H4 ((s2.trans s3).trans s4) hx
theorem ev_I0 {i j : Int} {z : D} {g : Int → Int → V} (ha : Ev K ta σ H (.int i)) (hb : Ev K tb σ H (.int j)) (hz : ∀ H, Dt K H z (g i j)) : Ev K (tOp (rI0 g) ta tb) σ H z :=
  ev_op ha hb fun v w H1 _ hv hw Q q => ⟨i, j, hv, hw, q _ _ (Same.refl _) (hz _)⟩
theorem ev_I {i j : Int} {z : D} {C : Int → Int → Prop} {g : Int → Int → V} (ha : Ev K ta σ H (.int i)) (hb : Ev K tb σ H (.int j)) (hc : C i j) (hz : ∀ H, Dt K H z (g i j)) : Ev K (tOp (rI C g) ta tb) σ H z :=
  ev_op ha hb fun v w H1 _ hv hw Q q => ⟨i, j, hv, hw, hc, q _ _ (Same.refl _) (hz _)⟩
theorem ev_add {i j : Int} (ha : Ev K ta σ H (.int i)) (hb : Ev K tb σ H (.int j)) : Ev K (tOp (rI0 fun i j => .int (i + j)) ta tb) σ H (.int (i + j)) := ev_I0 ha hb fun _ => rfl
theorem ev_sub {i j : Int} (ha : Ev K ta σ H (.int i)) (hb : Ev K tb σ H (.int j)) : Ev K (tOp (rI0 fun i j => .int (i - j)) ta tb) σ H (.int (i - j)) := ev_I0 ha hb fun _ => rfl
theorem ev_lt {i j : Int} (ha : Ev K ta σ H (.int i)) (hb : Ev K tb σ H (.int j)) : Ev K (tOp (rI0 fun i j => .bl (decide (i < j))) ta tb) σ H (.bl (decide (i < j))) := ev_I0 ha hb fun _ => rfl
theorem ev_le {i j : Int} (ha : Ev K ta σ H (.int i)) (hb : Ev K tb σ H (.int j)) : Ev K (tOp (rI0 fun i j => .bl (decide (i ≤ j))) ta tb) σ H (.bl (decide (i ≤ j))) := ev_I0 ha hb fun _ => rfl
theorem ev_gt {i j : Int} (ha : Ev K ta σ H (.int i)) (hb : Ev K tb σ H (.int j)) : Ev K (tOp (rI0 fun i j => .bl (decide (j < i))) ta tb) σ H (.bl (decide (j < i))) := ev_I0 ha hb fun _ => rfl
theorem ev_ge {i j : Int} (ha : Ev K ta σ H (.int i)) (hb : Ev K tb σ H (.int j)) : Ev K (tOp (rI0 fun i j => .bl (decide (j ≤ i))) ta tb) σ H (.bl (decide (j ≤ i))) := ev_I0 ha hb fun _ => rfl
theorem ev_mul {i j : Int} (ha : Ev K ta σ H (.int i)) (hb : Ev K tb σ H (.int j)) (hc : CMul i j) : Ev K (tOp (rI CMul fun i j => .int (i * j)) ta tb) σ H (.int (i * j)) := ev_I ha hb hc fun _ => rfl
theorem ev_fdiv {i j : Int} (ha : Ev K ta σ H (.int i)) (hb : Ev K tb σ H (.int j)) (hc : CDiv i j) : Ev K (tOp (rI CDiv fun i j => .int (i / j)) ta tb) σ H (.int (i / j)) := ev_I ha hb hc fun _ => rfl
theorem ev_mod {i j : Int} (ha : Ev K ta σ H (.int i)) (hb : Ev K tb σ H (.int j)) (hc : 0 < j) : Ev K (tOp (rI (fun _ j => 0 < j) fun i j => .int (i % j)) ta tb) σ H (.int (i % j)) := ev_I (C := fun _ j => 0 < j) ha hb hc fun _ => rfl
theorem ev_addS {a b : Tx} (ha : Ev K ta σ H (.str a)) (hb : Ev K tb σ H (.str b)) (hz : a.length + b.length ≤ 100000) : Ev K (tOp (fun x y H Q => ∃ i j, x = .str i ∧ y = .str j ∧ i.length + j.length ≤ sizeLine ∧ Q (.str (i ++ j)) H) ta tb) σ H (.str (a ++ b)) :=
  ev_op ha hb fun v w H1 _ hv hw Q q => ⟨S a, S b, hv, hw, by rw [S_len, S_len]; exact small hz, q _ _ (Same.refl _) (by show V.str (S a ++ S b) = .str (S (a ++ b)); rw [S_app])⟩
theorem ev_eqS {a b : Tx} (ha : Ev K ta σ H (.str a)) (hb : Ev K tb σ H (.str b)) : Ev K (tOp rEq ta tb) σ H (.bl (decide (a = b))) :=
  ev_op ha hb fun v w H1 _ hv hw Q q => by
    rw [show v = .str (S a) from hv, show w = .str (S b) from hw]
    refine ⟨rfl, q _ _ (Same.refl _) ?_⟩
    show V.bl _ = V.bl _
    congr 1
    exact decide_eq_decide.mpr ⟨fun h => S_inj (V.str.inj h), fun h => by rw [h]⟩
theorem ev_neS {a b : Tx} (ha : Ev K ta σ H (.str a)) (hb : Ev K tb σ H (.str b)) : Ev K (tOp rNe ta tb) σ H (.bl (!decide (a = b))) :=
  ev_op ha hb fun v w H1 _ hv hw Q q => by
    rw [show v = .str (S a) from hv, show w = .str (S b) from hw]
    refine ⟨rfl, q _ _ (Same.refl _) ?_⟩
    show V.bl _ = V.bl _
    congr 2
    exact decide_eq_decide.mpr ⟨fun h => S_inj (V.str.inj h), fun h => by rw [h]⟩
theorem ev_eqI {a b : Int} (ha : Ev K ta σ H (.int a)) (hb : Ev K tb σ H (.int b)) : Ev K (tOp rEq ta tb) σ H (.bl (decide (a = b))) :=
  ev_op ha hb fun v w H1 _ hv hw Q q => by
    rw [show v = .int a from hv, show w = .int b from hw]
    refine ⟨rfl, q _ _ (Same.refl _) ?_⟩
    show V.bl _ = V.bl _
    congr 1
    exact decide_eq_decide.mpr ⟨fun h => V.int.inj h, fun h => by rw [h]⟩
theorem ev_neI {a b : Int} (ha : Ev K ta σ H (.int a)) (hb : Ev K tb σ H (.int b)) : Ev K (tOp rNe ta tb) σ H (.bl (!decide (a = b))) :=
  ev_op ha hb fun v w H1 _ hv hw Q q => by
    rw [show v = .int a from hv, show w = .int b from hw]
    refine ⟨rfl, q _ _ (Same.refl _) ?_⟩
    show V.bl _ = V.bl _
    congr 2
    exact decide_eq_decide.mpr ⟨fun h => V.int.inj h, fun h => by rw [h]⟩
theorem ev_neB {a b : Bool} (ha : Ev K ta σ H (.bl a)) (hb : Ev K tb σ H (.bl b)) : Ev K (tOp rNe ta tb) σ H (.bl (!decide (a = b))) :=
  ev_op ha hb fun v w H1 _ hv hw Q q => by
    rw [show v = .bl a from hv, show w = .bl b from hw]
    refine ⟨rfl, q _ _ (Same.refl _) ?_⟩
    show V.bl _ = V.bl _
    congr 2
    exact decide_eq_decide.mpr ⟨fun h => V.bl.inj h, fun h => by rw [h]⟩
theorem ev_eqB {a b : Bool} (ha : Ev K ta σ H (.bl a)) (hb : Ev K tb σ H (.bl b)) : Ev K (tOp rEq ta tb) σ H (.bl (decide (a = b))) :=
  ev_op ha hb fun v w H1 _ hv hw Q q => by
    rw [show v = .bl a from hv, show w = .bl b from hw]
    refine ⟨rfl, q _ _ (Same.refl _) ?_⟩
    show V.bl _ = V.bl _
    congr 1
    exact decide_eq_decide.mpr ⟨fun h => V.bl.inj h, fun h => by rw [h]⟩
theorem ev_ltS {a b : Tx} (ha : Ev K ta σ H (.str a)) (hb : Ev K tb σ H (.str b)) : Ev K (tOp (fun x y H Q => ∃ i j, x = .str i ∧ y = .str j ∧ Q (.bl (decide (i.cps.toList < j.cps.toList))) H) ta tb) σ H (.bl (decide (a < b))) :=
  ev_op ha hb fun v w H1 _ hv hw Q q => ⟨S a, S b, hv, hw, q _ _ (Same.refl _) (by show V.bl _ = V.bl _; simp only [S_cps])⟩
theorem ev_leS {a b : Tx} (ha : Ev K ta σ H (.str a)) (hb : Ev K tb σ H (.str b)) : Ev K (tOp (fun x y H Q => ∃ i j, x = .str i ∧ y = .str j ∧ Q (.bl (!decide (j.cps.toList < i.cps.toList))) H) ta tb) σ H (.bl (!decide (b < a))) :=
  ev_op ha hb fun v w H1 _ hv hw Q q => ⟨S a, S b, hv, hw, q _ _ (Same.refl _) (by show V.bl _ = V.bl _; simp only [S_cps])⟩
theorem ev_gtS {a b : Tx} (ha : Ev K ta σ H (.str a)) (hb : Ev K tb σ H (.str b)) : Ev K (tOp (fun x y H Q => ∃ i j, x = .str i ∧ y = .str j ∧ Q (.bl (decide (j.cps.toList < i.cps.toList))) H) ta tb) σ H (.bl (decide (b < a))) :=
  ev_op ha hb fun v w H1 _ hv hw Q q => ⟨S a, S b, hv, hw, q _ _ (Same.refl _) (by show V.bl _ = V.bl _; simp only [S_cps])⟩
theorem ev_geS {a b : Tx} (ha : Ev K ta σ H (.str a)) (hb : Ev K tb σ H (.str b)) : Ev K (tOp (fun x y H Q => ∃ i j, x = .str i ∧ y = .str j ∧ Q (.bl (!decide (i.cps.toList < j.cps.toList))) H) ta tb) σ H (.bl (!decide (a < b))) :=
  ev_op ha hb fun v w H1 _ hv hw Q q => ⟨S a, S b, hv, hw, q _ _ (Same.refl _) (by show V.bl _ = V.bl _; simp only [S_cps])⟩
/-- is None -/
def D.isNon : D → Bool
  | .non => true
  | .raw v => decide (v = .non)
  | _ => false
theorem Dt.isNon : ∀ {d : D} {v : V}, Dt K H d v → decide (v = .non) = d.isNon
  | .non, _, h => by rw [show _ = V.non from h]; rfl
  | .bl _, _, h => by rw [show _ = V.bl _ from h]; rfl
  | .int _, _, h => by rw [show _ = V.int _ from h]; rfl
  | .str _, _, h => by rw [show _ = V.str _ from h]; rfl
  | .raw _, _, h => by rw [show _ = _ from h]; rfl
  | .tup _, _, ⟨_, _, h, _⟩ => by rw [h]; rfl
  | .lst _, _, ⟨_, _, h, _⟩ => by rw [h]; rfl
  | .scr _, _, ⟨_, h, _⟩ => by rw [h]; rfl
theorem ev_isN (ha : Ev K ta σ H d) : Ev K (tOp (fun x y H Q => y = .non ∧ Q (.bl (decide (x = .non))) H) ta (tC .non)) σ H (.bl d.isNon) :=
  ev_op ha ev_non fun v w H1 _ hv hw Q q => ⟨hw, q _ _ (Same.refl _) (by rw [hv.isNon]; rfl)⟩
theorem ev_notN (ha : Ev K ta σ H d) : Ev K (tOp (fun x y H Q => y = .non ∧ Q (.bl (!decide (x = .non))) H) ta (tC .non)) σ H (.bl (!d.isNon)) :=
  ev_op ha ev_non fun v w H1 _ hv hw Q q => ⟨hw, q _ _ (Same.refl _) (by rw [hv.isNon]; rfl)⟩

/-! ### items, slices, len -/
abbrev rLen (K : PySem.W.Frag) : List V → Hp → VK → Prop := fun xs H Q => ∃ p ys, xs = [.ref p] ∧ (SqL K H p ys ∨ SqT K H p ys) ∧ Q (.int ys.length) H
theorem atI_dts {ds : List D} {vs : List V} {i : Int} (h : Dts K H ds vs) (e : atI ds i = some d) : ∃ v, atI vs i = some v ∧ Dt K H d v := by
  unfold atI at e ⊢
  rw [h.len]
  cases hx : ixN ds.length i with
  | none => rw [hx] at e; cases e
  | some j => rw [hx] at e; exact h.get e
theorem ev_ixT {ds : List D} {i : Int} (ha : Ev K ta σ H (.tup ds)) (hb : Ev K tb σ H (.int i)) (h : atI ds i = some d) : Ev K (tOp (rIxT K) ta tb) σ H d :=
  ev_op ha hb fun v w H1 _ ⟨a, vs, h1, h2, h3⟩ hw Q q => by
    obtain ⟨x, h4, h5⟩ := atI_dts h3 h
    exact ⟨a, vs, i, x, h1, hw, SqT.of h2, h4, q _ _ (Same.refl _) h5⟩
theorem ev_ixL {ds : List D} {i : Int} (ha : Ev K ta σ H (.lst ds)) (hb : Ev K tb σ H (.int i)) (h : atI ds i = some d) : Ev K (tOp (rIxL K) ta tb) σ H d :=
  ev_op ha hb fun v w H1 _ ⟨a, vs, h1, h2, h3⟩ hw Q q => by
    obtain ⟨x, h4, h5⟩ := atI_dts h3 h
    exact ⟨a, vs, i, x, h1, hw, SqL.of h2, h4, q _ _ (Same.refl _) h5⟩
theorem ev_ixS {l : Tx} {i : Int} {c : Nat} (ha : Ev K ta σ H (.str l)) (hb : Ev K tb σ H (.int i)) (hz : l.length ≤ 100000) (h : atI l i = some c) : Ev K (tOp rIxS ta tb) σ H (.str [c]) :=
  ev_op ha hb fun v w H1 _ hv hw Q q => ⟨S l, i, c, hv, hw, by rw [S_len]; exact small hz, by rw [S_cps]; exact h, q _ _ (Same.refl _) rfl⟩
theorem ev_ixR {ns : List Int} {i z : Int} (ha : Ev K ta σ H (.scr ns)) (hb : Ev K tb σ H (.int i)) (h : atI ns i = some z) : Ev K (tOp (rIxL K) ta tb) σ H (.int z) :=
  ev_op ha hb fun v w H1 _ ⟨a, h1, h2⟩ hw Q q => by
    refine ⟨a, ns.map V.int, i, .int z, h1, hw, h2.sql, ?_, q _ _ (Same.refl _) rfl⟩
    unfold atI at h ⊢
    rw [List.length_map]
    cases hx : ixN ns.length i with
    | none => rw [hx] at h; cases h
    | some j =>
      rw [hx] at h
      show (ns.map V.int)[j]? = some (.int z)
      rw [List.getElem?_map, show ns[j]? = some z from h]; rfl
theorem eo_none : EvO K tNoPart σ H none := fun H1 _ _ q => q H1 (Same.refl H1)
theorem eo_some {i : Int} (h : Ev K te σ H (.int i)) : EvO K (tPart te) σ H (some i) := fun H1 a _ q => h H1 a _ fun v H2 s hv => ⟨i, hv, q H2 s⟩
theorem ev_slS {l : Tx} {tl th : TO} {lo hi : Option Int} (h : Ev K te σ H (.str l)) (h1 : EvO K tl σ H lo) (h2 : EvO K th σ H hi) (hz : l.length ≤ 100000) : Ev K (tSl rSlS te tl th) σ H (.str (cutL l lo hi)) := fun H1 a Q q =>
  h H1 a _ fun v H2 s2 hv => h1 H2 (a.trans s2) _ fun H3 s3 => h2 H3 ((a.trans s2).trans s3) _ fun H4 s4 =>
    ⟨S l, hv, by rw [S_len]; exact small hz, q _ H4 ((s2.trans s3).trans s4) (by show V.str (cutS (S l) lo hi) = _; rw [S_cut])⟩
theorem ev_slTo {l : Tx} {i : Int} (n : Nat) (h : Ev K te σ H (.str l)) (h2 : Ev K tb σ H (.int i)) (e : i = (n : Int)) (hz : l.length ≤ 100000) : Ev K (tSl rSlS te tNoPart (tPart tb)) σ H (.str (l.take n)) := by
  have q := ev_slS h eo_none (eo_some h2) hz
  rw [e, cutL_to] at q
  exact q
theorem ev_slFrom {l : Tx} {i : Int} (n : Nat) (h : Ev K te σ H (.str l)) (h2 : Ev K tb σ H (.int i)) (e : i = (n : Int)) (hz : l.length ≤ 100000) : Ev K (tSl rSlS te (tPart tb) tNoPart) σ H (.str (l.drop n)) := by
  have q := ev_slS h (eo_some h2) eo_none hz
  rw [e, cutL_from] at q
  exact q
theorem ev_slNN {l : Tx} {i j : Int} (n m : Nat) (h : Ev K te σ H (.str l)) (h1 : Ev K ta σ H (.int i)) (h2 : Ev K tb σ H (.int j)) (e1 : i = (n : Int)) (e2 : j = ((n + m : Nat) : Int)) (hz : l.length ≤ 100000) : Ev K (tSl rSlS te (tPart ta) (tPart tb)) σ H (.str ((l.drop n).take m)) := by
  have q := ev_slS h (eo_some h1) (eo_some h2) hz
  rw [e1, e2, cutL_nn, Nat.add_sub_cancel_left] at q
  exact q
def cutD (ds : List D) (lo hi : Option Int) : List D := (ds.drop (HT.sIx ds.length 0 lo)).take (HT.sIx ds.length ds.length hi - HT.sIx ds.length 0 lo)
theorem cut_dts {ds : List D} {vs : List V} (h : Dts K H ds vs) (lo hi : Option Int) : Dts K H (cutD ds lo hi) (cutV vs lo hi) := by
  unfold cutD cutV
  rw [h.len]
  exact Dts.take _ (Dts.drop _ h)
theorem en_slL {ds : List D} {tl th : TO} {lo hi : Option Int} (h : Ev K te σ H (.lst ds)) (h1 : EvO K tl σ H lo) (h2 : EvO K th σ H hi) : EvN K (tSl (rSlL K) te tl th) σ H (cutD ds lo hi) := fun H1 a Q q =>
  h H1 a _ fun v H2 s2 ⟨b, vs, e1, e2, e3⟩ => h1 H2 (a.trans s2) _ fun H3 s3 => h2 H3 ((a.trans s2).trans s3) _ fun H4 s4 =>
    ⟨b, vs, e1, SqL.of ((s3.trans s4) _ _ e2), fun p hp => q p _ _ (((s2.trans s3).trans s4).free hp) (((s2.trans s3).trans s4).trans (Same.new hp)) upd_same
      (Dts.mono ((s3.trans s4).trans (Same.new hp)) _ (cut_dts e3 lo hi))⟩
theorem ev_cb {r : List V → Hp → VK → Prop} {t : TA} {ds : List D} {z : D} (h : EvA K t σ H ds) (hr : ∀ vs H1, Same H H1 → Dts K H1 ds vs → ∀ Q : VK, (∀ x H2, Same H1 H2 → Dt K H2 z x → Q x H2) → r vs H1 Q) : Ev K (tCB r t) σ H z := fun H1 a Q q =>
  h H1 a _ fun vs H2 s2 hvs => hr vs H2 (a.trans s2) hvs Q fun x H3 s3 hx => q x H3 (s2.trans s3) hx
theorem en_cb {r : List V → Hp → VK → Prop} {t : TA} {ds : List D} {zs : List D} (h : EvA K t σ H ds) (hr : ∀ vs H1, Same H H1 → Dts K H1 ds vs → ∀ Q : VK, (∀ p ws H2, H1 p = none → Same H1 H2 → H2 p = some (.lst ws) → Dts K H2 zs ws → Q (.ref p) H2) → r vs H1 Q) : EvN K (tCB r t) σ H zs := fun H1 a Q q =>
  h H1 a _ fun vs H2 s2 hvs => hr vs H2 (a.trans s2) hvs Q fun p ws H3 hp s3 h1 h2 => q p ws H3 (s2.free hp) (s2.trans s3) h1 h2
theorem ev_lenS {l : Tx} (ha : Ev K ta σ H (.str l)) (hz : l.length ≤ 100000) : Ev K (tCB (fun xs H Q => ∃ z, xs = [.str z] ∧ z.length ≤ sizeLine ∧ Q (.int z.length) H) (tCons ta tNil)) σ H (.int (l.length : Int)) :=
  ev_cb (ea_cons ha ea_nil) fun vs H1 _ ⟨v, r, h1, h2, h3⟩ Q q => ⟨S l, by rw [h1, show v = .str (S l) from h2, show r = [] from h3], by rw [S_len]; exact small hz, q _ _ (Same.refl _) (by rw [S_len]; rfl)⟩
theorem ev_lenL {ds : List D} (ha : Ev K ta σ H (.lst ds)) : Ev K (tCB (fun xs H Q => ∃ p ys, xs = [.ref p] ∧ (SqL K H p ys ∨ SqT K H p ys) ∧ Q (.int ys.length) H) (tCons ta tNil)) σ H (.int (ds.length : Int)) :=
  ev_cb (ea_cons ha ea_nil) fun vs H1 _ ⟨v, r, h1, ⟨a, ws, e1, e2, e3⟩, h3⟩ Q q => ⟨a, ws, by rw [h1, e1, show r = [] from h3], .inl (SqL.of e2), q _ _ (Same.refl _) (by rw [e3.len]; rfl)⟩
theorem ev_lenT {ds : List D} (ha : Ev K ta σ H (.tup ds)) : Ev K (tCB (fun xs H Q => ∃ p ys, xs = [.ref p] ∧ (SqL K H p ys ∨ SqT K H p ys) ∧ Q (.int ys.length) H) (tCons ta tNil)) σ H (.int (ds.length : Int)) :=
  ev_cb (ea_cons ha ea_nil) fun vs H1 _ ⟨v, r, h1, ⟨a, ws, e1, e2, e3⟩, h3⟩ Q q => ⟨a, ws, by rw [h1, e1, show r = [] from h3], .inr (SqT.of e2), q _ _ (Same.refl _) (by rw [e3.len]; rfl)⟩
theorem ev_lenR {ns : List Int} (ha : Ev K ta σ H (.scr ns)) : Ev K (tCB (fun xs H Q => ∃ p ys, xs = [.ref p] ∧ (SqL K H p ys ∨ SqT K H p ys) ∧ Q (.int ys.length) H) (tCons ta tNil)) σ H (.int (ns.length : Int)) :=
  ev_cb (ea_cons ha ea_nil) fun vs H1 _ ⟨v, r, h1, ⟨a, e1, e2⟩, h3⟩ Q q => ⟨a, _, by rw [h1, e1, show r = [] from h3], .inl e2.sql, q _ _ (Same.refl _) (by rw [List.length_map]; rfl)⟩
theorem ev_tuple {ds : List D} (ha : Ev K ta σ H (.lst ds)) : Ev K (tCB (fun xs H Q => ∃ p ys, xs = [.ref p] ∧ ((SqL K H p ys ∧ ∀ l, H l = none → Q (.ref l) (upd H l (.tup ys))) ∨ (SqT K H p ys ∧ Q (.ref p) H))) (tCons ta tNil)) σ H (.tup ds) :=
  ev_cb (ea_cons ha ea_nil) fun vs H1 _ ⟨v, r, h1, ⟨a, ws, e1, e2, e3⟩, h3⟩ Q q => ⟨a, ws, by rw [h1, e1, show r = [] from h3], .inl ⟨SqL.of e2, fun l hl => q _ _ (Same.new hl) ⟨l, ws, rfl, upd_same, Dts.mono (Same.new hl) ds e3⟩⟩⟩
theorem en_cat {ds es : List D} (ha : Ev K ta σ H (.lst ds)) (hb : Ev K tb σ H (.lst es)) (hz : ds.length + es.length ≤ 100000) : EvN K (tOp rCat ta tb) σ H (ds ++ es) := fun H1 a Q q =>
  ha H1 a _ fun v H2 s2 ⟨b, vs, e1, e2, e3⟩ => hb H2 (a.trans s2) _ fun w H3 s3 ⟨c, ws, f1, f2, f3⟩ =>
    ⟨b, c, vs, ws, e1, f1, s3 _ _ e2, f2, by rw [e3.len, f3.len]; exact small hz, fun p hp => q p _ _ ((s2.trans s3).free hp) ((s2.trans s3).trans (Same.new hp)) upd_same
      (Dts.app (Dts.mono (s3.trans (Same.new hp)) _ e3) (Dts.mono (Same.new hp) _ f3))⟩

/-! ### isinstance -/
def D.ty : D → Option String
  | .non => some "NoneType"
  | .bl _ => some "bool"
  | .int _ => some "int"
  | .str _ => some "str"
  | .tup _ => some "tuple"
  | .lst _ => some "list"
  | _ => none
theorem Dt.tyx {d : D} {v : V} {n : String} (h : Dt K H d v) (e : d.ty = some n) : TyX K H v (.type n) := by
  cases d with
  | non => rw [show v = V.non from h, ← Option.some.inj e]; exact .base .non
  | bl b => rw [show v = V.bl b from h, ← Option.some.inj e]; exact .base (.bl _)
  | int b => rw [show v = V.int b from h, ← Option.some.inj e]; exact .base (.int _)
  | str b => rw [show v = V.str (S b) from h, ← Option.some.inj e]; exact .base (.str _)
  | tup ds => obtain ⟨a, vs, h1, h2, _⟩ := h; rw [h1, ← Option.some.inj e]; exact .base (.tup h2)
  | lst ds => obtain ⟨a, vs, h1, h2, _⟩ := h; rw [h1, ← Option.some.inj e]; exact .base (.lst h2)
  | raw w => exact absurd e (by intro q; cases q)
  | scr ns => exact absurd e (by intro q; cases q)
theorem ev_isi {m n : String} {b : Bool} (ha : Ev K ta σ H d) (h : d.ty = some n) (hb : kitB n m = some b) : Ev K (tCB (rIsi K) (tCons ta (tCons (tC (.ty m)) tNil))) σ H (.bl b) :=
  ev_cb (ea_cons ha (ea_cons ev_c ea_nil)) fun vs H1 _ ⟨v, r, h1, hv, w, r2, h3, hw, h5⟩ Q q =>
    ⟨v, .ty m, .type n, .type m, b, by rw [h1, h3, show w = .ty m from hw, show r2 = [] from h5], .ty m, hv.tyx h, kit_ty hb, q _ _ (Same.refl _) rfl⟩

/-! the answers of isinstance -/
theorem kit_NoneType_str : kitB "NoneType" "str" = some false := by decide +kernel
theorem kit_NoneType_int : kitB "NoneType" "int" = some false := by decide +kernel
theorem kit_NoneType_bool : kitB "NoneType" "bool" = some false := by decide +kernel
theorem kit_NoneType_tuple : kitB "NoneType" "tuple" = some false := by decide +kernel
theorem kit_NoneType_list : kitB "NoneType" "list" = some false := by decide +kernel
theorem kit_bool_str : kitB "bool" "str" = some false := by decide +kernel
theorem kit_bool_int : kitB "bool" "int" = some true := by decide +kernel
theorem kit_bool_bool : kitB "bool" "bool" = some true := by decide +kernel
theorem kit_bool_tuple : kitB "bool" "tuple" = some false := by decide +kernel
theorem kit_bool_list : kitB "bool" "list" = some false := by decide +kernel
theorem kit_int_str : kitB "int" "str" = some false := by decide +kernel
theorem kit_int_int : kitB "int" "int" = some true := by decide +kernel
theorem kit_int_bool : kitB "int" "bool" = some false := by decide +kernel
theorem kit_int_tuple : kitB "int" "tuple" = some false := by decide +kernel
theorem kit_int_list : kitB "int" "list" = some false := by decide +kernel
theorem kit_str_str : kitB "str" "str" = some true := by decide +kernel
theorem kit_str_int : kitB "str" "int" = some false := by decide +kernel
theorem kit_str_bool : kitB "str" "bool" = some false := by decide +kernel
theorem kit_str_tuple : kitB "str" "tuple" = some false := by decide +kernel
theorem kit_str_list : kitB "str" "list" = some false := by decide +kernel
theorem kit_tuple_str : kitB "tuple" "str" = some false := by decide +kernel
theorem kit_tuple_int : kitB "tuple" "int" = some false := by decide +kernel
theorem kit_tuple_bool : kitB "tuple" "bool" = some false := by decide +kernel
theorem kit_tuple_tuple : kitB "tuple" "tuple" = some true := by decide +kernel
theorem kit_tuple_list : kitB "tuple" "list" = some false := by decide +kernel
theorem kit_list_str : kitB "list" "str" = some false := by decide +kernel
theorem kit_list_int : kitB "list" "int" = some false := by decide +kernel
theorem kit_list_bool : kitB "list" "bool" = some false := by decide +kernel
theorem kit_list_tuple : kitB "list" "tuple" = some false := by decide +kernel
theorem kit_list_list : kitB "list" "list" = some true := by decide +kernel

/-! ### tests -/
theorem et_test {b : Bool} (h : Ev K te σ H (.bl b)) : EvT K (tTest te) σ H b := fun H1 a _ q => h H1 a _ fun v H2 s hv => ⟨b, hv, q H2 s⟩
theorem et_B {b : Bool} (h : Ev K te σ H (.bl b)) : EvT K (tB te) σ H b := fun H1 a _ q => h H1 a _ fun v H2 s hv => ⟨b, hv, q H2 s⟩
theorem et_and {a b : Bool} (h1 : EvT K t σ H a) (h2 : a = true → EvT K u σ H b) : EvT K (tAnd t u) σ H (a && b) := fun H1 e Q q => h1 H1 e _ fun H2 e2 => by
  cases a with
  | true => show u σ H2 Q; exact h2 rfl H2 (e.trans e2) Q fun H3 e3 => q H3 (e2.trans e3)
  | false => show Q false H2; exact q H2 e2
theorem et_or {a b : Bool} (h1 : EvT K t σ H a) (h2 : a = false → EvT K u σ H b) : EvT K (tOr t u) σ H (a || b) := fun H1 e Q q => h1 H1 e _ fun H2 e2 => by
  cases a with
  | true => show Q true H2; exact q H2 e2
  | false => show u σ H2 Q; exact h2 rfl H2 (e.trans e2) Q fun H3 e3 => q H3 (e2.trans e3)
theorem et_not {a : Bool} (h1 : EvT K t σ H a) : EvT K (tNot t) σ H (!a) := fun H1 e _ q => h1 H1 e _ fun H2 e2 => q H2 e2
theorem et_orT (h1 : EvT K t σ H true) : EvT K (tOr t u) σ H true := fun H1 e Q q => h1 H1 e _ fun H2 e2 => by
  show Q true H2; exact q H2 e2
theorem et_orF {b : Bool} (h1 : EvT K t σ H false) (h2 : EvT K u σ H b) : EvT K (tOr t u) σ H b := fun H1 e Q q => h1 H1 e _ fun H2 e2 => by
  show u σ H2 Q; exact h2 H2 (e.trans e2) Q fun H3 e3 => q H3 (e2.trans e3)
theorem et_andT {b : Bool} (h1 : EvT K t σ H true) (h2 : EvT K u σ H b) : EvT K (tAnd t u) σ H b := fun H1 e Q q => h1 H1 e _ fun H2 e2 => by
  show u σ H2 Q; exact h2 H2 (e.trans e2) Q fun H3 e3 => q H3 (e2.trans e3)
theorem et_andF (h1 : EvT K t σ H false) : EvT K (tAnd t u) σ H false := fun H1 e Q q => h1 H1 e _ fun H2 e2 => by
  show Q false H2; exact q H2 e2
theorem ev_andT (h1 : Ev K ta σ H (.bl true)) (h2 : Ev K tb σ H d) : Ev K (tAndV ta tb) σ H d := fun H1 e Q q => h1 H1 e _ fun v H2 e2 hv => ⟨true, hv, by
  show tb σ H2 Q; exact h2 H2 (e.trans e2) Q fun w H3 e3 hw => q w H3 (e2.trans e3) hw⟩
theorem ev_andF (h1 : Ev K ta σ H (.bl false)) : Ev K (tAndV ta tb) σ H (.bl false) := fun H1 e Q q => h1 H1 e _ fun v H2 e2 hv => ⟨false, hv, by
  show Q (.bl false) H2; exact q _ H2 e2 rfl⟩
theorem ev_orT (h1 : Ev K ta σ H (.bl true)) : Ev K (tOrV ta tb) σ H (.bl true) := fun H1 e Q q => h1 H1 e _ fun v H2 e2 hv => ⟨true, hv, by
  show Q (.bl true) H2; exact q _ H2 e2 rfl⟩
theorem ev_orF (h1 : Ev K ta σ H (.bl false)) (h2 : Ev K tb σ H d) : Ev K (tOrV ta tb) σ H d := fun H1 e Q q => h1 H1 e _ fun v H2 e2 hv => ⟨false, hv, by
  show tb σ H2 Q; exact h2 H2 (e.trans e2) Q fun w H3 e3 hw => q w H3 (e2.trans e3) hw⟩
theorem ev_andV {a b : Bool} (h1 : Ev K ta σ H (.bl a)) (h2 : a = true → Ev K tb σ H (.bl b)) : Ev K (tAndV ta tb) σ H (.bl (a && b)) := by
  cases a with
  | true => exact ev_andT h1 (h2 rfl)
  | false => exact ev_andF h1
theorem ev_orV {a b : Bool} (h1 : Ev K ta σ H (.bl a)) (h2 : a = false → Ev K tb σ H (.bl b)) : Ev K (tOrV ta tb) σ H (.bl (a || b)) := by
  cases a with
  | false => exact ev_orF h1 (h2 rfl)
  | true => exact ev_orT h1
theorem ev_notV {a : Bool} (h1 : Ev K ta σ H (.bl a)) : Ev K (tNotV ta) σ H (.bl (!a)) := fun H1 e _ q => h1 H1 e _ fun v H2 e2 hv => ⟨a, hv, q _ H2 e2 rfl⟩

/-! ### defs -/
/-- a def that answers data and leaves what was tracked -/
def Fn (K : PySem.W.Frag) (R : List D → D → Prop) : Sp := fun vs H Q _ => ∃ ds d, Dts K H ds vs ∧ R ds d ∧ ∀ v H', Same H H' → Dt K H' d v → Q v H'
/-- .. a new list -/
def FnN (K : PySem.W.Frag) (R : List D → List D → Prop) : Sp := fun vs H Q _ => ∃ ds es, Dts K H ds vs ∧ R ds es ∧ ∀ p ws H', H p = none → Same H H' → H' p = some (.lst ws) → Dts K H' es ws → Q (.ref p) H'
theorem ev_call {R : List D → D → Prop} {t : TA} {ds : List D} {E : XK} (h : EvA K t σ H ds) (hR : R ds d) : Ev K (tCall (Fn K R) [] E t) σ H d := fun H1 a Q q =>
  h H1 a _ fun vs H2 s2 hvs => ⟨ds, d, by rw [List.append_nil]; exact hvs, hR, fun v H3 s3 hv => q v H3 (s2.trans s3) hv⟩
theorem en_call {R : List D → List D → Prop} {t : TA} {ds es : List D} {E : XK} (h : EvA K t σ H ds) (hR : R ds es) : EvN K (tCall (FnN K R) [] E t) σ H es := fun H1 a Q q =>
  h H1 a _ fun vs H2 s2 hvs => ⟨ds, es, by rw [List.append_nil]; exact hvs, hR, fun p ws H3 hp s3 h1 h2 => q p ws H3 (s2.free hp) (s2.trans s3) h1 h2⟩
theorem ev_callN {R : List D → List D → Prop} {t : TA} {ds es : List D} {E : XK} (h : EvA K t σ H ds) (hR : R ds es) : Ev K (tCall (FnN K R) [] E t) σ H (.lst es) := (en_call h hR).ev

/-! ### statements -/
variable {ds : List (Option D)} {E : Ends} {tu tw : TS}
theorem s_asg {i : Nat} (s : Sl K H ds σ) (h : Ev K te σ H d) (k : ∀ σ' H', Same H H' → Sl K H' (ds.set i (some d)) σ' → E.nx σ' H') : tAsg te (gName i) E σ H :=
  h H (Same.refl H) _ fun v H1 e hv => k _ H1 e ((s.mono e).set i hv)
theorem q_asg {i : Nat} (s : Sl K H ds σ) (h : Ev K te σ H d) (k : ∀ σ' H', Same H H' → Sl K H' (ds.set i (some d)) σ' → tu E σ' H') : tSeq (tAsg te (gName i)) tu E σ H := s_asg (E := { E with nx := tu E }) s h k
/-- a text, an int is given a name -/
theorem q_asgW {i : Nat} {w : Tx} (s : Sl K H ds σ) (h : Ev K te σ H (.str w)) (k : ∀ w' σ' H', w' = w → Same H H' → Sl K H' (ds.set i (some (.str w'))) σ' → tu E σ' H') : tSeq (tAsg te (gName i)) tu E σ H := q_asg s h fun σ' H' e s' => k w σ' H' rfl e s'
theorem q_asgI {i : Nat} {w : Int} (s : Sl K H ds σ) (h : Ev K te σ H (.int w)) (k : ∀ w' σ' H', w' = w → Same H H' → Sl K H' (ds.set i (some (.int w'))) σ' → tu E σ' H') : tSeq (tAsg te (gName i)) tu E σ H := q_asg s h fun σ' H' e s' => k w σ' H' rfl e s'
/-- a new local list, at its address -/
theorem s_asgN {i : Nat} {es : List D} (s : Sl K H ds σ) (h : EvN K te σ H es) (k : ∀ p vs σ' H', H p = none → Same H H' → H' p = some (.lst vs) → Dts K H' es vs → Sl K H' (ds.set i (some (.raw (.ref p)))) σ' → E.nx σ' H') : tAsg te (gName i) E σ H :=
  h H (Same.refl H) _ fun p vs H1 hp e h1 h2 => k p vs _ H1 hp e h1 h2 ((s.mono e).set i rfl)
theorem q_asgN {i : Nat} {es : List D} (s : Sl K H ds σ) (h : EvN K te σ H es) (k : ∀ p vs σ' H', H p = none → Same H H' → H' p = some (.lst vs) → Dts K H' es vs → Sl K H' (ds.set i (some (.raw (.ref p)))) σ' → tu E σ' H') : tSeq (tAsg te (gName i)) tu E σ H := s_asgN (E := { E with nx := tu E }) s h k
theorem s_ret (h : Ev K te σ H d) (k : ∀ v H', Same H H' → Dt K H' d v → E.rt v H') : tRet te E σ H := h H (Same.refl H) _ k
theorem s_retN {es : List D} (h : EvN K te σ H es) (k : ∀ p vs H', H p = none → Same H H' → H' p = some (.lst vs) → Dts K H' es vs → E.rt (.ref p) H') : tRet te E σ H := h H (Same.refl H) _ k
theorem s_if {b : Bool} (h : EvT K t σ H b) (h1 : b = true → ∀ H', Same H H' → tu E σ H') (h2 : b = false → ∀ H', Same H H' → tw E σ H') : tIfS t tu tw E σ H := h H (Same.refl H) _ fun H1 e => by
  cases b with
  | true => show tu E σ H1; exact h1 rfl H1 e
  | false => show tw E σ H1; exact h2 rfl H1 e
theorem q_if {b : Bool} {tv : TS} (h : EvT K t σ H b) (h1 : b = true → ∀ H', Same H H' → tu { E with nx := tv E } σ H') (h2 : b = false → ∀ H', Same H H' → tw { E with nx := tv E } σ H') : tSeq (tIfS t tu tw) tv E σ H := s_if (E := { E with nx := tv E }) h h1 h2
theorem s_ifT (h : EvT K t σ H true) (h1 : ∀ H', Same H H' → tu E σ H') : tIfS t tu tw E σ H := s_if h (fun _ => h1) (fun q => by cases q)
theorem s_ifF (h : EvT K t σ H false) (h1 : ∀ H', Same H H' → tw E σ H') : tIfS t tu tw E σ H := s_if h (fun q => by cases q) (fun _ => h1)
theorem q_ifT {tv : TS} (h : EvT K t σ H true) (h1 : ∀ H', Same H H' → tu { E with nx := tv E } σ H') : tSeq (tIfS t tu tw) tv E σ H := s_ifT (E := { E with nx := tv E }) h h1
theorem q_ifF {tv : TS} (h : EvT K t σ H false) (h1 : ∀ H', Same H H' → tw { E with nx := tv E } σ H') : tSeq (tIfS t tu tw) tv E σ H := s_ifF (E := { E with nx := tv E }) h h1
/-- an if without else whose test is false: straight on -/
theorem q_ifF0 {tv : TS} (h : EvT K t σ H false) (h1 : ∀ H', Same H H' → tv E σ H') : tSeq (tIfS t tu tNext) tv E σ H := q_ifF h h1
theorem q_if0 {b : Bool} {tv : TS} (h : EvT K t σ H b) (h1 : b = true → ∀ H', Same H H' → tu { E with nx := tv E } σ H') (h2 : b = false → ∀ H', Same H H' → tv E σ H') : tSeq (tIfS t tu tNext) tv E σ H := q_if h h1 h2
/-- an if behind which the ways meet: P, what holds of the slots -/
theorem q_ifJ {b : Bool} {tv : TS} (P : List (Option D) → Prop) (h : EvT K t σ H b)
    (h1 : b = true → ∀ H' (N : St → Hp → Prop), Same H H' → (∀ ds2 σ2 H2, P ds2 → Same H' H2 → Sl K H2 ds2 σ2 → N σ2 H2) → tu { E with nx := N } σ H')
    (h2 : b = false → ∀ H' (N : St → Hp → Prop), Same H H' → (∀ ds2 σ2 H2, P ds2 → Same H' H2 → Sl K H2 ds2 σ2 → N σ2 H2) → tw { E with nx := N } σ H')
    (k : ∀ ds2 σ2 H2, P ds2 → Same H H2 → Sl K H2 ds2 σ2 → tv E σ2 H2) : tSeq (tIfS t tu tw) tv E σ H :=
  q_if h (fun c H' e => h1 c H' (tv E) e fun ds2 σ2 H2 p e2 s2 => k ds2 σ2 H2 p (e.trans e2) s2) (fun c H' e => h2 c H' (tv E) e fun ds2 σ2 H2 p e2 s2 => k ds2 σ2 H2 p (e.trans e2) s2)
/-- .. without else -/
theorem q_ifJ0 {b : Bool} {tv : TS} (P : List (Option D) → Prop) {d0 : List (Option D)} (s0 : Sl K H d0 σ) (h : EvT K t σ H b)
    (h1 : b = true → ∀ H' (N : St → Hp → Prop), Same H H' → (∀ ds2 σ2 H2, P ds2 → Same H' H2 → Sl K H2 ds2 σ2 → N σ2 H2) → tu { E with nx := N } σ H')
    (h2 : b = false → P d0) (k : ∀ ds2 σ2 H2, P ds2 → Same H H2 → Sl K H2 ds2 σ2 → tv E σ2 H2) : tSeq (tIfS t tu tNext) tv E σ H :=
  q_ifJ P h h1 (fun c H' N e n => n d0 σ H' (h2 c) (Same.refl _) (s0.mono e)) k
theorem s_drop (h : Ev K te σ H d) (k : ∀ H', Same H H' → E.nx σ H') : tDrop te E σ H := h H (Same.refl H) _ fun _ H1 e _ => k H1 e
theorem s_seq {tv : TS} (h : tu { E with nx := tv E } σ H) : tSeq tu tv E σ H := h

/-- the list at l is another one behind, all else stands -/
structure Chg (l : Addr) (H H' : Hp) : Prop where
  ex : ∃ H2 xs o, Same H H2 ∧ H l = some (.lst xs) ∧ H' = upd H2 l o
theorem Chg.same0 {l : Addr} {H0 : Hp} (c : Chg l H H') (h0 : H0 l = none) (s : Same H0 H) : Same H0 H' := by
  obtain ⟨H2, xs, o, s2, _, rfl⟩ := c.ex
  exact Same.mut (s.trans s2) h0
theorem Chg.dt {l : Addr} {v : V} (c : Chg l H H') (i : d.imm = true) (h : Dt K H d v) : Dt K H' d v := by
  obtain ⟨H2, xs, o, s2, e, rfl⟩ := c.ex
  exact Dt.put (s2 _ _ e) d i (Dt.mono s2 d h)
theorem Chg.sl {l : Addr} (c : Chg l H H') (i : ∀ d, some d ∈ ds → d.imm = true) (h : Sl K H ds σ) : Sl K H' ds σ := by
  obtain ⟨H2, xs, o, s2, e, rfl⟩ := c.ex
  exact Sl.put (s2 _ _ e) i (h.mono s2)
theorem Chg.keep {l b : Addr} {o : HO} (c : Chg l H H') (n : b ≠ l) (h : H b = some o) : H' b = some o := by
  obtain ⟨H2, xs, u, s2, e, rfl⟩ := c.ex
  rw [upd_ne n]; exact s2 _ _ h
/-- xs.append(e), xs a local list at l -/
theorem s_app {l : Addr} {vs : List V} {es : List D} (hl : H l = some (.lst vs)) (hd : Dts K H es vs) (hi : D.imms es = true) (ha : Ev K ta σ H (.raw (.ref l))) (h : Ev K te σ H d) (hdi : d.imm = true) (hz : es.length < 100000)
    (k : ∀ ws H', Chg l H H' → H' l = some (.lst ws) → Dts K H' (es ++ [d]) ws → E.nx σ H') : tDrop (tBM K "list" rAppend ta (tCons te tNil)) E σ H :=
  ha H (Same.refl H) _ fun x H1 e1 hx => by
    rw [show x = .ref l from hx]
    refine ⟨Or.inl ⟨rfl, vs, SqL.of (e1 _ _ hl)⟩, h H1 e1 _ fun v H2 e2 hv => ⟨l, vs, v, rfl, rfl, e2 _ _ (e1 _ _ hl), smallLt (by rw [hd.len]; exact hz), ?_⟩⟩
    have e12 := e1.trans e2
    exact k _ _ ⟨H2, vs, _, e12, hl, rfl⟩ upd_same (Dts.put (e12 _ _ hl) _ (D.imms_app hi (D.imms_of (by intro d' hd'; rw [List.mem_singleton.mp hd']; exact hdi))) (Dts.snoc (Dts.mono e12 _ hd) hv))
end
end Rt
namespace Rt
open PySem L2

/-- all but l stands -/
def Sm (l : Addr) (H H' : Hp) : Prop := ∀ b o, b ≠ l → H b = some o → H' b = some o
theorem Sm.refl (l : Addr) (H : Hp) : Sm l H H := fun _ _ _ h => h
theorem Same.sm {H H' : Hp} (l : Addr) (s : Same H H') : Sm l H H' := fun b o _ h => s b o h
theorem Sm.trans {l : Addr} {H H1 H2 : Hp} (a : Sm l H H1) (b : Sm l H1 H2) : Sm l H H2 := fun c o n h => b c o n (a c o n h)
theorem Chg.sm {l : Addr} {H H' : Hp} (c : Chg l H H') : Sm l H H' := fun b o n h => c.keep n h
theorem Sm.same0 {l : Addr} {H0 H H' : Hp} (c : Sm l H H') (h0 : H0 l = none) (s : Same H0 H) : Same H0 H' := fun b o h => c b o (ne_of_none h h0) (s b o h)

section
variable {K : PySem.W.Frag} {σ : St} {H H' : Hp} {ta tb te tl : TE} {t u : TT} {d e : D} {ds : List (Option D)} {E : Ends} {tu tw : TS}

/-! ### for, nothing of the heap changes -/
/-- a turn: from the heap H (turn i) to the next one -/
def Turn (K : PySem.W.Frag) (P : Nat → List (Option D) → Prop) (tu : TS) (E : Ends) (j : Nat) (H : Hp) (i : Nat) (d : D) : Prop :=
  ∀ ds σ' H' (N : St → Hp → Prop), P i ds → Same H H' → Sl K H' (ds.set j (some d)) σ' → (∀ ds2 σ2 H2, P (i + 1) ds2 → Same H' H2 → Sl K H2 ds2 σ2 → N σ2 H2) → tu { E with nx := N, ct := N, bk := E.nx } σ' H'
theorem map_at {α : Type} {l : List α} {enc : α → D} {i : Nat} {d : D} (h : (l.map enc)[i]? = some d) : ∃ a, l[i]? = some a ∧ d = enc a := by
  rw [List.getElem?_map] at h
  cases e : l[i]? with
  | none => rw [e] at h; cases h
  | some a => rw [e] at h; exact ⟨a, rfl, (Option.some.inj h).symm⟩
theorem s_forT {α : Type} {l : List α} {enc : α → D} {j : Nat} (h : Ev K tl σ H (.tup (l.map enc))) (P : Nat → List (Option D) → Prop) {d0 : List (Option D)} (s0 : Sl K H d0 σ) (p0 : P 0 d0)
    (step : ∀ i a, l[i]? = some a → Turn K P tu E j H i (enc a)) (done : ∀ ds σ' H', P l.length ds → Same H H' → Sl K H' ds σ' → E.nx σ' H') : tFor (iTup K tl) (gName j) tu E σ H :=
  h H (Same.refl H) _ fun v H1 s1 ⟨a, vs, e1, e2, e3⟩ => ⟨a, e1, ⟨vs, SqT.of e2⟩, for_tup (xs := vs) (fun i σ H' => ∃ ds, P i ds ∧ Same H1 H' ∧ Sl K H' ds σ) ⟨d0, p0, Same.refl _, s0.mono s1⟩
    (fun i σ' H' _ ⟨ds, p, s, sl⟩ => SqT.of (s _ _ e2))
    (fun i x σ' H' hx ⟨ds, p, s, sl⟩ => by
      obtain ⟨d, hd, hv⟩ := (Dts.mono s _ e3).getv hx
      obtain ⟨a', ha', rfl⟩ := map_at hd
      exact step i a' ha' ds _ H' _ p (s1.trans s) (sl.set j hv) fun ds2 σ2 H2 p2 s2 sl2 => ⟨ds2, p2, s.trans s2, sl2⟩)
    (fun σ' H' ⟨ds, p, s, sl⟩ => by rw [e3.len, List.length_map] at p; exact done ds σ' H' p (s1.trans s) sl)⟩
theorem s_forL {α : Type} {l : List α} {enc : α → D} {j : Nat} (h : Ev K tl σ H (.lst (l.map enc))) (P : Nat → List (Option D) → Prop) {d0 : List (Option D)} (s0 : Sl K H d0 σ) (p0 : P 0 d0)
    (step : ∀ i a, l[i]? = some a → Turn K P tu E j H i (enc a)) (done : ∀ ds σ' H', P l.length ds → Same H H' → Sl K H' ds σ' → E.nx σ' H') : tFor (iList K tl) (gName j) tu E σ H :=
  h H (Same.refl H) _ fun v H1 s1 ⟨a, vs, e1, e2, e3⟩ => ⟨a, e1, ⟨vs, SqL.of e2⟩, for_list (xs := vs) (fun i σ H' => ∃ ds, P i ds ∧ Same H1 H' ∧ Sl K H' ds σ) ⟨d0, p0, Same.refl _, s0.mono s1⟩
    (fun i σ' H' _ ⟨ds, p, s, sl⟩ => SqL.of (s _ _ e2))
    (fun i x σ' H' hx ⟨ds, p, s, sl⟩ => by
      obtain ⟨d, hd, hv⟩ := (Dts.mono s _ e3).getv hx
      obtain ⟨a', ha', rfl⟩ := map_at hd
      exact step i a' ha' ds _ H' _ p (s1.trans s) (sl.set j hv) fun ds2 σ2 H2 p2 s2 sl2 => ⟨ds2, p2, s.trans s2, sl2⟩)
    (fun σ' H' ⟨ds, p, s, sl⟩ => by rw [e3.len, List.length_map] at p; exact done ds σ' H' p (s1.trans s) sl)⟩
theorem s_forR {j : Nat} {ta : TA} {n : Int} (m : Nat) (h : EvA K ta σ H [.int n]) (hm : m = n.toNat) (hn : n ≤ 100000 ∧ -100000 ≤ n) (P : Nat → List (Option D) → Prop) {d0 : List (Option D)} (s0 : Sl K H d0 σ) (p0 : P 0 d0)
    (step : ∀ i : Nat, i < m → Turn K P tu E j H i (.int (i : Int))) (done : ∀ ds σ' H', P m ds → Same H H' → Sl K H' ds σ' → E.nx σ' H') : tFor (iRng1 ta) (gName j) tu E σ H :=
  h H (Same.refl H) _ fun vs H1 s1 ⟨v, r, e1, e2, e3⟩ => ⟨n, by rw [e1, show v = .int n from e2, show r = [] from e3], by omega, by omega, for_range (lo := 0) (n := n.toNat) (fun i σ H' => ∃ ds, P i ds ∧ Same H1 H' ∧ Sl K H' ds σ) ⟨d0, p0, Same.refl _, s0.mono s1⟩
    (fun i σ' H' hi ⟨ds, p, s, sl⟩ => by
      have e0 : (0 : Int) + (i : Int) = (i : Int) := Int.zero_add _
      rw [e0]
      exact step i (by omega) ds _ H' _ p (s1.trans s) (sl.set (d := .int (i : Int)) j rfl) fun ds2 σ2 H2 p2 s2 sl2 => ⟨ds2, p2, s.trans s2, sl2⟩)
    (fun σ' H' ⟨ds, p, s, sl⟩ => by rw [← hm] at p; exact done ds σ' H' p (s1.trans s) sl)⟩
theorem s_forR2 {j : Nat} {ta : TA} {lo n : Int} (m : Nat) (h : EvA K ta σ H [.int lo, .int n]) (hm : m = (n - lo).toNat) (hn : n ≤ 100000 ∧ -100000 ≤ n ∧ lo ≤ 100000 ∧ -100000 ≤ lo) (P : Nat → List (Option D) → Prop) {d0 : List (Option D)} (s0 : Sl K H d0 σ) (p0 : P 0 d0)
    (step : ∀ i : Nat, i < m → Turn K P tu E j H i (.int (lo + (i : Int)))) (done : ∀ ds σ' H', P m ds → Same H H' → Sl K H' ds σ' → E.nx σ' H') : tFor (iRng2 ta) (gName j) tu E σ H :=
  h H (Same.refl H) _ fun vs H1 s1 ⟨v, r, e1, e2, w, r2, f1, f2, f3⟩ => ⟨lo, n, by rw [e1, show v = .int lo from e2, f1, show w = .int n from f2, show r2 = [] from f3], ⟨by omega, by omega, by omega, by omega⟩, for_range (lo := lo) (n := (n - lo).toNat) (fun i σ H' => ∃ ds, P i ds ∧ Same H1 H' ∧ Sl K H' ds σ) ⟨d0, p0, Same.refl _, s0.mono s1⟩
    (fun i σ' H' hi ⟨ds, p, s, sl⟩ => step i (by omega) ds _ H' _ p (s1.trans s) (sl.set (d := .int (lo + (i : Int))) j rfl) fun ds2 σ2 H2 p2 s2 sl2 => ⟨ds2, p2, s.trans s2, sl2⟩)
    (fun σ' H' ⟨ds, p, s, sl⟩ => by rw [← hm] at p; exact done ds σ' H' p (s1.trans s) sl)⟩
theorem s_while (W : Nat → List (Option D) → Prop) {d0 : List (Option D)} (m0 : Nat) (s0 : Sl K H d0 σ) (w0 : W m0 d0)
    (step : ∀ m ds σ' H', W m ds → Same H H' → Sl K H' ds σ' → ∃ b, EvT K t σ' H' b ∧ (b = true → ∀ H1 (N : St → Hp → Prop), Same H' H1 → (∀ m2 ds2 σ2 H2, m2 < m → W m2 ds2 → Same H1 H2 → Sl K H2 ds2 σ2 → N σ2 H2) → tu { E with nx := N, ct := N, bk := E.nx } σ' H1) ∧ (b = false → ∀ H1, Same H' H1 → E.nx σ' H1)) : tWhile t tu E σ H :=
  ⟨fun m σ' H' => ∃ ds, W m ds ∧ Same H H' ∧ Sl K H' ds σ', ⟨m0, d0, w0, Same.refl _, s0⟩, fun m σ' H' ⟨ds, w, s, sl⟩ => by
    obtain ⟨b, hb, h1, h2⟩ := step m ds σ' H' w s sl
    refine hb H' (Same.refl H') _ fun H1 e => ?_
    cases b with
    | true => exact ⟨fun σ2 H2 => ∃ m', m' < m ∧ ∃ ds, W m' ds ∧ Same H H2 ∧ Sl K H2 ds σ2, fun σ2 H2 ⟨m', l, z⟩ => ⟨m', l, z⟩, h1 rfl H1 _ e fun m2 ds2 σ2 H2 l w2 s2 sl2 => ⟨m2, l, ds2, w2, (s.trans e).trans s2, sl2⟩⟩
    | false => exact h2 rfl H1 e⟩
theorem q_forT {tv : TS} {α : Type} {l : List α} {enc : α → D} {j : Nat} (h : Ev K tl σ H (.tup (l.map enc))) (P : Nat → List (Option D) → Prop) {d0 : List (Option D)} (s0 : Sl K H d0 σ) (p0 : P 0 d0)
    (step : ∀ i a, l[i]? = some a → Turn K P tu { E with nx := tv E } j H i (enc a)) (done : ∀ ds σ' H', P l.length ds → Same H H' → Sl K H' ds σ' → tv E σ' H') : tSeq (tFor (iTup K tl) (gName j) tu) tv E σ H := s_forT (E := { E with nx := tv E }) h P s0 p0 step done
theorem q_forL {tv : TS} {α : Type} {l : List α} {enc : α → D} {j : Nat} (h : Ev K tl σ H (.lst (l.map enc))) (P : Nat → List (Option D) → Prop) {d0 : List (Option D)} (s0 : Sl K H d0 σ) (p0 : P 0 d0)
    (step : ∀ i a, l[i]? = some a → Turn K P tu { E with nx := tv E } j H i (enc a)) (done : ∀ ds σ' H', P l.length ds → Same H H' → Sl K H' ds σ' → tv E σ' H') : tSeq (tFor (iList K tl) (gName j) tu) tv E σ H := s_forL (E := { E with nx := tv E }) h P s0 p0 step done
theorem q_forR {tv : TS} {j : Nat} {ta : TA} {n : Int} (m : Nat) (h : EvA K ta σ H [.int n]) (hm : m = n.toNat) (hn : n ≤ 100000 ∧ -100000 ≤ n) (P : Nat → List (Option D) → Prop) {d0 : List (Option D)} (s0 : Sl K H d0 σ) (p0 : P 0 d0)
    (step : ∀ i : Nat, i < m → Turn K P tu { E with nx := tv E } j H i (.int (i : Int))) (done : ∀ ds σ' H', P m ds → Same H H' → Sl K H' ds σ' → tv E σ' H') : tSeq (tFor (iRng1 ta) (gName j) tu) tv E σ H := s_forR (E := { E with nx := tv E }) m h hm hn P s0 p0 step done
theorem q_while {tv : TS} (W : Nat → List (Option D) → Prop) {d0 : List (Option D)} (m0 : Nat) (s0 : Sl K H d0 σ) (w0 : W m0 d0)
    (step : ∀ m ds σ' H', W m ds → Same H H' → Sl K H' ds σ' → ∃ b, EvT K t σ' H' b ∧ (b = true → ∀ H1 (N : St → Hp → Prop), Same H' H1 → (∀ m2 ds2 σ2 H2, m2 < m → W m2 ds2 → Same H1 H2 → Sl K H2 ds2 σ2 → N σ2 H2) → tu { E with nx := N, ct := N, bk := tv E } σ' H1) ∧ (b = false → ∀ H1, Same H' H1 → tv E σ' H1)) : tSeq (tWhile t tu) tv E σ H := s_while (E := { E with nx := tv E }) W m0 s0 w0 step

/-! ### for, a local list at l is changed; P: the turn, the slots, the list's items -/
def TurnB (K : PySem.W.Frag) (l : Addr) (P : Nat → List (Option D) → List D → Prop) (tu : TS) (E : Ends) (j : Nat) (H : Hp) (i : Nat) (d : D) : Prop :=
  ∀ ds es vs σ' H' (N : St → Hp → Prop), P i ds es → Sm l H H' → Sl K H' (ds.set j (some d)) σ' → H' l = some (.lst vs) → Dts K H' es vs →
    (∀ ds2 es2 vs2 σ2 H2, P (i + 1) ds2 es2 → Sm l H' H2 → Sl K H2 ds2 σ2 → H2 l = some (.lst vs2) → Dts K H2 es2 vs2 → N σ2 H2) → tu { E with nx := N, ct := N, bk := E.nx } σ' H'
theorem s_forTB {l : Addr} {α : Type} {xs : List α} {enc : α → D} {j : Nat} (h : Ev K tl σ H (.tup (xs.map enc))) (P : Nat → List (Option D) → List D → Prop) {d0 : List (Option D)} {e0 : List D} {v0 : List V} (s0 : Sl K H d0 σ) (p0 : P 0 d0 e0) (hl : H l = some (.lst v0)) (hd0 : Dts K H e0 v0)
    (step : ∀ i a, xs[i]? = some a → TurnB K l P tu E j H i (enc a)) (done : ∀ ds es vs σ' H', P xs.length ds es → Sm l H H' → Sl K H' ds σ' → H' l = some (.lst vs) → Dts K H' es vs → E.nx σ' H')
    (tr : ∀ H' H2, Sm l H' H2 → (∃ ws, H' l = some (.lst ws)) → ∀ a, a ∈ xs → ∀ v, Dt K H' (enc a) v → Dt K H2 (enc a) v) : tFor (iTup K tl) (gName j) tu E σ H :=
  h H (Same.refl H) _ fun v H1 s1 ⟨a, vs, e1, e2, e3⟩ => by
    have nal : a ≠ l := ne_of e2 (s1 _ _ hl) (by intro q; cases q)
    refine ⟨a, e1, ⟨vs, SqT.of e2⟩, for_tup (xs := vs) (fun i σ H' => ∃ ds es ws, P i ds es ∧ Sm l H1 H' ∧ Sl K H' ds σ ∧ H' l = some (.lst ws) ∧ Dts K H' es ws) ⟨d0, e0, v0, p0, Sm.refl _ _, s0.mono s1, s1 _ _ hl, Dts.mono s1 _ hd0⟩
      (fun i σ' H' _ ⟨ds, es, ws, p, s, sl, hl', hd'⟩ => SqT.of (s _ _ nal e2))
      (fun i x σ' H' hx ⟨ds, es, ws, p, s, sl, hl', hd'⟩ => ?_)
      (fun σ' H' ⟨ds, es, ws, p, s, sl, hl', hd'⟩ => by rw [e3.len, List.length_map] at p; exact done ds es ws σ' H' p ((Same.sm l s1).trans s) sl hl' hd')⟩
    obtain ⟨d, hd, hv⟩ := e3.getv hx
    obtain ⟨a', ha', rfl⟩ := map_at hd
    exact step i a' ha' ds es ws _ H' _ p ((Same.sm l s1).trans s) (sl.set j (tr H1 H' s ⟨v0, s1 _ _ hl⟩ a' (List.mem_of_getElem? ha') x hv)) hl' hd' fun ds2 es2 ws2 σ2 H2 p2 s2 sl2 hl2 hd2 => ⟨ds2, es2, ws2, p2, s.trans s2, sl2, hl2, hd2⟩
theorem Fz.sm {a l : Addr} {xs ys : List V} (s : Sm l H H') (hl : H l = some (.lst ys)) (h : Fz K H a xs) : Fz K H' a xs := by
  rcases h with ⟨u, h⟩ | h
  · exact .inl ⟨u, s _ _ (ne_of h hl (by intro q; cases q)) h⟩
  · exact .inr h
mutual
theorem Dt.sm {l : Addr} {xs : List V} (s : Sm l H H') (hl : H l = some (.lst xs)) : ∀ (d : D) {v : V}, d.imm = true → Dt K H d v → Dt K H' d v
  | .non, _, _, h => h
  | .bl _, _, _, h => h
  | .int _, _, _, h => h
  | .str _, _, _, h => h
  | .raw _, _, _, h => h
  | .scr _, _, _, ⟨a, h1, h2⟩ => ⟨a, h1, Fz.sm s hl h2⟩
  | .tup ds, _, i, ⟨a, vs, h1, h2, h3⟩ => ⟨a, vs, h1, s _ _ (ne_of h2 hl (by intro q; cases q)) h2, Dts.sm s hl ds i h3⟩
  | .lst ds, _, i, _ => by cases i
theorem Dts.sm {l : Addr} {xs : List V} (s : Sm l H H') (hl : H l = some (.lst xs)) : ∀ (ds : List D) {vs : List V}, D.imms ds = true → Dts K H ds vs → Dts K H' ds vs
  | [], _, _, h => h
  | d :: ds, _, i, ⟨v, r, h1, h2, h3⟩ => by
    have i' : (d.imm && D.imms ds) = true := i
    rw [Bool.and_eq_true] at i'
    exact ⟨v, r, h1, Dt.sm s hl d i'.1 h2, Dts.sm s hl ds i'.2 h3⟩
end
theorem Sl.sm {l : Addr} {xs : List V} (s : Sm l H H') (hl : H l = some (.lst xs)) : ∀ {ds : List (Option D)} {σ : St}, (∀ d, some d ∈ ds → d.imm = true) → Sl K H ds σ → Sl K H' ds σ
  | [], _, _, h => h
  | none :: ds, _, i, ⟨x, r, h1, h2⟩ => ⟨x, r, h1, Sl.sm s hl (fun d hd => i d (List.mem_cons_of_mem _ hd)) h2⟩
  | some d :: ds, _, i, ⟨v, r, h1, h2, h3⟩ => ⟨v, r, h1, Dt.sm s hl d (i d List.mem_cons_self) h2, Sl.sm s hl (fun d hd => i d (List.mem_cons_of_mem _ hd)) h3⟩
/-- over a tuple of immutable data -/
theorem q_forTB {tv : TS} {l : Addr} {α : Type} {xs : List α} {enc : α → D} {j : Nat} (h : Ev K tl σ H (.tup (xs.map enc))) (hi : ∀ a ∈ xs, (enc a).imm = true) (P : Nat → List (Option D) → List D → Prop) {d0 : List (Option D)} {e0 : List D} {v0 : List V} (s0 : Sl K H d0 σ) (p0 : P 0 d0 e0) (hl : H l = some (.lst v0)) (hd0 : Dts K H e0 v0)
    (step : ∀ i a, xs[i]? = some a → TurnB K l P tu { E with nx := tv E } j H i (enc a)) (done : ∀ ds es vs σ' H', P xs.length ds es → Sm l H H' → Sl K H' ds σ' → H' l = some (.lst vs) → Dts K H' es vs → tv E σ' H') : tSeq (tFor (iTup K tl) (gName j) tu) tv E σ H :=
  s_forTB (E := { E with nx := tv E }) h P s0 p0 hl hd0 step done fun H' H2 s ⟨ws, hw⟩ a ha v hv => Dt.sm s hw _ (hi a ha) hv
/-- over a list (of immutable data) that does not stand at l -/
theorem s_forLB {l : Addr} {α : Type} {xs : List α} {enc : α → D} {j : Nat} (h : EvP tl σ H (fun v H1 => ∃ a vs, v = .ref a ∧ a ≠ l ∧ H1 a = some (.lst vs) ∧ Dts K H1 (xs.map enc) vs)) (hi : ∀ a ∈ xs, (enc a).imm = true) (P : Nat → List (Option D) → List D → Prop) {d0 : List (Option D)} {e0 : List D} {v0 : List V} (s0 : Sl K H d0 σ) (p0 : P 0 d0 e0) (hl : H l = some (.lst v0)) (hd0 : Dts K H e0 v0)
    (step : ∀ i a, xs[i]? = some a → TurnB K l P tu E j H i (enc a)) (done : ∀ ds es vs σ' H', P xs.length ds es → Sm l H H' → Sl K H' ds σ' → H' l = some (.lst vs) → Dts K H' es vs → E.nx σ' H') : tFor (iList K tl) (gName j) tu E σ H :=
  h H (Same.refl H) _ fun v H1 s1 ⟨a, vs, e1, nal, e2, e3⟩ => by
    refine ⟨a, e1, ⟨vs, SqL.of e2⟩, for_list (xs := vs) (fun i σ H' => ∃ ds es ws, P i ds es ∧ Sm l H1 H' ∧ Sl K H' ds σ ∧ H' l = some (.lst ws) ∧ Dts K H' es ws) ⟨d0, e0, v0, p0, Sm.refl _ _, s0.mono s1, s1 _ _ hl, Dts.mono s1 _ hd0⟩
      (fun i σ' H' _ ⟨ds, es, ws, p, s, sl, hl', hd'⟩ => SqL.of (s _ _ nal e2))
      (fun i x σ' H' hx ⟨ds, es, ws, p, s, sl, hl', hd'⟩ => ?_)
      (fun σ' H' ⟨ds, es, ws, p, s, sl, hl', hd'⟩ => by rw [e3.len, List.length_map] at p; exact done ds es ws σ' H' p ((Same.sm l s1).trans s) sl hl' hd')⟩
    obtain ⟨d, hd, hv⟩ := e3.getv hx
    obtain ⟨a', ha', rfl⟩ := map_at hd
    exact step i a' ha' ds es ws _ H' _ p ((Same.sm l s1).trans s) (sl.set j (Dt.sm s (s1 _ _ hl) _ (hi a' (List.mem_of_getElem? ha')) hv)) hl' hd' fun ds2 es2 ws2 σ2 H2 p2 s2 sl2 hl2 hd2 => ⟨ds2, es2, ws2, p2, s.trans s2, sl2, hl2, hd2⟩
theorem q_forLB {tv : TS} {l : Addr} {α : Type} {xs : List α} {enc : α → D} {j : Nat} (h : EvP tl σ H (fun v H1 => ∃ a vs, v = .ref a ∧ a ≠ l ∧ H1 a = some (.lst vs) ∧ Dts K H1 (xs.map enc) vs)) (hi : ∀ a ∈ xs, (enc a).imm = true) (P : Nat → List (Option D) → List D → Prop) {d0 : List (Option D)} {e0 : List D} {v0 : List V} (s0 : Sl K H d0 σ) (p0 : P 0 d0 e0) (hl : H l = some (.lst v0)) (hd0 : Dts K H e0 v0)
    (step : ∀ i a, xs[i]? = some a → TurnB K l P tu { E with nx := tv E } j H i (enc a)) (done : ∀ ds es vs σ' H', P xs.length ds es → Sm l H H' → Sl K H' ds σ' → H' l = some (.lst vs) → Dts K H' es vs → tv E σ' H') : tSeq (tFor (iList K tl) (gName j) tu) tv E σ H := s_forLB (E := { E with nx := tv E }) h hi P s0 p0 hl hd0 step done
/-- what a fresh list is good for -/
theorem EvN.apart {l : Addr} {xs : List D} {v0 : List V} (h : EvN K te σ H xs) (hl : H l = some (.lst v0)) : EvP te σ H (fun v H1 => ∃ a vs, v = .ref a ∧ a ≠ l ∧ H1 a = some (.lst vs) ∧ Dts K H1 xs vs) := fun H1 s1 Q q =>
  h H1 s1 Q fun p vs H2 hp s2 h1 h2 => q (.ref p) H2 s2 ⟨p, vs, rfl, fun z => (by rw [z, s1 _ _ hl] at hp; cases hp), h1, h2⟩
/-- a list that stood ahead of l -/
theorem ev_apart {l : Addr} {xs : List D} {H0 : Hp} {i : Nat} (s0 : Sl K H0 ds σ) (hi : ds[i]? = some (some (.lst xs))) (h0 : H0 l = none) (s : Same H0 H) : EvP (tVar i) σ H (fun v H1 => ∃ a vs, v = .ref a ∧ a ≠ l ∧ H1 a = some (.lst vs) ∧ Dts K H1 xs vs) := fun H1 s1 Q q => by
  obtain ⟨v, h1, a, vs, h2, h3, h4⟩ := s0.get hi
  exact ⟨v, h1, q v H1 (Same.refl _) ⟨a, vs, h2, ne_of_none h3 h0, (s.trans s1) _ _ h3, Dts.mono (s.trans s1) _ h4⟩⟩

/-! ### comprehensions -/
theorem wipe1 {σ : St} {j : Nat} (x : V) : L2.wipe ((L2.wipe σ [j]).set j (some x)) [j] = L2.wipe σ [j] := by
  show (((σ.set j none).set j (some x)).set j none) = σ.set j none
  rw [List.set_set, List.set_set]
def Cw (K : PySem.W.Frag) (H : Hp) (l : Addr) (zs : List D) (H' : Hp) : Prop := H l = none ∧ Same H H' ∧ ∃ acc, H' l = some (.lst acc) ∧ Dts K H' zs acc
theorem cw_turn {l : Addr} {zs : List D} {b : Bool} {z : D} {σ2 : St} {Px : Hp → Prop} (w : Cw K H l zs H') (hz : zs.length < 100000) (ht : EvT K t σ2 H' b) (he : b = true → Ev K te σ2 H' z ∧ z.imm = true) (hi : D.imms zs = true)
    (next : ∀ H2, Cw K H l (if b then zs ++ [z] else zs) H2 → Px H2) :
    t σ2 H' fun b H3 => if b = true then te σ2 H3 fun y H4 => ∃ acc, H4 l = some (.lst acc) ∧ acc.length < sizeLine ∧ Px (upd H4 l (.lst (acc ++ [y]))) else Px H3 := by
  obtain ⟨h0, s, acc, h1, h2⟩ := w
  refine ht H' (Same.refl _) _ fun H3 s3 => ?_
  cases b with
  | true =>
    show te σ2 H3 fun y H4 => ∃ acc, H4 l = some (.lst acc) ∧ acc.length < sizeLine ∧ Px (upd H4 l (.lst (acc ++ [y])))
    obtain ⟨hz1, hz2⟩ := he rfl
    refine hz1 H3 s3 _ fun y H4 s4 hy => ⟨acc, s4 _ _ (s3 _ _ h1), smallLt (by rw [h2.len]; exact hz), next _ ⟨h0, Same.mut ((s.trans s3).trans s4) h0, _, upd_same, ?_⟩⟩
    have e4 := s4 _ _ (s3 _ _ h1)
    exact Dts.put e4 _ (D.imms_app hi (D.imms_of (by intro d' hd'; rw [List.mem_singleton.mp hd']; exact hz2))) (Dts.snoc (Dts.mono (s3.trans s4) _ h2) hy)
  | false => exact next _ ⟨h0, s.trans s3, acc, s3 _ _ h1, Dts.mono s3 _ h2⟩
theorem filt_snoc {α β : Type} {f : α → Bool} {g : α → β} {es : List α} {i : Nat} {d : α} (h : es[i]? = some d) : ((es.take (i + 1)).filter f).map g = if f d then ((es.take i).filter f).map g ++ [g d] else ((es.take i).filter f).map g := by
  have e : es.take (i + 1) = es.take i ++ [d] := by rw [List.take_add_one, h]; rfl
  rw [e, List.filter_append, List.map_append]
  cases hf : f d with
  | true => simp [hf]
  | false => simp [hf]
theorem lenf {α β : Type} {f : α → Bool} {g : α → β} {es : List α} {i n : Nat} (h : es.length ≤ n) : (((es.take i).filter f).map g).length ≤ n := by
  have h1 := List.length_filter_le f (es.take i)
  have h2 := List.length_take_le i es
  rw [List.length_map, List.length_take] at *
  omega
theorem en_lcL {tt : TT} {α : Type} {es : List α} {enc : α → D} {j : Nat} (f : α → Bool) (g : α → D) (h : Ev K tl σ H (.lst (es.map enc))) (s0 : Sl K H ds σ) (hz : es.length < 100000)
    (ht : ∀ d ∈ es, ∀ σ' H', Same H H' → Sl K H' (ds.set j (some (enc d))) σ' → EvT K tt σ' H' (f d)) (he : ∀ d ∈ es, f d = true → ∀ σ' H', Same H H' → Sl K H' (ds.set j (some (enc d))) σ' → Ev K te σ' H' (g d))
    (hi : ∀ d ∈ es, f d = true → (g d).imm = true) : EvN K (tLc (iList K tl) (gName j) tt te [j]) σ H ((es.filter f).map g) := fun H1 a Q q =>
  h H1 a _ fun v H2 s2 ⟨b, vs, e1, e2, e3⟩ => ⟨b, e1, ⟨vs, SqL.of e2⟩, fun l hl =>
    lc_list (xs := vs) (fun i H' => Cw K H2 l (((es.take i).filter f).map g) H') ⟨hl, Same.new hl, [], upd_same, by rw [List.take_zero]; rfl⟩ (fun i H' _ w => SqL.of (w.2.1 _ _ e2))
      (fun i x H' hx w => by
        obtain ⟨d0, hd0, hv⟩ := (Dts.mono w.2.1 _ e3).getv hx
        obtain ⟨d, hd, rfl⟩ := map_at hd0
        have md := List.mem_of_getElem? hd
        have sl : Sl K H' (ds.set j (some (enc d))) ((L2.wipe σ [j]).set j (some x)) := by
          have q1 := ((s0.mono ((a.trans s2).trans w.2.1)).wipe [j]).set j hv
          have q2 : (wipeD ds [j]).set j (some (enc d)) = ds.set j (some (enc d)) := by
            show ((ds.set j none).set j (some (enc d))) = _
            rw [List.set_set]
          rw [q2] at q1
          exact q1
        exact ⟨wipe1 x, cw_turn w (Nat.lt_of_le_of_lt (lenf (Nat.le_refl _)) hz) (ht d md _ H' ((a.trans s2).trans w.2.1) sl) (fun hb => ⟨he d md hb _ H' ((a.trans s2).trans w.2.1) sl, hi d md hb⟩)
          (D.imms_of fun z hz' => by
            obtain ⟨d', hd', rfl⟩ := List.mem_map.mp hz'
            have := List.mem_filter.mp hd'
            exact hi d' (List.mem_of_mem_take this.1) this.2) (fun H2 w2 => by rw [filt_snoc hd]; exact w2)⟩)
      (fun H' w => by
        obtain ⟨h0, s, acc, h1, h2⟩ := w
        rw [e3.len, List.length_map, List.take_of_length_le (Nat.le_refl _)] at h2
        exact q l acc H' (s2.free h0) (s2.trans s) h1 h2)⟩
theorem en_lcT {tt : TT} {α : Type} {es : List α} {enc : α → D} {j : Nat} (f : α → Bool) (g : α → D) (h : Ev K tl σ H (.tup (es.map enc))) (s0 : Sl K H ds σ) (hz : es.length < 100000)
    (ht : ∀ d ∈ es, ∀ σ' H', Same H H' → Sl K H' (ds.set j (some (enc d))) σ' → EvT K tt σ' H' (f d)) (he : ∀ d ∈ es, f d = true → ∀ σ' H', Same H H' → Sl K H' (ds.set j (some (enc d))) σ' → Ev K te σ' H' (g d))
    (hi : ∀ d ∈ es, f d = true → (g d).imm = true) : EvN K (tLc (iTup K tl) (gName j) tt te [j]) σ H ((es.filter f).map g) := fun H1 a Q q =>
  h H1 a _ fun v H2 s2 ⟨b, vs, e1, e2, e3⟩ => ⟨b, e1, ⟨vs, SqT.of e2⟩, fun l hl =>
    lc_tup (xs := vs) (fun i H' => Cw K H2 l (((es.take i).filter f).map g) H') ⟨hl, Same.new hl, [], upd_same, by rw [List.take_zero]; rfl⟩ (fun i H' _ w => SqT.of (w.2.1 _ _ e2))
      (fun i x H' hx w => by
        obtain ⟨d0, hd0, hv⟩ := (Dts.mono w.2.1 _ e3).getv hx
        obtain ⟨d, hd, rfl⟩ := map_at hd0
        have md := List.mem_of_getElem? hd
        have sl : Sl K H' (ds.set j (some (enc d))) ((L2.wipe σ [j]).set j (some x)) := by
          have q1 := ((s0.mono ((a.trans s2).trans w.2.1)).wipe [j]).set j hv
          have q2 : (wipeD ds [j]).set j (some (enc d)) = ds.set j (some (enc d)) := by
            show ((ds.set j none).set j (some (enc d))) = _
            rw [List.set_set]
          rw [q2] at q1
          exact q1
        exact ⟨wipe1 x, cw_turn w (Nat.lt_of_le_of_lt (lenf (Nat.le_refl _)) hz) (ht d md _ H' ((a.trans s2).trans w.2.1) sl) (fun hb => ⟨he d md hb _ H' ((a.trans s2).trans w.2.1) sl, hi d md hb⟩)
          (D.imms_of fun z hz' => by
            obtain ⟨d', hd', rfl⟩ := List.mem_map.mp hz'
            have := List.mem_filter.mp hd'
            exact hi d' (List.mem_of_mem_take this.1) this.2) (fun H2 w2 => by rw [filt_snoc hd]; exact w2)⟩)
      (fun H' w => by
        obtain ⟨h0, s, acc, h1, h2⟩ := w
        rw [e3.len, List.length_map, List.take_of_length_le (Nat.le_refl _)] at h2
        exact q l acc H' (s2.free h0) (s2.trans s) h1 h2)⟩
theorem en_lcR {tt : TT} {ta : TA} {n : Int} {j : Nat} (m : Nat) (f : Nat → Bool) (g : Nat → D) (h : EvA K ta σ H [.int n]) (hm : m = n.toNat) (hn : n < 100000 ∧ -100000 ≤ n) (s0 : Sl K H ds σ)
    (ht : ∀ i : Nat, i < m → ∀ σ' H', Same H H' → Sl K H' (ds.set j (some (.int (i : Int)))) σ' → EvT K tt σ' H' (f i)) (he : ∀ i : Nat, i < m → f i = true → ∀ σ' H', Same H H' → Sl K H' (ds.set j (some (.int (i : Int)))) σ' → Ev K te σ' H' (g i))
    (hi : ∀ i : Nat, i < m → f i = true → (g i).imm = true) : EvN K (tLc (iRng1 ta) (gName j) tt te [j]) σ H (((List.range m).filter f).map g) := fun H1 a Q q =>
  h H1 a _ fun us H2 s2 ⟨v, r, e1, e2, e3⟩ => ⟨n, by rw [e1, show v = .int n from e2, show r = [] from e3], by omega, by omega, fun l hl =>
    lc_range (lo := 0) (n := n.toNat) (fun i H' => Cw K H2 l ((((List.range m).take i).filter f).map g) H') ⟨hl, Same.new hl, [], upd_same, by rw [List.take_zero]; rfl⟩
      (fun i H' hin w => by
        have e0 : (0 : Int) + (i : Int) = (i : Int) := Int.zero_add _
        rw [e0]
        have hd : (List.range m)[i]? = some i := by rw [List.getElem?_range (by omega)]
        have sl : Sl K H' (ds.set j (some (.int (i : Int)))) ((L2.wipe σ [j]).set j (some (.int (i : Int)))) := by
          have q1 := ((s0.mono ((a.trans s2).trans w.2.1)).wipe [j]).set j (d := .int (i : Int)) (v := .int (i : Int)) rfl
          have q2 : (wipeD ds [j]).set j (some (.int (i : Int))) = ds.set j (some (.int (i : Int))) := by
            show ((ds.set j none).set j (some (.int (i : Int)))) = _
            rw [List.set_set]
          rw [q2] at q1
          exact q1
        refine ⟨wipe1 _, cw_turn w (Nat.lt_of_le_of_lt (lenf (n := m) (by rw [List.length_range]; exact Nat.le_refl _)) (by omega)) (ht i (by omega) _ H' ((a.trans s2).trans w.2.1) sl) (fun hb => ⟨he i (by omega) hb _ H' ((a.trans s2).trans w.2.1) sl, hi i (by omega) hb⟩)
          (D.imms_of fun z hz' => ?_) (fun H2 w2 => by rw [filt_snoc hd]; exact w2)⟩
        obtain ⟨d', hd', rfl⟩ := List.mem_map.mp hz'
        have := List.mem_filter.mp hd'
        exact hi d' (List.mem_range.mp (List.mem_of_mem_take this.1)) this.2)
      (fun H' w => by
        obtain ⟨h0, s, acc, h1, h2⟩ := w
        rw [← hm, List.take_of_length_le (by rw [List.length_range]; exact Nat.le_refl _)] at h2
        exact q l acc H' (s2.free h0) (s2.trans s) h1 h2)⟩
theorem et_yes : EvT K tYes σ H true := fun H1 _ _ q => q H1 (Same.refl _)
end
end Rt
namespace Rt
open PySem PySem.Spec PyProof.Rows L2

/-- a def of the text that stands under its name -/
structure Dfn (K : PySem.W.Frag) (mg : Str → Option Value) (x : Str) (st : Stmt) (ps : List Str) : Prop where
  ex : ∃ f fd, L2.Fun K x x st f fd ∧ mg x = some (.ref f) ∧ Binds K fd ps []
/-- a def that may be called by its name -/
structure Cal (P : Program) (w : World) (K : PySem.W.Frag) (mg : Str → Option Value) (base : Heap) (CX : CXT) (k : Nat) (x : Str) (sp : Sp) : Prop where
  ex : ∃ f fd ps, FnOk P w K mg base CX k f fd ps sp ∧ mg x = some (.ref f) ∧ PySem.W.keepIn K (.ref f) = true ∧ Binds K fd ps []
theorem fn_by {N P : List Str} {sc : Scope} (h : C8.scC N P sc = true) : FnScope N P sc := C8.fnScope_by h
section
variable {P : Program} {w : World} {K : PySem.W.Frag} {mg : Str → Option Value} {base : Heap}
theorem Cal.mono {CX : CXT} {j k : Nat} {x : Str} {sp : Sp} (c : Cal P w K mg base CX j x sp) (h : j ≤ k) : Cal P w K mg base CX k x sp := by
  obtain ⟨f, fd, ps, F, a, b, d⟩ := c.ex
  exact ⟨f, fd, ps, F.mono h, a, b, d⟩
theorem Cal.imp {CX : CXT} {k : Nat} {x : Str} {sp sp' : Sp} (c : Cal P w K mg base CX k x sp) (h : ∀ vs H Q E, sp' vs H Q E → sp vs H Q E) : Cal P w K mg base CX k x sp' := by
  obtain ⟨f, fd, ps, F, a, b, d⟩ := c.ex
  exact ⟨f, fd, ps, F.imp h, a, b, d⟩
/-- nothing is promised -/
theorem cal_none {x : Str} {st : Stmt} {ps : List Str} {CX : CXT} {k : Nat} {sp : Sp} (F : Dfn K mg x st ps) (no : ∀ vs H Q E, ¬ sp vs H Q E) : Cal P w K mg base CX k x sp := by
  obtain ⟨f, fd, F, m, b⟩ := F.ex
  exact ⟨f, fd, ps, ⟨fun vs H Q E h => absurd h (no vs H Q E), fun A outer s H args us vs Q E _ _ _ _ h => absurd h (no vs H Q E)⟩, m, F.kp, b⟩
/-- a def by its body: data in, data out -/
theorem ok_fn {x : Str} {st : Stmt} {N ps : List Str} {k : Nat} {R : List D → D → Prop} {f : Addr} {fd : FuncData} (F : L2.Fun K x x st f fd) (S : FnScope N ps (defScope st)) (len : ∀ ds d, R ds d → ds.length = ps.length)
    (hbody : ∀ (cdv : Value) (A : Around) (outer : List Env) (s : Shared) (f : Addr) (H : Hp) (vs : List V) (ds : List D) (d : D), Room k (A.deeper (envOfC x (defScope st) s.heap.objs.size f cdv)) → R ds d →
      Sl K H (ds.map some ++ List.replicate (N.length - ds.length) none) (start N vs) →
      ∃ t, PSs (cxOf CX0 P w K mg base N x (defScope st) f cdv A outer s H E0).nox (defBody st) t ∧ ∀ (nx : L2.St → Hp → Prop) (Q : VK), (∀ σ' H', Same H H' → Dt K H' d .non → nx σ' H') → (∀ v H', Same H H' → Dt K H' d v → Q v H') → t { nx := nx, rt := Q } (start N vs) H) : FnOk P w K mg base CX0 (k + 1) f fd ps (Fn K R) := by
  refine F.ok S (fun vs H Q E h => ?_) (fun cdv A outer s H vs Q E hr h => ?_)
  · obtain ⟨ds, d, h1, h2, _⟩ := h
    rw [h1.len]; exact len _ _ h2
  · obtain ⟨ds, d, h1, h2, k⟩ := h
    obtain ⟨t, ht, hq⟩ := hbody cdv A outer s f H vs ds d hr h2 (Sl.start h1)
    refine ⟨t, ?_, hq _ _ (fun σ' H' s1 h => k _ H' s1 h) k⟩
    exact ht
theorem cal_fn {x : Str} {st : Stmt} {N ps : List Str} {k : Nat} {R : List D → D → Prop} (F : Dfn K mg x st ps) (S : FnScope N ps (defScope st)) (len : ∀ ds d, R ds d → ds.length = ps.length)
    (hbody : ∀ (cdv : Value) (A : Around) (outer : List Env) (s : Shared) (f : Addr) (H : Hp) (vs : List V) (ds : List D) (d : D), Room k (A.deeper (envOfC x (defScope st) s.heap.objs.size f cdv)) → R ds d →
      Sl K H (ds.map some ++ List.replicate (N.length - ds.length) none) (start N vs) →
      ∃ t, PSs (cxOf CX0 P w K mg base N x (defScope st) f cdv A outer s H E0).nox (defBody st) t ∧ ∀ (nx : L2.St → Hp → Prop) (Q : VK), (∀ σ' H', Same H H' → Dt K H' d .non → nx σ' H') → (∀ v H', Same H H' → Dt K H' d v → Q v H') → t { nx := nx, rt := Q } (start N vs) H) : Cal P w K mg base CX0 (k + 1) x (Fn K R) := by
  obtain ⟨f, fd, F, m, b⟩ := F.ex
  exact ⟨f, fd, ps, ok_fn F S len hbody, m, F.kp, b⟩
theorem cal_fnN {x : Str} {st : Stmt} {N ps : List Str} {k : Nat} {R : List D → List D → Prop} (F : Dfn K mg x st ps) (S : FnScope N ps (defScope st)) (len : ∀ ds d, R ds d → ds.length = ps.length)
    (hbody : ∀ (cdv : Value) (A : Around) (outer : List Env) (s : Shared) (f : Addr) (H : Hp) (vs : List V) (ds : List D) (es : List D), Room k (A.deeper (envOfC x (defScope st) s.heap.objs.size f cdv)) → R ds es →
      Sl K H (ds.map some ++ List.replicate (N.length - ds.length) none) (start N vs) →
      ∃ t, PSs (cxOf CX0 P w K mg base N x (defScope st) f cdv A outer s H E0).nox (defBody st) t ∧ ∀ (nx : L2.St → Hp → Prop) (Q : VK), (∀ p ws H', H p = none → Same H H' → H' p = some (.lst ws) → Dts K H' es ws → Q (.ref p) H') → t { nx := nx, rt := Q } (start N vs) H) : Cal P w K mg base CX0 (k + 1) x (FnN K R) := by
  obtain ⟨f, fd, F, m, b⟩ := F.ex
  refine ⟨f, fd, ps, F.ok S (fun vs H Q E h => ?_) (fun cdv A outer s H vs Q E hr h => ?_), m, F.kp, b⟩
  · obtain ⟨ds, d, h1, h2, _⟩ := h
    rw [h1.len]; exact len _ _ h2
  · obtain ⟨ds, d, h1, h2, k⟩ := h
    obtain ⟨t, ht, hq⟩ := hbody cdv A outer s f H vs ds d hr h2 (Sl.start h1)
    exact ⟨t, ht, hq _ _ k⟩
end
section
variable {X : Cx} {k j : Nat} {x : Str} {sp : Sp} {p pos : Pos} {e : Expr} {es : List Expr} {t : TA} {E : XK}
theorem pe_c (c : Cal X.prog X.w X.K X.mg X.base CX0 k x sp) (hr : Room j X.A) (hk : k ≤ j) (hg : Gl X x) (ha : PA X (e :: es) t)
    (hdb : (x == ("__debug__" : Str)) = false := by decide) (he : starEach (e :: es) X.env = (false, eval e X.env) :: starEach es X.env := by rfl) (hpl : (backTo pos (starEach es X.env)).any (·.1) = false := by rfl) :
    PE X (.Call (.Name x p) (e :: es) [] pos) (tCall sp [] E0 t) := by
  obtain ⟨f, fd, ps, F, hm, kp, b⟩ := c.ex
  exact pe_call F (hr.mono hk) hg hm kp b .nil pass0 ha hdb he hpl
/-- .. that may raise: E is wished of what it raises -/
theorem pe_cX (c : Cal X.prog X.w X.K X.mg X.base (L2.CX X.prog X.w) k x sp) (hr : Room j X.A) (hk : k ≤ j) (hg : Gl X x) (hx : Passes (L2.CX X.prog X.w) X E) (ha : PA X (e :: es) t)
    (hdb : (x == ("__debug__" : Str)) = false := by decide) (he : starEach (e :: es) X.env = (false, eval e X.env) :: starEach es X.env := by rfl) (hpl : (backTo pos (starEach es X.env)).any (·.1) = false := by rfl) :
    PE X (.Call (.Name x p) (e :: es) [] pos) (tCall sp [] E t) := by
  obtain ⟨f, fd, ps, F, hm, kp, b⟩ := c.ex
  exact pe_call F (hr.mono hk) hg hm kp b .nil hx ha hdb he hpl
end
end Rt
/-! ### sorted of rows: pairs of a text and an int, any number of them -/
namespace Rt
open PySem PyProof.Rows L2 SrtO
/-- by the text, then by the int -/
def ltR (p q : Str × Int) : Bool := if p.1 = q.1 then decide (p.2 < q.2) else decide (p.1.cps.toList < q.1.cps.toList)
theorem str_tot (a b : Str) : a.cps.toList < b.cps.toList ∨ a = b ∨ b.cps.toList < a.cps.toList := by
  have h : ∀ (x y : List Nat), x < y ∨ x = y ∨ y < x := by
    intro x
    induction x with
    | nil =>
      intro y
      cases y with
      | nil => exact .inr (.inl rfl)
      | cons b s => exact .inl (List.nil_lt_cons _ _)
    | cons a r ih =>
      intro y
      cases y with
      | nil => exact .inr (.inr (List.nil_lt_cons _ _))
      | cons b s =>
        rcases Nat.lt_trichotomy a b with h | h | h
        · exact .inl (List.cons_lt_cons_iff.mpr (.inl h))
        · subst h
          rcases ih s with q | q | q
          · exact .inl (List.cons_lt_cons_iff.mpr (.inr ⟨rfl, q⟩))
          · exact .inr (.inl (by rw [q]))
          · exact .inr (.inr (List.cons_lt_cons_iff.mpr (.inr ⟨rfl, q⟩)))
        · exact .inr (.inr (List.cons_lt_cons_iff.mpr (.inl h)))
  rcases h a.cps.toList b.cps.toList with q | q | q
  · exact .inl q
  · refine .inr (.inl ?_)
    cases a; cases b
    exact congrArg PySem.Str.mk (Array.toList_inj.mp q)
  · exact .inr (.inr q)
theorem ltR_iff {p q : Str × Int} : ltR p q = true ↔ p.1.cps.toList < q.1.cps.toList ∨ (p.1 = q.1 ∧ p.2 < q.2) := by
  unfold ltR
  by_cases e : p.1 = q.1
  · rw [if_pos e, decide_eq_true_eq]
    constructor
    · intro h; exact .inr ⟨e, h⟩
    · rintro (h | h)
      · rw [e] at h; exact absurd h (List.lt_irrefl _)
      · exact h.2
  · rw [if_neg e, decide_eq_true_eq]
    constructor
    · intro h; exact .inl h
    · rintro (h | h)
      · exact h
      · exact absurd h.1 e
theorem ltR_no {p q : Str × Int} : ltR p q = false ↔ ¬ (p.1.cps.toList < q.1.cps.toList ∨ (p.1 = q.1 ∧ p.2 < q.2)) := by
  rw [← ltR_iff]
  cases ltR p q <;> simp
theorem swo_ltR {α : Type} (k : α → Str × Int) : Swo fun v u => ltR (k v) (k u) := by
  refine ⟨fun x y h => ?_, fun x y z h1 h2 => ?_⟩
  · have a := ltR_iff.mp h
    refine ltR_no.mpr ?_
    rintro (b | b)
    · rcases a with a | a
      · exact List.lt_irrefl _ (List.lt_trans a b)
      · rw [a.1] at b; exact List.lt_irrefl _ b
    · rcases a with a | a
      · rw [b.1] at a; exact List.lt_irrefl _ a
      · have := a.2; have := b.2; omega
  · have a := ltR_no.mp h1
    have b := ltR_no.mp h2
    refine ltR_no.mpr ?_
    rintro (c | c)
    · rcases str_tot (k y).1 (k z).1 with q | q | q
      · rcases str_tot (k x).1 (k y).1 with r | r | r
        · exact List.lt_irrefl _ (List.lt_trans c (List.lt_trans r q))
        · rw [r] at c; exact List.lt_irrefl _ (List.lt_trans c q)
        · exact a (.inl r)
      · rw [← q] at c; exact a (.inl c)
      · exact b (.inl q)
    · rcases str_tot (k y).1 (k z).1 with q | q | q
      · rw [c.1] at q; exact a (.inl q)
      · have e : (k y).1 = (k x).1 := by rw [q, c.1]
        by_cases z1 : (k y).2 < (k x).2
        · exact a (.inr ⟨e, z1⟩)
        · by_cases z2 : (k z).2 < (k y).2
          · exact b (.inr ⟨q.symm, z2⟩)
          · have := c.2; omega
      · exact b (.inl q)
def IsRow (h : Heap) (v : Value) (x : Str) (y : Int) : Prop := ∃ a o t u n, v = .ref a ∧ h.get? a = some o ∧ o.cls = .type "tuple" ∧ o.data = .seq #[.str x t, .int y u] n
theorem IsRow.keeps {h h' : Heap} {v : Value} {x : Str} {y : Int} (p : IsRow h v x y) (k : ∀ b o, h.get? b = some o → o.cls = .type "tuple" → h'.get? b = some o) : IsRow h' v x y := by
  obtain ⟨a, o, t, u, n, e, ho, hc, hd⟩ := p
  exact ⟨a, o, t, u, n, e, k _ _ ho hc, hc, hd⟩
section
variable {prog : Program} {w : World} {A : Around} {E : Value → Shared → Prop} {s : Shared}
theorem row_cmp {vs : List Value} {k : Value → Str × Int} (hp : ∀ v ∈ vs, IsRow s.heap v (k v).1 (k v).2) : Cmp prog w A s (tuples' true) (fun p => p.1 ∈ vs) (lt2 fun v u => ltR (k v) (k u)) := by
  intro p q hm hm'
  have h1 := hp _ hm
  have h2 := hp _ hm'
  show wpAny (model prog w) A (keyLt' (tuples' true) p.1 q.1) (fun r s' => s' = s ∧ r = ltR (k p.1) (k q.1)) (fun _ _ => False) s
  unfold ltR
  generalize (k p.1).1 = x at h1 ⊢
  generalize (k p.1).2 = y at h1 ⊢
  generalize (k q.1).1 = x' at h2 ⊢
  generalize (k q.1).2 = y' at h2 ⊢
  obtain ⟨a, o, t, u, n, e, ho, hc, hd⟩ := h1
  obtain ⟨a', o', t', u', n', e', ho', hc', hd'⟩ := h2
  rw [e, e']
  refine PySem.W.kat_lt ho hd ho' hd' ?_
  show PySem.W.KatLex prog w A true (decide (2 < 2)) _ [(.str x t, .str x' t'), (.int y u, .int y' u')] 0 s
  refine PySem.W.kat_cons (SeqAt.EqAt.str_str x t x' t' prog w _ _ ?_)
  refine PySem.W.kat_go (fun e1 => ?_) (fun e1 => ?_)
  · have ex : x = x' := by simpa using e1
    refine PySem.W.kat_yes (PySem.W.kat_cons (SeqAt.EqAt.int_int y u y' u' prog w _ _ ?_))
    refine PySem.W.kat_go (fun e2 => ?_) (fun e2 => ?_)
    · have ey : y = y' := by simpa using e2
      have e3 : (if x = x' then decide (y < y') else decide (x.cps.toList < x'.cps.toList)) = false := by
        rw [if_pos ex, ey]
        exact decide_eq_false (Int.lt_irrefl _)
      exact PySem.W.kat_yes (PySem.W.kat_nil ⟨rfl, e3.symm⟩)
    · have e3 : (if x = x' then decide (y < y') else decide (x.cps.toList < x'.cps.toList)) = decide (y < y') := if_pos ex
      refine PySem.W.kat_no (PySem.W.kat_one _ _ (PyProof.Rows.lt_int ?_))
      exact (show s = s ∧ decide (y < y') = (if x = x' then decide (y < y') else decide (x.cps.toList < x'.cps.toList)) from ⟨rfl, e3.symm⟩)
  · have ex : ¬ x = x' := by simpa using e1
    have e3 : (if x = x' then decide (y < y') else decide (x.cps.toList < x'.cps.toList)) = decide (x.cps.toList < x'.cps.toList) := if_neg ex
    exact PySem.W.kat_no (oneLt_str ⟨rfl, e3.symm⟩)
theorem row_firsts {h : Heap} : ∀ {vs : List Value}, (∀ v ∈ vs, ∃ x y, IsRow h v x y) → ∃ fs : List Value, PySem.W.KatTups h vs fs ∧ fs.length = vs.length ∧ ∀ f ∈ fs, ∃ x t, f = Value.str x t
  | [], _ => ⟨[], PySem.W.KatTups.nil, rfl, fun _ hm => by simp at hm⟩
  | v :: vs, hp => by
    obtain ⟨fs, h1, h2, h3⟩ := row_firsts (vs := vs) fun v' hm => hp v' (List.mem_cons_of_mem _ hm)
    obtain ⟨x, y, a, o, t, u, n, e, ho, hc, hd⟩ := hp v (List.mem_cons_self ..)
    subst e
    refine ⟨.str x t :: fs, PySem.W.KatTups.cons ho hc hd rfl h1, by rw [List.length_cons, List.length_cons, h2], fun f hm => ?_⟩
    rcases List.mem_cons.mp hm with rfl | hm
    · exact ⟨x, t, rfl⟩
    · exact h3 f hm
theorem rows_sortable {a : Addr} {vs : List Value} {k : Value → Str × Int} (h0 : 0 < vs.length) (hp : ∀ v ∈ vs, IsRow s.heap v (k v).1 (k v).2) (ha : ∀ o, s.heap.get? a = some o → o.cls ≠ .type "tuple") : SortableO prog w A s a vs fun v u => ltR (k v) (k u) := by
  intro h' keep
  have hp' : ∀ v ∈ vs, IsRow h' v (k v).1 (k v).2 := fun v hm => (hp v hm).keeps fun b o e c => keep b o (fun z => by subst z; exact ha o e c) e
  obtain ⟨fs, h1, h2, h3⟩ := row_firsts fun v hm => ⟨_, _, hp' v hm⟩
  refine ⟨tuples' true, fun Q E hq => ?_, row_cmp hp'⟩
  refine PySem.W.kat_kind (T := .type "str") h1 (by omega) (fun f hm => ?_) (by rfl) ?_
  · obtain ⟨x, t, rfl⟩ := h3 f hm
    exact PySem.W.Looks.now
  · have e : (Value.type "str" != Value.type "tuple") = true := by first | decide +kernel | rfl | decide
    rw [e]
    exact hq
theorem sorted_rows {l : Addr} {vs : List Value} {k : Value → Str × Int} {Q : Value → Shared → Prop} (hl : s.heap.IsList l vs.toArray) (hz : vs.length ≤ sizeLine) (hp : ∀ v ∈ vs, IsRow s.heap v (k v).1 (k v).2)
    (h : ∀ (h' : Heap) (d : Addr) (out : List Value), Srtd (fun v u => ltR (k v) (k u)) out → Stb (fun v u => ltR (k v) (k u)) out vs → (∀ b o, s.heap.get? b = some o → h'.get? b = some o) → s.heap.objs.size ≤ d → (∃ n, h'.get? d = some (seqObj "list" out.toArray n)) → Q (.ref d) { s with heap := h' }) :
    wpAny (model prog w) A (call (.builtin "sorted") [.ref l]) Q E s := by
  refine sorted_ord (swo_ltR k) hl hz (fun h2 h₁ a ha kk => ?_) fun out hs hb => ?_
  · refine rows_sortable (s := { s with heap := h₁ }) (by omega) (fun v hm => (hp v hm).keeps fun b o e _ => (kk b o e).2) fun o e => ?_
    have e' : some o = some (seqObj "list" vs.toArray 0) := e.symm.trans ha
    cases e'
    intro c
    exact absurd (Value.type.inj c) (by decide)
  · exact h _ _ out hs hb (fun b o e => sortedAll_old e) (Nat.le_succ _) (sortedAll_at s.heap vs out.toArray)
end
abbrev ltV (k : V → Str × Int) (x y : V) : Bool := ltR (k x) (k y)
def rSortedRows (K : PySem.W.Frag) : List V → Hp → VK → Prop := fun vs H Q => ∃ (a : Addr) (xs : List V) (k : V → Str × Int), vs = [V.ref a] ∧ SqL K H a xs ∧ (∀ x ∈ xs, ∃ t, x = V.ref t ∧ H t = some (.tup [.str (k x).1, .int (k x).2])) ∧
  ∀ ys p, Srtd (ltV k) ys → Stb (ltV k) ys xs → H p = none → Q (.ref p) (upd H p (.lst ys))
theorem cr_sortedRows {X : Cx} : CallR X (.builtin "sorted") (rSortedRows X.K) := by
  intro pins s σ H vs us Q I r h
  obtain ⟨a, xs, k, rfl, hs, hx, q⟩ := h
  obtain ⟨its, rv, hl, hz⟩ := I.list hs
  obtain ⟨u, rfl, ru⟩ := vals1 r
  obtain rfl : u = Value.ref a := ru
  obtain ⟨e1, e2⟩ := refs_back rv fun x m => by
    obtain ⟨t, e, _⟩ := hx x m
    exact ⟨t, e⟩
  refine sorted_rows (k := fun u => k (backV u)) hl.isList (by rw [← rv.length]; exact hz) (fun v hv => ?_) fun h' d out h1 h2 kp hd hn => ?_
  · obtain ⟨t, rfl⟩ := e2 v hv
    have hm : V.ref t ∈ xs := by rw [e1]; exact List.mem_map.mpr ⟨_, hv, rfl⟩
    obtain ⟨t', e, ht⟩ := hx _ hm
    cases e
    obtain ⟨_, its2, r2, o, ho, hc, n, hd⟩ := I.hok _ _ ht
    obtain ⟨u1, u2, rfl, ri, rj⟩ := vals2 r2
    obtain ⟨t1, rfl⟩ := ri
    obtain ⟨t2, rfl⟩ := rj
    exact ⟨t, o, t1, t2, n, rfl, ho, hc, hd⟩
  · have h3 : ∀ u ∈ out, ∃ a, u = Value.ref a := fun u hu => e2 u (h2.perm.mem_iff.mp hu)
    obtain ⟨n, hn⟩ := hn
    have hb : Stb (ltV k) (out.map backV) xs := by
      rw [e1]
      exact SrtO.Stb.map (swo_ltR k) backV h2
    refine ⟨.ref d, upd H d (.lst (out.map backV)), I.laid (t' := s.toks) kp hd ⟨?_, out, n, vals_back h3, hn⟩, rfl, q _ d (SrtO.srtd_map h1) hb (I.hok.fresh hd)⟩
    rw [hb.len]
    exact hz

/-! ### over data -/
def rowD (p : Tx × Int) : D := .tup [.str p.1, .int p.2]
theorem rowD_imm (p : Tx × Int) : (rowD p).imm = true := rfl
def rowK (H : Hp) : V → Str × Int
  | .ref t => match H t with
    | some (.tup [.str x, .int n]) => (x, n)
    | _ => (⟨#[]⟩, 0)
  | _ => (⟨#[]⟩, 0)
section
variable {K : PySem.W.Frag} {σ : L2.St} {H : Hp} {ta : TE}
theorem rowD_at {p : Tx × Int} {v : V} (h : Dt K H (rowD p) v) : ∃ t, v = .ref t ∧ H t = some (.tup [.str (S p.1), .int p.2]) := by
  obtain ⟨a, vs, rfl, h1, v1, r1, rfl, rfl, v2, r2, rfl, rfl, rfl⟩ := h
  exact ⟨a, rfl, h1⟩
theorem rowD_of {p : Tx × Int} {t : Addr} (h : H t = some (.tup [.str (S p.1), .int p.2])) : Dt K H (rowD p) (.ref t) := ⟨t, _, rfl, h, _, _, rfl, rfl, _, _, rfl, rfl, rfl⟩
theorem rowK_at {p : Tx × Int} {v : V} (h : Dt K H (rowD p) v) : rowK H v = (S p.1, p.2) := by
  obtain ⟨t, rfl, h1⟩ := rowD_at h
  simp only [rowK, h1]
theorem rows_of : ∀ {rows : List (Tx × Int)} {vs : List V}, Dts K H (rows.map rowD) vs → vs.map (rowK H) = rows.map (fun p : Tx × Int => (S p.1, p.2)) ∧ ∀ x ∈ vs, ∃ (t : Addr) (p : Tx × Int), x = V.ref t ∧ H t = some (.tup [.str (S p.1), .int p.2]) ∧ p ∈ rows
  | [], vs, h => by rw [show vs = [] from h]; exact ⟨rfl, fun x hx => (by cases hx)⟩
  | p :: rows, vs, h => by
    obtain ⟨v, r, rfl, h2, h3⟩ := h
    obtain ⟨q1, q2⟩ := rows_of h3
    refine ⟨by rw [List.map_cons, List.map_cons, q1, rowK_at h2], fun x hx => ?_⟩
    rcases List.mem_cons.mp hx with e | hx
    · obtain ⟨t, e2, h4⟩ := rowD_at h2
      exact ⟨t, p, by rw [e, e2], h4, List.mem_cons_self⟩
    · obtain ⟨t, p', a, b, c⟩ := q2 x hx
      exact ⟨t, p', a, b, List.mem_cons_of_mem _ c⟩
theorem rows_back : ∀ {rows : List (Tx × Int)} {vs : List V}, vs.map (rowK H) = rows.map (fun p : Tx × Int => (S p.1, p.2)) → (∀ x ∈ vs, ∃ (t : Addr) (p : Tx × Int), x = V.ref t ∧ H t = some (.tup [.str (S p.1), .int p.2])) → Dts K H (rows.map rowD) vs
  | [], [], _, _ => rfl
  | [], v :: vs, h, _ => by cases h
  | p :: rows, [], h, _ => by cases h
  | p :: rows, v :: vs, h, hx => by
    rw [List.map_cons, List.map_cons] at h
    injection h with h1 h2
    refine ⟨v, vs, rfl, ?_, rows_back h2 fun x m => hx x (List.mem_cons_of_mem _ m)⟩
    obtain ⟨t, q, rfl, h4⟩ := hx v List.mem_cons_self
    have e : rowK H (.ref t) = (S q.1, q.2) := by simp only [rowK, h4]
    rw [e] at h1
    injection h1 with e1 e2
    rw [S_inj e1, e2] at h4
    exact rowD_of h4
/-- sorted of rows of unlike names: the one order -/
theorem en_sortedRows {rows out : List (Tx × Int)} (ha : Ev K ta σ H (.lst (rows.map rowD))) (hp : out.Perm rows) (hs : out.Pairwise fun p q => p.1 < q.1) : EvN K (tCB (rSortedRows K) (tCons ta tNil)) σ H (out.map rowD) :=
  en_cb (ea_cons ha ea_nil) fun vs H1 _ ⟨v, r, h1, ⟨a, ws, e1, e2, e3⟩, h3⟩ Q q => by
    obtain ⟨k1, k2⟩ := rows_of e3
    refine ⟨a, ws, rowK H1, by rw [h1, e1, show r = [] from h3], SqL.of e2, fun x hx => ?_, fun ys p hs2 hb hpn => ?_⟩
    · obtain ⟨t, p, rfl, h4, _⟩ := k2 x hx
      refine ⟨t, rfl, ?_⟩
      have e : rowK H1 (.ref t) = (S p.1, p.2) := by simp only [rowK, h4]
      rw [e]; exact h4
    · have ymem : ∀ x ∈ ys, ∃ (t : Addr) (p : Tx × Int), x = V.ref t ∧ H1 t = some (.tup [.str (S p.1), .int p.2]) := fun x hx => by
        obtain ⟨t, p, a1, a2, _⟩ := k2 x (hb.perm.mem_iff.mp hx)
        exact ⟨t, p, a1, a2⟩
      have hperm : (ys.map (rowK H1)).Perm (out.map (fun p : Tx × Int => (S p.1, p.2))) := by
        refine (hb.perm.map (rowK H1)).trans ?_
        rw [k1]
        exact (hp.symm.map _)
      have srt2 : (out.map (fun p : Tx × Int => (S p.1, p.2))).Pairwise (fun x y => ltR y x = false) := by
        refine List.pairwise_map.mpr (hs.imp fun {p q} h => ltR_no.mpr ?_)
        rintro (c | c)
        · have c' : q.1 < p.1 := by
            have := c
            simp only [S_cps] at this
            exact this
          exact List.lt_irrefl _ (List.lt_trans h c')
        · have e : q.1 = p.1 := S_inj c.1
          rw [e] at h; exact List.lt_irrefl _ h
      have srt1 : (ys.map (rowK H1)).Pairwise (fun x y => ltR y x = false) := List.pairwise_map.mpr hs2
      have eq : ys.map (rowK H1) = out.map (fun p : Tx × Int => (S p.1, p.2)) := by
        refine hperm.eq_of_pairwise (le := fun x y => ltR y x = false) (fun x y _ _ h1 h2 => ?_) srt1 srt2
        have n1 := ltR_no.mp h1
        have n2 := ltR_no.mp h2
        rcases str_tot x.1 y.1 with z | z | z
        · exact absurd (.inl z) n2
        · have : x.2 = y.2 := by
            rcases Int.lt_trichotomy x.2 y.2 with u | u | u
            · exact absurd (.inr ⟨z, u⟩) n2
            · exact u
            · exact absurd (.inr ⟨z.symm, u⟩) n1
          exact Prod.ext z this
        · exact absurd (.inl z) n1
      exact q p ys _ hpn (Same.new hpn) upd_same (Dts.mono (Same.new hpn) _ (rows_back eq ymem))
end
end Rt
/-! ### == and in over data; more of loops -/
namespace Rt
open PySem L2
mutual
def D.py : D → PyData
  | .non => .none
  | .bl b => .bool b
  | .int i => .int i
  | .str l => .str (S l)
  | .tup ds => .tuple (D.pys ds)
  | .lst ds => .list (D.pys ds)
  | .raw _ => .none
  | .scr _ => .none
def D.pys : List D → List PyData
  | [] => []
  | d :: ds => D.py d :: D.pys ds
end
def cpsOk (l : Tx) : Prop := ∀ c ∈ l, c < 0x110000
/-- data that == can look at, of depth n at most -/
def D.gd : Nat → D → Prop
  | _, .non => True
  | _, .bl _ => True
  | _, .int _ => True
  | _, .str l => cpsOk l
  | n + 1, .tup ds => ∀ d ∈ ds, D.gd n d
  | n + 1, .lst ds => ∀ d ∈ ds, D.gd n d
  | _, _ => False
theorem D.pys_map : ∀ ds : List D, D.pys ds = ds.map D.py
  | [] => rfl
  | d :: ds => by rw [D.pys, D.pys_map ds]; rfl
theorem canAll {ds : List PyData} (h : ∀ d ∈ ds, d.canLay0 = true) : PyData.canLayAll0 ds = true := by
  induction ds with
  | nil => rfl
  | cons d ds ih =>
    rw [PyData.canLayAll0, h d List.mem_cons_self, ih fun d m => h d (List.mem_cons_of_mem _ m)]; rfl
theorem depAll {ds : List PyData} {n : Nat} (h : ∀ d ∈ ds, d.depth ≤ n) : PyData.depthAll ds ≤ n := by
  induction ds with
  | nil => exact Nat.zero_le _
  | cons d ds ih =>
    rw [PyData.depthAll]
    exact Nat.max_le.mpr ⟨h d List.mem_cons_self, ih fun d m => h d (List.mem_cons_of_mem _ m)⟩
theorem gd_lay : ∀ (n : Nat) (d : D), d.gd n → d.py.canLay0 = true ∧ d.py.depth ≤ n
  | _, .non, _ => ⟨rfl, Nat.zero_le _⟩
  | _, .bl _, _ => ⟨rfl, Nat.zero_le _⟩
  | _, .int _, _ => ⟨rfl, Nat.zero_le _⟩
  | 0, .str l, h => ⟨by
    show PyData.strOk (S l) = true
    unfold PyData.strOk S
    simp only [List.all_toArray, List.all_eq_true, decide_eq_true_eq]
    exact h, Nat.zero_le _⟩
  | n + 1, .str l, h => ⟨by
    show PyData.strOk (S l) = true
    unfold PyData.strOk S
    simp only [List.all_toArray, List.all_eq_true, decide_eq_true_eq]
    exact h, Nat.zero_le _⟩
  | n + 1, .tup ds, h => by
    have h' : ∀ d ∈ ds, D.gd n d := h
    constructor
    · show PyData.canLayAll0 (D.pys ds) = true
      rw [D.pys_map]
      refine canAll fun d m => ?_
      obtain ⟨e, he, rfl⟩ := List.mem_map.mp m
      exact (gd_lay n e (h' e he)).1
    · show PyData.depthAll (D.pys ds) + 1 ≤ n + 1
      rw [D.pys_map]
      refine Nat.succ_le_succ (depAll fun d m => ?_)
      obtain ⟨e, he, rfl⟩ := List.mem_map.mp m
      exact (gd_lay n e (h' e he)).2
  | n + 1, .lst ds, h => by
    have h' : ∀ d ∈ ds, D.gd n d := h
    constructor
    · show PyData.canLayAll0 (D.pys ds) = true
      rw [D.pys_map]
      refine canAll fun d m => ?_
      obtain ⟨e, he, rfl⟩ := List.mem_map.mp m
      exact (gd_lay n e (h' e he)).1
    · show PyData.depthAll (D.pys ds) + 1 ≤ n + 1
      rw [D.pys_map]
      refine Nat.succ_le_succ (depAll fun d m => ?_)
      obtain ⟨e, he, rfl⟩ := List.mem_map.mp m
      exact (gd_lay n e (h' e he)).2
  | 0, .tup _, h => h.elim
  | 0, .lst _, h => h.elim
  | 0, .raw _, h => h.elim
  | _ + 1, .raw _, h => h.elim
  | 0, .scr _, h => h.elim
  | _ + 1, .scr _, h => h.elim
theorem gd_shaped {n : Nat} {d : D} (h : d.gd n) (hn : n ≤ 64) : SeqAt.shaped d.py = true := by
  obtain ⟨h1, h2⟩ := gd_lay n d h
  unfold SeqAt.shaped
  rw [h1, decide_eq_true (by omega)]; rfl
section
variable {K : PySem.W.Frag} {σ : St} {H H' : Hp} {ta tb te tl : TE} {t u : TT} {d e : D} {ds : List (Option D)} {E : Ends} {tu tw : TS}
theorem gd_dps {n : Nat} (ih : ∀ (d : D) (v : V), d.gd n → Dt K H d v → Dp K H v d.py) : ∀ (ds : List D) (vs : List V), (∀ d ∈ ds, d.gd n) → Dts K H ds vs → DpAll K H vs (D.pys ds)
  | [], vs, _, h => by rw [show vs = [] from h]; exact .nil
  | d :: ds, vs, g, ⟨v, r, h1, h2, h3⟩ => by
    rw [h1]
    exact .cons (ih d v (g d List.mem_cons_self) h2) (gd_dps ih ds r (fun d m => g d (List.mem_cons_of_mem _ m)) h3)
theorem gd_dp : ∀ (n : Nat) (d : D) (v : V), d.gd n → Dt K H d v → Dp K H v d.py
  | _, .non, v, _, h => by rw [show v = .non from h]; exact .non
  | _, .bl _, v, _, h => by rw [show v = .bl _ from h]; exact .bl _
  | _, .int _, v, _, h => by rw [show v = .int _ from h]; exact .int _
  | 0, .str _, v, _, h => by rw [show v = .str _ from h]; exact .str _
  | _ + 1, .str _, v, _, h => by rw [show v = .str _ from h]; exact .str _
  | n + 1, .tup ds, v, g, ⟨a, vs, h1, h2, h3⟩ => by
    rw [h1]; exact .tup (SqT.of h2) (gd_dps (gd_dp n) ds vs g h3)
  | n + 1, .lst ds, v, g, ⟨a, vs, h1, h2, h3⟩ => by
    rw [h1]; exact .lst (SqL.of h2) (gd_dps (gd_dp n) ds vs g h3)
  | 0, .tup _, _, h, _ => h.elim
  | 0, .lst _, _, h, _ => h.elim
  | 0, .raw _, _, h, _ => h.elim
  | _ + 1, .raw _, _, h, _ => h.elim
  | 0, .scr _, _, h, _ => h.elim
  | _ + 1, .scr _, _, h, _ => h.elim
theorem ev_eqD {n m : Nat} {b : Bool} (ha : Ev K ta σ H d) (hb : Ev K tb σ H e) (g1 : d.gd n) (g2 : e.gd m) (h1 : n ≤ 64) (h2 : m ≤ 64) (hq : PyData.eqv d.py e.py = b) : Ev K (tOp (rEqD K) ta tb) σ H (.bl b) :=
  ev_op ha hb fun v w H1 _ hv hw Q q => ⟨_, _, gd_dp n d v g1 hv, gd_dp m e w g2 hw, gd_shaped g1 h1, gd_shaped g2 h2, q _ _ (Same.refl _) (by rw [hq]; rfl)⟩
theorem ev_neD {n m : Nat} {b : Bool} (ha : Ev K ta σ H d) (hb : Ev K tb σ H e) (g1 : d.gd n) (g2 : e.gd m) (h1 : n ≤ 64) (h2 : m ≤ 64) (hq : PyData.eqv d.py e.py = b) : Ev K (tOp (rNeD K) ta tb) σ H (.bl (!b)) :=
  ev_op ha hb fun v w H1 _ hv hw Q q => ⟨_, _, gd_dp n d v g1 hv, gd_dp m e w g2 hw, gd_shaped g1 h1, gd_shaped g2 h2, q _ _ (Same.refl _) (by rw [hq]; rfl)⟩
theorem eqv_nil (ds : List D) : PyData.eqv (D.lst ds).py (D.lst []).py = ds.isEmpty := by
  cases ds with
  | nil => simp [D.py, D.pys, PyData.eqv, PyData.eqvAll]
  | cons d r => simp [D.py, D.pys, PyData.eqv, PyData.eqvAll]
/-- == [] -/
theorem ev_eqNil {n : Nat} {xs : List D} (ha : Ev K ta σ H (.lst xs)) (g : (D.lst xs).gd n) (h1 : n ≤ 64) : Ev K (tOp (rEqD K) ta (tLst tNil)) σ H (.bl xs.isEmpty) :=
  ev_eqD (n := n) (m := 1) ha (ev_lst ea_nil (by decide)) g (fun d m => by cases m) h1 (by decide) (eqv_nil xs)
theorem ev_neNil {n : Nat} {xs : List D} (ha : Ev K ta σ H (.lst xs)) (g : (D.lst xs).gd n) (h1 : n ≤ 64) : Ev K (tOp (rNeD K) ta (tLst tNil)) σ H (.bl (!xs.isEmpty)) :=
  ev_neD (n := n) (m := 1) ha (ev_lst ea_nil (by decide)) g (fun d m => by cases m) h1 (by decide) (eqv_nil xs)
theorem ev_eqRefl {n : Nat} (ha : Ev K ta σ H d) (hb : Ev K tb σ H d) (g : d.gd n) (h1 : n ≤ 64) : Ev K (tOp (rEqD K) ta tb) σ H (.bl true) :=
  ev_eqD ha hb g g h1 h1 (SeqAt.eqv_refl _ (gd_lay n d g).1)
/-! ### signs, min, int() -/
theorem ev_neg {i : Int} (ha : Ev K ta σ H (.int i)) : Ev K (tUn (rU fun i => .int (-i)) ta) σ H (.int (-i)) := fun H1 a Q q =>
  ha H1 a _ fun v H2 s hv => ⟨i, hv, q _ _ s rfl⟩
theorem ev_min2 {i j : Int} (ha : Ev K ta σ H (.int i)) (hb : Ev K tb σ H (.int j)) : Ev K (tCB (fun xs H Q => ∃ i j, xs = [.int i, .int j] ∧ Q (.int (if j < i then j else i)) H) (tCons ta (tCons tb tNil))) σ H (.int (if j < i then j else i)) :=
  ev_cb (ea_cons ha (ea_cons hb ea_nil)) fun vs H1 _ ⟨v, r, h1, hv, w, r2, h3, hw, h5⟩ Q q => ⟨i, j, by rw [h1, h3, show v = .int i from hv, show w = .int j from hw, show r2 = [] from h5], q _ _ (Same.refl _) rfl⟩
theorem ev_int1 {b : Bool} (ha : Ev K ta σ H (.bl b)) : Ev K (tCB (fun xs H Q => (∃ i, xs = [.int i] ∧ Q (.int i) H) ∨ ∃ k, xs = [.bl k] ∧ Q (.int (if k then 1 else 0)) H) (tCons ta tNil)) σ H (.int (if b then 1 else 0)) :=
  ev_cb (ea_cons ha ea_nil) fun vs H1 _ ⟨v, r, h1, hv, h3⟩ Q q => .inr ⟨b, by rw [h1, show v = .bl b from hv, show r = [] from h3], q _ _ (Same.refl _) rfl⟩
theorem ev_ixQT {xs : List D} {i : Int} (ha : Ev K ta σ H (.tup xs)) (hb : Ev K tb σ H (.int i)) (h : atI xs i = some d) : Ev K (tOp (rIx K) ta tb) σ H d :=
  ev_op ha hb fun v w H1 _ ⟨a, vs, h1, h2, h3⟩ hw Q q => by
    obtain ⟨x, h4, h5⟩ := atI_dts h3 h
    exact .inr (.inl ⟨a, vs, i, x, h1, hw, SqT.of h2, h4, q _ _ (Same.refl _) h5⟩)
theorem ev_ixQL {xs : List D} {i : Int} (ha : Ev K ta σ H (.lst xs)) (hb : Ev K tb σ H (.int i)) (h : atI xs i = some d) : Ev K (tOp (rIx K) ta tb) σ H d :=
  ev_op ha hb fun v w H1 _ ⟨a, vs, h1, h2, h3⟩ hw Q q => by
    obtain ⟨x, h4, h5⟩ := atI_dts h3 h
    exact .inl ⟨a, vs, i, x, h1, hw, SqL.of h2, h4, q _ _ (Same.refl _) h5⟩
/-- a list among the slots, by its address -/
theorem Sl.raw {i : Nat} {xs : List D} (s : Sl K H ds σ) (hi : ds[i]? = some (some (.lst xs))) : ∃ a vs, H a = some (.lst vs) ∧ Dts K H xs vs ∧ Sl K H (ds.set i (some (.raw (.ref a)))) σ := by
  obtain ⟨v, h1, a, vs, rfl, h2, h3⟩ := s.get hi
  have q := s.set i (d := .raw (.ref a)) (v := .ref a) rfl
  obtain ⟨hl, he⟩ := List.getElem?_eq_some_iff.mp h1
  rw [← he, List.set_getElem_self] at q
  exact ⟨a, vs, h2, h3, q⟩
/-! ### while, a local list grows -/
theorem q_whileB {tv : TS} {l : Addr} (W : Nat → List (Option D) → List D → Prop) {d0 : List (Option D)} {e0 : List D} {v0 : List V} (m0 : Nat) (s0 : Sl K H d0 σ) (w0 : W m0 d0 e0) (hl : H l = some (.lst v0)) (hd0 : Dts K H e0 v0)
    (step : ∀ m ds es vs σ' H', W m ds es → Sm l H H' → Sl K H' ds σ' → H' l = some (.lst vs) → Dts K H' es vs → ∃ b, EvT K t σ' H' b ∧
      (b = true → ∀ H1 (N : St → Hp → Prop), Same H' H1 → (∀ m2 ds2 es2 vs2 σ2 H2, m2 < m → W m2 ds2 es2 → Sm l H1 H2 → Sl K H2 ds2 σ2 → H2 l = some (.lst vs2) → Dts K H2 es2 vs2 → N σ2 H2) → tu { E with nx := N, ct := N, bk := tv E } σ' H1) ∧ (b = false → ∀ H1, Same H' H1 → tv E σ' H1)) : tSeq (tWhile t tu) tv E σ H :=
  ⟨fun m σ' H' => ∃ ds es vs, W m ds es ∧ Sm l H H' ∧ Sl K H' ds σ' ∧ H' l = some (.lst vs) ∧ Dts K H' es vs, ⟨m0, d0, e0, v0, w0, Sm.refl _ _, s0, hl, hd0⟩, fun m σ' H' ⟨ds, es, vs, w, s, sl, h1, h2⟩ => by
    obtain ⟨b, hb, k1, k2⟩ := step m ds es vs σ' H' w s sl h1 h2
    refine hb H' (Same.refl H') _ fun H1 e => ?_
    cases b with
    | true => exact ⟨fun σ2 H2 => ∃ m', m' < m ∧ ∃ ds es vs, W m' ds es ∧ Sm l H H2 ∧ Sl K H2 ds σ2 ∧ H2 l = some (.lst vs) ∧ Dts K H2 es vs, fun σ2 H2 ⟨m', l, z⟩ => ⟨m', l, z⟩, k1 rfl H1 _ e fun m2 ds2 es2 vs2 σ2 H2 l2 w2 s2 sl2 q1 q2 => ⟨m2, l2, ds2, es2, vs2, w2, (s.trans (Same.sm _ e)).trans s2, sl2, q1, q2⟩⟩
    | false => exact k2 rfl H1 e⟩
end
end Rt
/-! ### defs that raise, and except -/
namespace Rt
open PySem PySem.Spec PyProof.Rows L2
/-- data, or an error of the class at c -/
inductive Res where
  | ok (d : D)
  | ex (c : Addr)
def Res.Q (K : PySem.W.Frag) (H : Hp) (Q : VK) (E : XK) : Res → Prop
  | .ok d => ∀ v H', Same H H' → Dt K H' d v → Q v H'
  | .ex c => ∀ H', Same H H' → E (.ref c) none H'
def FnX (K : PySem.W.Frag) (R : List D → Res → Prop) : Sp := fun vs H Q E => ∃ ds r, Dts K H ds vs ∧ R ds r ∧ r.Q K H Q E
section
variable {P : Program} {w : World} {K : PySem.W.Frag} {mg : Str → Option Value} {base : Heap}
theorem cal_fnX {x : Str} {st : Stmt} {N ps : List Str} {k : Nat} {R : List D → Res → Prop} (F : Dfn K mg x st ps) (S : FnScope N ps (defScope st)) (len : ∀ ds r, R ds r → ds.length = ps.length)
    (hbody : ∀ (cdv : Value) (A : Around) (outer : List Env) (s : Shared) (f : Addr) (H : Hp) (vs : List V) (ds : List D) (r : Res) (E : XK), Room k (A.deeper (envOfC x (defScope st) s.heap.objs.size f cdv)) → R ds r →
      Sl K H (ds.map some ++ List.replicate (N.length - ds.length) none) (start N vs) →
      ∃ t, PSs (cxOf (L2.CX P w) P w K mg base N x (defScope st) f cdv A outer s H E) (defBody st) t ∧ ∀ (nx : L2.St → Hp → Prop) (Q : VK), r.Q K H Q E → (∀ d, r = .ok d → ∀ σ' H', Same H H' → Dt K H' d .non → nx σ' H') → t { nx := nx, rt := Q } (start N vs) H) : Cal P w K mg base (L2.CX P w) (k + 1) x (FnX K R) := by
  obtain ⟨f, fd, F, m, b⟩ := F.ex
  refine ⟨f, fd, ps, F.okX S (fun vs H Q E h => ?_) (fun cdv A outer s H vs Q E hr h => ?_), m, F.kp, b⟩
  · obtain ⟨ds, r, h1, h2, _⟩ := h
    rw [h1.len]; exact len _ _ h2
  · obtain ⟨ds, r, h1, h2, k⟩ := h
    obtain ⟨t, ht, hq⟩ := hbody cdv A outer s f H vs ds r E hr h2 (Sl.start h1)
    refine ⟨t, ht, hq _ _ k fun d e σ' H' s1 h => ?_⟩
    subst e
    exact k _ H' s1 h
end
section
variable {K : PySem.W.Frag} {σ : L2.St} {H : Hp} {ta tb te : TE} {d : D}
theorem ev_callX {R : List D → Res → Prop} {t : TA} {ds : List D} {E : XK} (h : EvA K t σ H ds) (hR : R ds (.ok d)) : Ev K (tCall (FnX K R) [] E t) σ H d := fun H1 a Q q =>
  h H1 a _ fun vs H2 s2 hvs => ⟨ds, .ok d, by rw [List.append_nil]; exact hvs, hR, fun v H3 s3 hv => q v H3 (s2.trans s3) hv⟩
theorem ev_callS {R : List D → Res → Prop} {t : TA} {ds : List D} {E : L2.St → XK} (h : EvA K t σ H ds) (hR : R ds (.ok d)) : Ev K (tCallS (FnX K R) E t) σ H d := fun H1 a Q q =>
  h H1 a _ fun vs H2 s2 hvs => ⟨ds, .ok d, hvs, hR, fun v H3 s3 hv => q v H3 (s2.trans s3) hv⟩
/-- it raises -/
def EvR (te : TE) (σ : L2.St) (H : Hp) : Prop := ∀ H1, Same H H1 → ∀ Q : VK, te σ H1 Q
def EvAR (ta : TA) (σ : L2.St) (H : Hp) : Prop := ∀ H1, Same H H1 → ∀ Q : List V → Hp → Prop, ta σ H1 Q
theorem er_call {R : List D → Res → Prop} {t : TA} {ds : List D} {E : XK} {c : Addr} (h : EvA K t σ H ds) (hR : R ds (.ex c)) (hE : ∀ H', Same H H' → E (.ref c) none H') : EvR (tCall (FnX K R) [] E t) σ H := fun H1 a Q =>
  h H1 a _ fun vs H2 s2 hvs => ⟨ds, .ex c, by rw [List.append_nil]; exact hvs, hR, fun H3 s3 => hE H3 ((a.trans s2).trans s3)⟩
theorem er_callS {R : List D → Res → Prop} {t : TA} {ds : List D} {E : L2.St → XK} {c : Addr} (h : EvA K t σ H ds) (hR : R ds (.ex c)) (hE : ∀ H', Same H H' → E σ (.ref c) none H') : EvR (tCallS (FnX K R) E t) σ H := fun H1 a Q =>
  h H1 a _ fun vs H2 s2 hvs => ⟨ds, .ex c, hvs, hR, fun H3 s3 => hE H3 ((a.trans s2).trans s3)⟩
theorem ear_head {tr : TA} (h : EvR ta σ H) : EvAR (tCons ta tr) σ H := fun H1 a Q => h H1 a _
theorem ear_tail {tr : TA} (h : Ev K ta σ H d) (hr : EvAR tr σ H) : EvAR (tCons ta tr) σ H := fun H1 a Q => h H1 a _ fun v H2 s2 hv => hr H2 (a.trans s2) _
theorem er_tup {t : TA} (h : EvAR t σ H) : EvR (tTup t) σ H := fun H1 a Q => h H1 a _
theorem er_callA {sp : Sp} {vs : List V} {E : XK} {t : TA} (h : EvAR t σ H) : EvR (tCall sp vs E t) σ H := fun H1 a Q => h H1 a _
theorem er_callSA {sp : Sp} {E : L2.St → XK} {t : TA} (h : EvAR t σ H) : EvR (tCallS sp E t) σ H := fun H1 a Q => h H1 a _
variable {E : Ends} {tu : TS}
theorem s_retR (h : EvR te σ H) : tRet te E σ H := h H (Same.refl H) _
theorem s_dropR (h : EvR te σ H) : tDrop te E σ H := h H (Same.refl H) _
theorem s_asgR {i : Nat} (h : EvR te σ H) : tAsg te (gName i) E σ H := h H (Same.refl H) _
theorem q_asgR {i : Nat} (h : EvR te σ H) : tSeq (tAsg te (gName i)) tu E σ H := h H (Same.refl H) _
/-- isinstance of the error that is caught -/
theorem ev_isE {C a : Addr} {cv : Value} {c : V} {b : Bool} (ha : Ev K ta σ H (.raw (.ref a))) (hc : ∀ u, RelV c u → u = cv) (hk : PySem.W.kitOne K (.ref C) cv = some b) : Ev K (tCB (rIsE K C a) (tCons ta (tCons (tC c) tNil))) σ H (.bl b) :=
  ev_cb (ea_cons ha (ea_cons ev_c ea_nil)) fun vs H1 _ ⟨v, r, h1, hv, x, r2, h3, hw, h5⟩ Q q => ⟨c, cv, b, by rw [h1, h3, show v = .ref a from hv, show x = c from hw, show r2 = [] from h5], hc, hk, q _ _ (Same.refl _) rfl⟩
theorem rel_ref {C : Addr} : ∀ u, RelV (.ref C) u → u = .ref C := fun u r => by cases r; rfl
theorem rel_ty {n : String} : ∀ u, RelV (.ty n) u → u = .type n := fun u r => by cases r; rfl
end
/-- what a raising def's own wish takes -/
theorem passX {P : Program} {w : World} {K : PySem.W.Frag} {mg : Str → Option Value} {base : Heap} {N : List Str} {x : Str} {sc : Scope} {f : Addr} {cd : Value} {A : Around} {outer : List Env} {s : Shared} {H : Hp} {E : XK} :
    Passes (L2.CX P w) (cxOf (L2.CX P w) P w K mg base N x sc f cd A outer s H E) E := passes_call (takes_of rfl rfl rfl rfl) (fun _ _ _ _ h => h)
/-- a call that raises nothing, though its def may -/
theorem pass0X {X : Cx} : Passes (L2.CX X.prog X.w) X (fun _ _ _ => False) := passes_call takes0 (fun _ _ _ _ h => h)
section
variable {X : Cx} {k j : Nat} {x : Str} {sp : Sp} {p pos : Pos} {e : Expr} {es : List Expr} {t : TA} {E : L2.St → XK}
/-- a call in a try -/
theorem pe_cS (c : Cal X.prog X.w X.K X.mg X.base (L2.CX X.prog X.w) k x sp) (hr : Room j X.A) (hk : k ≤ j) (hg : Gl X x) (hx : ∀ σ, PassesAt (L2.CX X.prog X.w) X σ (E σ)) (ha : PA X (e :: es) t)
    (hdb : (x == ("__debug__" : Str)) = false := by decide) (he : starEach (e :: es) X.env = (false, eval e X.env) :: starEach es X.env := by rfl) (hpl : (backTo pos (starEach es X.env)).any (·.1) = false := by rfl) :
    PE X (.Call (.Name x p) (e :: es) [] pos) (tCallS sp E t) := by
  obtain ⟨f, fd, ps, F, hm, kp, b⟩ := c.ex
  exact pe_callS F (hr.mono hk) hg hm kp b hx ha hdb he hpl
theorem call_isEw {a D : Addr} {oe : Obj} {cls : Value} {d : Option Addr} {pn : List (Addr × Obj)} (C : ExcC X.K D) (h1 : cls = .ref D) (h2 : d = none) (hz : Zc cls d oe) (hf : ∃ vs, oe.data = .fields vs) : CallR (X.suite a ((a, oe) :: pn)) (.builtin "isinstance") (rIsE X.K D a) := by
  subst h1 h2
  exact call_isE C hz hf
end
/-- a suite that is read where a thing holds -/
theorem pss_when {X : Cx} {st : List Stmt} {p : Prop} {t : TS} (h : p → PSs X st t) : PSs X st (fun D σ H => p ∧ t D σ H) := ⟨fun pins s σ H D I ⟨hp, hq⟩ => (h hp).run pins s σ H D I hq⟩
/-- what a class of errors says: C, below the class T of all refusals -/
structure Xc (K : PySem.W.Frag) (mg : Str → Option Value) (x : Str) (C T : Addr) : Prop where
  g : mg x = some (.ref C)
  ex : PySem.W.excIn K C [.type "ValueError", .type "Exception", .type "BaseException", .type "object"] "ValueError.__new__" = true
  kp : PySem.W.keepIn K (.ref C) = true
  sub : PySem.W.subIn K (.ref C) (.type "BaseException") = some true
  ty : PySem.W.typeIn K (.ref C) = some (.type "type")
  self : PySem.W.subIn K (.ref C) (.ref C) = some true
  exc : ExcC K C
  kT : PySem.W.kitOne K (.ref C) (.ref T) = some true
  kV : PySem.W.kitOne K (.ref C) (.type "ValueError") = some true
theorem kit_sub {K : PySem.W.Frag} {t : Value} {T : Addr} (h1 : PySem.W.hasDictIn K T = true) (h2 : PySem.W.typeIn K (.ref T) = some (.type "type")) (h3 : PySem.W.subIn K t (.ref T) = some true) : PySem.W.kitOne K t (.ref T) = some true := by
  obtain ⟨cd, hc, _⟩ := PySem.W.any_some h1
  have e : ((PySem.W.clsIn K T).isSome && PySem.W.typeIn K (.ref T) == some (.type "type")) = true := by rw [hc, h2] <;> rfl
  unfold PySem.W.kitOne
  split
  · rfl
  · exact (if_pos e).trans h3
theorem kit_subV {K : PySem.W.Frag} {C : Addr} (h3 : PySem.W.subIn K (.ref C) (.type "ValueError") = some true) : PySem.W.kitOne K (.ref C) (.type "ValueError") = some true := by
  unfold PySem.W.kitOne
  split
  · rfl
  · have e : PySem.W.kitMeta "ValueError" = true := by decide +kernel
    show (if PySem.W.kitMeta "ValueError" = true then PySem.W.subIn K (.ref C) (.type "ValueError") else none) = some true
    rw [if_pos e]; exact h3
theorem Xc.exm {K : PySem.W.Frag} {mg : Str → Option Value} {x : Str} {C T : Addr} (h : Xc K mg x C T) : PySem.W.exmOne K (.ref C) (.ref C) = some true := PySem.W.exm_ref h.sub h.exc.hd h.ty h.self
end Rt
/-! ### several except clauses, each with a name -/
namespace Rt
open PySem PySem.Spec PyProof.Rows L2
/-- what the named clauses wish, one behind the other -/
def wMany2 (K : PySem.W.Frag) (Wout : WX) (D : Ends) : List (Nat × Value × (Addr → Value → Option Addr → TS)) → WX
  | [] => Wout
  | (i, c, ts) :: r => fun cls d σ H => ∃ b, PySem.W.exmOne K cls c = some b ∧
      (b = true → ∀ a, H a = none → ts a cls d { nx := fun σ' H' => D.nx (σ'.set i none) H', rt := D.rt, bk := fun σ' H' => D.bk (σ'.set i none) H', ct := fun σ' H' => D.ct (σ'.set i none) H' } (σ.set i (some (.ref a))) H) ∧ (b = false → wMany2 K Wout D r cls d σ H)
inductive HdA (X : Cx) : List ExceptHandler → List (Nat × Value × (Addr → Value → Option Addr → TS)) → Prop
  | nil : HdA X [] []
  | cons {x n : Str} {i : Nat} {c : Value} {ts : Addr → Value → Option Addr → TS} {b0 : Stmt} {su : List Stmt} {np p2 : Pos} {hd : List ExceptHandler} {l : List (Nat × Value × (Addr → Value → Option Addr → TS))}
      (hi : X.N[i]? = some n) (hl : X.env.kindOf n = some .local) (nm : Names X x c)
      (rd : ∀ (a : Addr) (oe : Obj) (cls : Value) (d : Option Addr) (pn : List (Addr × Obj)), Zc cls d oe → (∃ vs, oe.data = .fields vs) → PSs (X.suite a ((a, oe) :: pn)) (b0 :: su) (ts a cls d)) (r : HdA X hd l) :
      HdA X (.ExceptHandler (some (.Name x np)) (some n) (b0 :: su) p2 :: hd) ((i, c, ts) :: l)
section
variable {X : Cx} {body : List Stmt} {h0 : ExceptHandler} {hd : List ExceptHandler} {l : List (Nat × Value × (Addr → Value → Option Addr → TS))} {pos : Pos} {tb : WX → TS} {Wout : WX}
theorem ps_try_manyA (hs : X.stack = X.env :: X.outer) (hf : X.env.frame = some X.env.locals) (nd : X.N.Nodup) (tk : Takes X Wout)
    (hb : ∀ (W : WX) (pn : List (Addr × Obj)) (xe : Value → Shared → Prop), Takes (X.tr pn xe) W → PassesOwn (model X.prog X.w) X.A X.env xe → PSs (X.tr pn xe) body (tb W)) (hh : HdA X (h0 :: hd) l) :
    PS X (.Try body (h0 :: hd) [] [] pos) (fun D σ H => tb (wMany2 X.K Wout D l) D σ H) := ⟨fun ps s0 σ H D I0 h => by
  have ok := I0.ok
  have fr0 : X.A.frames = some (X.env :: X.outer) := ok.frames.trans (congrArg some hs)
  refine wpAny_Try_except (wpAny_mono ((hb (wMany2 X.K Wout D l) (X.pn ++ ps) (fun e t1 => wpAny (model X.prog X.w) X.A (noteFrame e X.env) (fun _ t2 => wpAny (model X.prog X.w) X.A (setFlight e none) (fun _ t3 => wpAny (model X.prog X.w) X.A (handleBy e X.env (h0 :: hd)) (SP X ps D) X.xe t3) X.xe t2) X.xe t1)
    (fun u t xx => ?_) PassesOwn.looking).run [] s0 σ H D (I0.toTry _) h) (fun f t1 hsp => ?_) fun _ _ z => z)
  · obtain ⟨a, B, sI, ps', σ1, H1, cls, d, rfl, Jt, nb, up, sky, na, os, ag, w⟩ := xx
    have J := Jt.ofTry ok
    rw [show X.stack = X.env :: X.outer from hs] at sky
    show wpAny (model X.prog X.w) X.A (noteFrame (.ref a) X.env) _ X.xe t
    refine Sky.land Zc.steady fr0 hf sky fun g3 fl3 u3 => ?_
    have J3 := J.landed (s' := { t with heap := g3 }) nb fl3.1 (up.trans u3) os ag
    obtain ⟨oe, vs, he, hz, hdt⟩ := fl3.there
    have nfr : a ∉ frs (X.env :: X.outer) := fun hm => by
      obtain ⟨_, o', e', hnf⟩ := fl3.2.2.1.mem hm
      rw [he] at e'; cases e'; exact hnf _ hdt
    have nL : a ≠ X.env.locals := fun z => nfr (List.mem_filterMap.mpr ⟨X.env, List.mem_cons_self, hf.trans (congrArg some z.symm)⟩)
    have nF : a ∉ X.fs := fun hm => by
      obtain ⟨e, k1, k2⟩ := List.mem_filterMap.mp hm
      exact nfr (List.mem_filterMap.mpr ⟨e, List.mem_cons_of_mem _ k1, k2⟩)
    have S3 := J3.suite he hdt na nL nF
    have step : ∀ {hs2 : List ExceptHandler} {l2 : List (Nat × Value × (Addr → Value → Option Addr → TS))}, HdA X hs2 l2 → wMany2 X.K Wout D l2 cls d σ1 H1 →
        wpAny (model X.prog X.w) X.A (handleBy (.ref a) X.env hs2) (SP X ps D) X.xe { t with heap := g3 } := fun {hs2 l2} hk => by
      induction hk with
      | nil =>
        intro w2
        obtain ⟨_, _, _, oe', vs', T, _, _, he', _, hd', h1', _⟩ := id fl3
        refine wpAny_handleBy_nil ?_
        unfold PySem.passOn
        refine wpAny_bind (wpAny_field he' hd' h1' ?_)
        rw [if_neg (show ¬ ((Value.ref T == Value.none) = true) by simp)]
        have out : wpAny (model X.prog X.w) X.A (setFlight (.ref a) X.env.frame) (fun _ t4 => wpAny (model X.prog X.w) X.A (throw (.ref a) : Sem Flow) (SP X ps D) X.xe t4) X.xe { t with heap := g3 } := by
          rw [hf]
          exact HandSPX.setFlight_upZ fl3 fun g4 q4 u4 => wpAny_throw (tk _ _ ⟨a, B, sI, ps, σ1, H1, cls, d, rfl, J, nb, (up.trans u3).trans u4, .inr (.inr (hs ▸ q4)), na, os, ag, w2⟩)
        first | exact wpAny_bind (wpAny_pure (wpAny_bind out)) | exact wpAny_bind out
      | @cons x n i c ts b0 su np p2 hd2 l3 hi hl nm rd r ih =>
        rintro ⟨b, hb1, yes, no⟩
        have lt : PySem.W.Looks (model X.prog X.w) g3 (typeOf (.ref a)) cls := fun _ _ _ _ k q => wpAny_typeOf_ref (k _ _ he) (hz.1.symm ▸ q)
        have lm := PySem.W.exm_one (M := model X.prog X.w) J3.kIn lt hb1
        have ask : ∀ {Q E : Value → Shared → Prop}, Q c { t with heap := g3 } → wpAny (model X.prog X.w) (X.A.mark (some (.ref a))) (eval (.Name x np) X.env) Q E { t with heap := g3 } := fun {Q E} q => by
          obtain ⟨k1, k2, k3 | ⟨k3, k4, k5⟩⟩ := nm
          · exact ld_glob (X := X.suite a ((a, oe) :: (X.pn ++ ps))) S3 k1 k3 q k2
          · exact ld_blt (X := X.suite a ((a, oe) :: (X.pn ++ ps))) S3 k1 k3 k4 q k5 k2
        refine wpAny_handleBy_cons (codeAny_handlers_test (ask (lm.here ?_))) (fun q => nomatch q)
        cases b with
        | false => exact ih (no rfl)
        | true =>
          refine codeAny_handlers_suite_as (HandSPX.lands_againZ fl3 fun g4 fl4 u4 => ?_)
          have J4 := J.landed (s' := { t with heap := g4 }) nb fl4.1 ((up.trans u3).trans u4) os ag
          obtain ⟨oe4, vs4, he4, hz4, hd4⟩ := fl4.there
          have S4 := J4.suite he4 hd4 na nL nF
          refine store_ok (X := X.suite a ((a, oe4) :: (X.pn ++ ps))) (v := .ref a) S4 nd hi (.inl hl) rfl (fun t5 S5 => wpAny_mono ((rd a oe4 cls d (X.pn ++ ps) hz4 ⟨_, hd4⟩).run [] t5 _ H1 _ S5 (yes rfl a na)) (fun f t6 hsp => ?_) fun _ _ z => z.elim) (.inr hl)
          have off : ∀ {σ6 : L2.St} {H6 : Hp} {Q : Shared → Prop}, Inv (X.suite a ((a, oe4) :: (X.pn ++ ps))) [] σ6 H6 t6 → (∀ t7, Inv X ps (σ6.set i none) H6 t7 → Q t7) →
              wpAny (model X.prog X.w) X.A (do bindName X.env n .none; unbindBehindTheSuite X.env n p2) (fun _ t7 => Q t7) X.xe t6 := fun {σ6 H6 Q} S6 hq => gone_ok (S6.unsuite ok) nd hi hl hq
          cases f with
          | next => obtain ⟨_, _, S6, q6⟩ := hsp; exact off S6 fun _ J7 => ⟨_, _, J7, q6⟩
          | brk => obtain ⟨_, _, S6, q6⟩ := hsp; exact off S6 fun _ J7 => ⟨_, _, J7, q6⟩
          | cont => obtain ⟨_, _, S6, q6⟩ := hsp; exact off S6 fun _ J7 => ⟨_, _, J7, q6⟩
          | ret u => obtain ⟨_, _, _, S6, r6, q6⟩ := hsp; exact off S6 fun _ J7 => ⟨_, _, _, J7, r6, q6⟩
    exact step hh w
  · cases f with
    | next => obtain ⟨_, _, Jn, q⟩ := hsp; exact wpAny_execs_nil ⟨_, _, Jn.ofTry ok, q⟩
    | brk => obtain ⟨_, _, Jn, q⟩ := hsp; exact ⟨_, _, Jn.ofTry ok, q⟩
    | cont => obtain ⟨_, _, Jn, q⟩ := hsp; exact ⟨_, _, Jn.ofTry ok, q⟩
    | ret u => obtain ⟨_, _, _, Jn, r, q⟩ := hsp; exact ⟨_, _, _, Jn.ofTry ok, r, q⟩⟩
end
end Rt
namespace Rt
open PySem PySem.Spec PyProof.Rows L2
def top (i : Nat) : Stmt := PySem.Challenge.pw_radixtrail_k06_all_knots.main.body.getD i (.Pass ⟨0, 0, 0, 0⟩)
abbrev s_names : Stmt := top 1
abbrev N_names : List Str := ["tree", "told", "branch", "pair"]
theorem sc_names : FnScope ["tree", "told", "branch", "pair"] ["tree"] (defScope s_names) := fn_by (by decide +kernel)
abbrev s_knots : Stmt := top 2
abbrev N_knots : List Str := ["tree", "told", "branch", "pair"]
theorem sc_knots : FnScope ["tree", "told", "branch", "pair"] ["tree"] (defScope s_knots) := fn_by (by decide +kernel)
abbrev s__law_cell_at : Stmt := top 4
abbrev N__law_cell_at : List Str := ["_law_script", "_law_k"]
theorem sc__law_cell_at : FnScope ["_law_script", "_law_k"] ["_law_script", "_law_k"] (defScope s__law_cell_at) := fn_by (by decide +kernel)
abbrev s__law_whole : Stmt := top 5
abbrev N__law_whole : List Str := ["_law_told"]
theorem sc__law_whole : FnScope ["_law_told"] ["_law_told"] (defScope s__law_whole) := fn_by (by decide +kernel)
abbrev s__law_sign_by : Stmt := top 6
abbrev N__law_sign_by : List Str := ["_law_cell", "_law_some"]
theorem sc__law_sign_by : FnScope ["_law_cell", "_law_some"] ["_law_cell"] (defScope s__law_sign_by) := fn_by (by decide +kernel)
abbrev s__law_word_by : Stmt := top 7
abbrev N__law_word_by : List Str := ["_law_cell", "_law_size", "_law_made", "_law_number", "_law_k"]
theorem sc__law_word_by : FnScope ["_law_cell", "_law_size", "_law_made", "_law_number", "_law_k"] ["_law_cell", "_law_size"] (defScope s__law_word_by) := fn_by (by decide +kernel)
abbrev s__law_number_by : Stmt := top 8
abbrev N__law_number_by : List Str := ["_law_cell", "_law_size", "_law_number", "_law_mixed", "_law_k"]
theorem sc__law_number_by : FnScope ["_law_cell", "_law_size", "_law_number", "_law_mixed", "_law_k"] ["_law_cell"] (defScope s__law_number_by) := fn_by (by decide +kernel)
abbrev s__law_rows_by : Stmt := top 9
abbrev N__law_rows_by : List Str := ["_law_script", "_law_first", "_law_count", "_law_cell", "_law_way", "_law_more", "_law_start", "_law_k", "_law_pairs", "_law_wide", "_law_rows", "_law_size", "_law_word", "_law_old", "_law_row"]
theorem sc__law_rows_by : FnScope ["_law_script", "_law_first", "_law_count", "_law_cell", "_law_way", "_law_more", "_law_start", "_law_k", "_law_pairs", "_law_wide", "_law_rows", "_law_size", "_law_word", "_law_old", "_law_row"] ["_law_script", "_law_first", "_law_count"] (defScope s__law_rows_by) := fn_by (by decide +kernel)
abbrev s__law_count_by : Stmt := top 10
abbrev N__law_count_by : List Str := ["_law_cell"]
theorem sc__law_count_by : FnScope ["_law_cell"] ["_law_cell"] (defScope s__law_count_by) := fn_by (by decide +kernel)
abbrev s__law_tree : Stmt := top 11
abbrev N__law_tree : List Str := ["_law_rows", "_law_first", "_law_last", "_law_size", "_law_branches", "_law_at", "_law_sign", "_law_same", "_law_row"]
theorem sc__law_tree : FnScope ["_law_rows", "_law_first", "_law_last", "_law_size", "_law_branches", "_law_at", "_law_sign", "_law_same", "_law_row"] ["_law_rows"] (defScope s__law_tree) := fn_by (by decide +kernel)
abbrev s__law_alike : Stmt := top 12
abbrev N__law_alike : List Str := ["_law_told", "_law_due", "_law_k"]
theorem sc__law_alike : FnScope ["_law_told", "_law_due", "_law_k"] ["_law_told", "_law_due"] (defScope s__law_alike) := fn_by (by decide +kernel)
abbrev s__law_knots : Stmt := top 13
abbrev N__law_knots : List Str := ["_law_rows", "_law_due", "_law_row", "_law_size", "_law_start", "_law_signs", "_law_other"]
theorem sc__law_knots : FnScope ["_law_rows", "_law_due", "_law_row", "_law_size", "_law_start", "_law_signs", "_law_other"] ["_law_rows"] (defScope s__law_knots) := fn_by (by decide +kernel)
abbrev s__law_walked : Stmt := top 14
abbrev N__law_walked : List Str := ["_law_tree_here", "_law_start", "_law_due", "_law_branch"]
theorem sc__law_walked : FnScope ["_law_tree_here", "_law_start", "_law_due", "_law_branch"] ["_law_tree_here", "_law_start"] (defScope s__law_walked) := fn_by (by decide +kernel)
abbrev s_law : Stmt := top 15
abbrev N_law : List Str := ["_law_script", "_law_rows", "_law_tree_here", "_law_got", "_law_told", "_law_held", "_law_pair"]
theorem sc_law : FnScope ["_law_script", "_law_rows", "_law_tree_here", "_law_got", "_law_told", "_law_held", "_law_pair"] ["_law_script"] (defScope s_law) := fn_by (by decide +kernel)
structure Bl (mg : Str → Option Value) : Prop where
  len_ : mg "len" = none
  range_ : mg "range" = none
  tuple_ : mg "tuple" = none
  sorted_ : mg "sorted" = none
  isinstance_ : mg "isinstance" = none
  str_ : mg "str" = none
  int_ : mg "int" = none
  bool_ : mg "bool" = none
  list_ : mg "list" = none
  min_ : mg "min" = none
  max_ : mg "max" = none
  set_ : mg "set" = none
  dict_ : mg "dict" = none
  ord_ : mg "ord" = none
  enumerate_ : mg "enumerate" = none
  ValueError_ : mg "ValueError" = none
end Rt
/-! ### small words for the proofs -/
local macro_rules | `(tactic| walk_at "side") => `(tactic| first | assumption | (exact rfl) | (exact Nat.le_of_ble_eq_true rfl) | trivial | omega | (simp only [List.length_append, List.length_cons, List.length_nil, List.length_take, List.length_drop, List.length_map]; omega) | (simp only [List.length_append, List.length_cons, List.length_nil, List.length_take, List.length_drop, List.length_map] at *; omega))
local macro_rules | `(tactic| walk_at "ev") => `(tactic| first
  | (with_reducible exact Rt.ev_int) | (with_reducible exact Rt.ev_str) | (with_reducible exact Rt.ev_non) | (with_reducible exact Rt.ev_bl) | (with_reducible exact Rt.ea_nil) | (with_reducible exact Rt.eo_none) | (with_reducible exact Rt.et_yes)
  | ((with_reducible apply Rt.ev_var); (next => assumption); (next => exact rfl))
  | assumption
  | ((with_reducible apply Rt.ev_add); (next => walk_at "ev"); (next => walk_at "ev"))
  | ((with_reducible apply Rt.ev_sub); (next => walk_at "ev"); (next => walk_at "ev"))
  | ((with_reducible apply Rt.ev_addS); (next => walk_at "ev"); (next => walk_at "ev"); (next => walk_at "side"))
  | ((with_reducible apply Rt.ev_mul); (next => walk_at "ev"); (next => walk_at "ev"); (next => walk_at "mul"))
  | ((with_reducible apply Rt.ev_fdiv); (next => walk_at "ev"); (next => walk_at "ev"); (next => exact ⟨by decide, by decide⟩))
  | ((with_reducible apply Rt.ev_mod); (next => walk_at "ev"); (next => walk_at "ev"); (next => walk_at "side"))
  | ((with_reducible apply Rt.ev_lt); (next => walk_at "ev"); (next => walk_at "ev"))
  | ((with_reducible apply Rt.ev_le); (next => walk_at "ev"); (next => walk_at "ev"))
  | ((with_reducible apply Rt.ev_gt); (next => walk_at "ev"); (next => walk_at "ev"))
  | ((with_reducible apply Rt.ev_ge); (next => walk_at "ev"); (next => walk_at "ev"))
  | ((with_reducible apply Rt.ev_ltS); (next => walk_at "ev"); (next => walk_at "ev"))
  | ((with_reducible apply Rt.ev_leS); (next => walk_at "ev"); (next => walk_at "ev"))
  | ((with_reducible apply Rt.ev_gtS); (next => walk_at "ev"); (next => walk_at "ev"))
  | ((with_reducible apply Rt.ev_geS); (next => walk_at "ev"); (next => walk_at "ev"))
  | ((with_reducible apply Rt.ev_isN); (next => walk_at "ev"))
  | ((with_reducible apply Rt.ev_notN); (next => walk_at "ev"))
  | ((with_reducible apply Rt.ev_eqS); (next => walk_at "ev"); (next => walk_at "ev"))
  | ((with_reducible apply Rt.ev_eqI); (next => walk_at "ev"); (next => walk_at "ev"))
  | ((with_reducible apply Rt.ev_neS); (next => walk_at "ev"); (next => walk_at "ev"))
  | ((with_reducible apply Rt.ev_neI); (next => walk_at "ev"); (next => walk_at "ev"))
  | ((with_reducible apply Rt.ev_eqB); (next => walk_at "ev"); (next => walk_at "ev"))
  | ((with_reducible apply Rt.ev_neB); (next => walk_at "ev"); (next => walk_at "ev"))
  | ((with_reducible apply Rt.ev_ixT); (next => walk_at "ev"); (next => walk_at "ev"); (next => walk_at "at"))
  | ((with_reducible apply Rt.ev_ixQT); (next => walk_at "ev"); (next => walk_at "ev"); (next => walk_at "at"))
  | ((with_reducible apply Rt.ev_ixQL); (next => walk_at "ev"); (next => walk_at "ev"); (next => walk_at "at"))
  | ((with_reducible apply Rt.ev_ixL); (next => walk_at "ev"); (next => walk_at "ev"); (next => walk_at "at"))
  | ((with_reducible apply Rt.ev_ixR); (next => walk_at "ev"); (next => walk_at "ev"); (next => walk_at "at"))
  | ((with_reducible apply Rt.ev_ixS); (next => walk_at "ev"); (next => walk_at "ev"); (next => walk_at "side"); (next => walk_at "at"))
  | ((with_reducible apply Rt.ev_slS); (next => walk_at "ev"); (next => walk_at "ev"); (next => walk_at "ev"); (next => walk_at "side"))
  | ((with_reducible apply Rt.ev_lenS); (next => walk_at "ev"); (next => walk_at "side"))
  | ((with_reducible apply Rt.ev_lenL); (next => walk_at "ev"))
  | ((with_reducible apply Rt.ev_lenT); (next => walk_at "ev"))
  | ((with_reducible apply Rt.ev_lenR); (next => walk_at "ev"))
  | ((with_reducible apply Rt.ev_isi); (next => walk_at "ev"); (next => exact rfl); (next => walk_at "kit"))
  | ((with_reducible apply Rt.ev_tuple); (next => walk_at "ev"))
  | ((with_reducible apply Rt.ev_tup); (next => walk_at "ev"); (next => walk_at "side"))
  | ((with_reducible apply Rt.ev_lst); (next => walk_at "ev"); (next => walk_at "side"))
  | ((with_reducible apply Rt.ev_call); (next => walk_at "ev"); (next => walk_at "call"))
  | ((with_reducible apply Rt.ev_callN); (next => walk_at "ev"); (next => walk_at "call"))
  | ((with_reducible apply Rt.et_test); (next => walk_at "ev"))
  | ((with_reducible apply Rt.et_B); (next => walk_at "ev"))
  | ((with_reducible apply Rt.et_not); (next => walk_at "ev"))
  | ((with_reducible apply Rt.ea_cons); (next => walk_at "ev"); (next => walk_at "ev"))
  | ((with_reducible apply Rt.eo_some); (next => walk_at "ev"))
  | ((with_reducible apply Rt.ev_notV); (next => walk_at "ev"))
  | ((with_reducible apply Rt.ev_neg); (next => walk_at "ev"))
  | ((with_reducible apply Rt.ev_min2); (next => walk_at "ev"); (next => walk_at "ev"))
  | ((with_reducible apply Rt.ev_int1); (next => walk_at "ev"))
  | ((with_reducible apply Rt.ev_own); (next => ((with_reducible apply Rt.ev_var); (next => assumption); (next => exact rfl))); (next => assumption); (next => assumption))
  | ((with_reducible apply Rt.EvN.ev); (next => walk_at "en"))
  | (with_reducible exact Rt.ev_c))
local macro_rules | `(tactic| walk_at "en") => `(tactic| first
  | ((with_reducible apply Rt.en_lst); (next => walk_at "ev"); (next => walk_at "side"))
  | ((with_reducible apply Rt.en_call); (next => walk_at "ev"); (next => walk_at "call"))
  | ((with_reducible apply Rt.en_cat); (next => walk_at "ev"); (next => walk_at "ev"); (next => walk_at "side"))
  | ((with_reducible apply Rt.en_slL); (next => walk_at "ev"); (next => walk_at "ev"); (next => walk_at "ev")))
local macro_rules | `(tactic| walk_at "at") => `(tactic| first | assumption | exact rfl)
local macro_rules | `(tactic| walk_at "mul") => `(tactic| first | assumption | exact .inr ⟨by decide, by decide⟩ | exact .inl ⟨by decide, by decide⟩)
local macro_rules | `(tactic| walk_at "deq") => `(tactic| first | (exact rfl) | assumption | (exact congrArg Rt.D.int (by omega)) | decide +kernel | (simp only [Rt.cutL_to1, Rt.cutL_from1, Rt.cutL_one, Rt.cutL_behind, Rt.cutL_to, Rt.cutL_from, Rt.cutL_nn, *]; done) | exact decide_eq_true (by assumption) | exact decide_eq_false (by assumption))
local macro_rules | `(tactic| walk_at "evq") => `(tactic| (refine Rt.Ev.to (by walk_at "ev") ?_; walk_at "deq"))
local macro_rules | `(tactic| walk_at "etq") => `(tactic| (refine Rt.EvT.to (by walk_at "ev") ?_; walk_at "deq"))
local macro_rules | `(tactic| walk_at "kit") => `(tactic| first | (with_reducible exact Rt.kit_NoneType_str) | (with_reducible exact Rt.kit_NoneType_int) | (with_reducible exact Rt.kit_NoneType_bool) | (with_reducible exact Rt.kit_NoneType_tuple) | (with_reducible exact Rt.kit_NoneType_list) | (with_reducible exact Rt.kit_bool_str) | (with_reducible exact Rt.kit_bool_int) | (with_reducible exact Rt.kit_bool_bool) | (with_reducible exact Rt.kit_bool_tuple) | (with_reducible exact Rt.kit_bool_list) | (with_reducible exact Rt.kit_int_str) | (with_reducible exact Rt.kit_int_int) | (with_reducible exact Rt.kit_int_bool) | (with_reducible exact Rt.kit_int_tuple) | (with_reducible exact Rt.kit_int_list) | (with_reducible exact Rt.kit_str_str) | (with_reducible exact Rt.kit_str_int) | (with_reducible exact Rt.kit_str_bool) | (with_reducible exact Rt.kit_str_tuple) | (with_reducible exact Rt.kit_str_list) | (with_reducible exact Rt.kit_tuple_str) | (with_reducible exact Rt.kit_tuple_int) | (with_reducible exact Rt.kit_tuple_bool) | (with_reducible exact Rt.kit_tuple_tuple) | (with_reducible exact Rt.kit_tuple_list) | (with_reducible exact Rt.kit_list_str) | (with_reducible exact Rt.kit_list_int) | (with_reducible exact Rt.kit_list_bool) | (with_reducible exact Rt.kit_list_tuple) | (with_reducible exact Rt.kit_list_list))
namespace Rt
open PySem L2
/-! ### the order of texts -/
theorem lt_irr (a : Tx) : ¬ a < a := List.lt_irrefl a
theorem lt_tr {a b c : Tx} (h : a < b) (h2 : b < c) : a < c := List.lt_trans h h2
theorem lt_ne {a b : Tx} (h : a < b) : a ≠ b := fun e => by rw [e] at h; exact lt_irr _ h
theorem lt_as {a b : Tx} (h : a < b) : ¬ b < a := fun h2 => lt_irr _ (lt_tr h h2)
theorem lt_tot : ∀ (a b : Tx), a < b ∨ a = b ∨ b < a
  | [], [] => .inr (.inl rfl)
  | [], _ :: _ => .inl (List.nil_lt_cons _ _)
  | _ :: _, [] => .inr (.inr (List.nil_lt_cons _ _))
  | x :: r, y :: s => by
    rcases Nat.lt_trichotomy x y with h | h | h
    · exact .inl (List.cons_lt_cons_iff.mpr (.inl h))
    · subst h
      rcases lt_tot r s with q | q | q
      · exact .inl (List.cons_lt_cons_iff.mpr (.inr ⟨rfl, q⟩))
      · exact .inr (.inl (by rw [q]))
      · exact .inr (.inr (List.cons_lt_cons_iff.mpr (.inr ⟨rfl, q⟩)))
    · exact .inr (.inr (List.cons_lt_cons_iff.mpr (.inl h)))
theorem lt_app : ∀ (s : Tx) {a b : Tx}, s ++ a < s ++ b ↔ a < b
  | [], a, b => Iff.rfl
  | x :: r, a, b => by
    rw [List.cons_append, List.cons_append, List.cons_lt_cons_iff]
    constructor
    · rintro (h | ⟨_, h⟩)
      · exact absurd h (Nat.lt_irrefl _)
      · exact (lt_app r).mp h
    · intro h; exact .inr ⟨rfl, (lt_app r).mpr h⟩
/-- two that differ in their first sign -/
theorem lt_head {c c' m m' : Tx} (hc : c.length ≤ 1) (hc' : c'.length ≤ 1) (h : c < c') (hm : c = [] → m = []) : c ++ m < c' ++ m' := by
  match c, c', hc, hc', h with
  | [], [], _, _, h => exact absurd h (lt_irr _)
  | [], y :: s, _, _, h => rw [hm rfl]; exact List.nil_lt_cons _ _
  | x :: r, [], _, _, h => exact absurd h (List.not_lt_nil _)
  | [x], [y], _, _, h =>
    rcases List.cons_lt_cons_iff.mp h with h | ⟨_, h⟩
    · exact List.cons_lt_cons_iff.mpr (.inl h)
    · exact absurd h (lt_irr _)
/-- rows: names with numbers -/
abbrev Rows := List (Tx × Int)
def Srt (l : Rows) : Prop := l.Pairwise fun p q => p.1 < q.1
theorem srt_ext : ∀ {l m : Rows}, Srt l → Srt m → (∀ p, p ∈ l ↔ p ∈ m) → l = m
  | [], [], _, _, _ => rfl
  | [], q :: m, _, _, h => absurd ((h q).mpr List.mem_cons_self) (by simp)
  | p :: l, [], _, _, h => absurd ((h p).mp List.mem_cons_self) (by simp)
  | p :: l, q :: m, h1, h2, h => by
    obtain ⟨a1, b1⟩ := List.pairwise_cons.mp h1
    obtain ⟨a2, b2⟩ := List.pairwise_cons.mp h2
    have e : p = q := by
      rcases List.mem_cons.mp ((h p).mp List.mem_cons_self) with e | hp
      · exact e
      rcases List.mem_cons.mp ((h q).mpr List.mem_cons_self) with e | hq
      · exact e.symm
      exact absurd (a1 q hq) (lt_as (a2 p hp))
    subst e
    rw [srt_ext b1 b2 fun r => ?_]
    constructor
    · intro hr
      rcases List.mem_cons.mp ((h r).mp (List.mem_cons_of_mem _ hr)) with e | q
      · rw [e] at hr; exact absurd (a1 _ hr) (lt_irr _)
      · exact q
    · intro hr
      rcases List.mem_cons.mp ((h r).mpr (List.mem_cons_of_mem _ hr)) with e | q
      · rw [e] at hr; exact absurd (a2 _ hr) (lt_irr _)
      · exact q
theorem srt_fun {l : Rows} (h : Srt l) {x : Tx} {n m : Int} (h1 : (x, n) ∈ l) (h2 : (x, m) ∈ l) : n = m := by
  induction l with
  | nil => cases h1
  | cons p l ih =>
    obtain ⟨a, b⟩ := List.pairwise_cons.mp h
    rcases List.mem_cons.mp h1 with e1 | q1
    · rcases List.mem_cons.mp h2 with e2 | q2
      · rw [← e2] at e1; injection e1
      · have := a _ q2; rw [← e1] at this; exact absurd this (lt_irr _)
    · rcases List.mem_cons.mp h2 with e2 | q2
      · have := a _ q1; rw [← e2] at this; exact absurd this (lt_irr _)
      · exact ih b q1 q2
theorem srt_filter {l : Rows} (h : Srt l) (f : Tx × Int → Bool) : Srt (l.filter f) := List.Pairwise.filter f h
end Rt

namespace Rt
open PySem L2
mutual
inductive T where
  | leaf (r : Tx) (n : Int)
  | fork (s : Tx) (b : B)
inductive B where
  | nil
  | cons (c : Tx) (t : T) (r : B)
end
abbrev OT := Option T
def B.list : B → List (Tx × T)
  | .nil => []
  | .cons c t r => (c, t) :: r.list
def B.of : List (Tx × T) → B
  | [] => .nil
  | p :: l => .cons p.1 p.2 (B.of l)
theorem B.list_of : ∀ l : List (Tx × T), (B.of l).list = l
  | [] => rfl
  | p :: l => by rw [B.of, B.list, B.list_of l]
theorem B.of_list : ∀ b : B, B.of b.list = b
  | .nil => rfl
  | .cons c t r => by rw [B.list, B.of, B.of_list r]
abbrev tLeaf : Tx := tx "leaf"
abbrev tFork : Tx := tx "fork"
theorem leaf_fork : ¬ tLeaf = tFork := by decide +kernel
theorem fork_leaf : ¬ tFork = tLeaf := by decide +kernel
mutual
def T.d : T → D
  | .leaf r n => .tup [.str tLeaf, .str r, .int n]
  | .fork s b => .tup [.str tFork, .str s, .tup b.d]
def B.d : B → List D
  | .nil => []
  | .cons c t r => .tup [.str c, t.d] :: r.d
end
def OT.d : OT → D
  | none => .non
  | some t => t.d
def brD (p : Tx × T) : D := .tup [.str p.1, p.2.d]
theorem B.d_list : ∀ b : B, b.d = b.list.map brD
  | .nil => rfl
  | .cons c t r => by rw [B.d, B.list, List.map_cons, B.d_list r]; rfl
mutual
theorem T.imm : ∀ t : T, t.d.imm = true
  | .leaf r n => rfl
  | .fork s b => by
    show (true && (true && (D.imms b.d && true))) = true
    rw [B.imm b]; rfl
theorem B.imm : ∀ b : B, D.imms b.d = true
  | .nil => rfl
  | .cons c t r => by
    show ((true && (t.d.imm && true)) && D.imms r.d) = true
    rw [T.imm t, B.imm r]; rfl
end
theorem OT.imm : ∀ t : OT, (OT.d t).imm = true
  | none => rfl
  | some t => T.imm t
theorem brD_imm (p : Tx × T) : (brD p).imm = true := by
  show (true && (p.2.d.imm && true)) = true
  rw [T.imm]; rfl
theorem T.not_non : ∀ t : T, t.d.isNon = false
  | .leaf _ _ => rfl
  | .fork _ _ => rfl
mutual
def T.depth : T → Nat
  | .leaf _ _ => 0
  | .fork _ b => b.depth + 1
def B.depth : B → Nat
  | .nil => 0
  | .cons _ t r => max t.depth r.depth
end
mutual
def T.find : T → Tx → Option Int
  | .leaf r n, x => if r = x then some n else none
  | .fork s b, x => if s <+: x then b.find ((x.drop s.length).take 1) ((x.drop s.length).drop 1) else none
def B.find : B → Tx → Tx → Option Int
  | .nil, _, _ => none
  | .cons c t r, y, m => if c = y then t.find m else r.find y m
end
def OT.find : OT → Tx → Option Int
  | none, _ => none
  | some t, x => t.find x
def B.look : B → Tx → OT
  | .nil, _ => none
  | .cons c t r, y => if c = y then some t else r.look y
theorem B.find_look : ∀ (b : B) (y m : Tx), b.find y m = OT.find (b.look y) m
  | .nil, _, _ => rfl
  | .cons c t r, y, m => by
    unfold B.find B.look
    by_cases h : c = y
    · rw [if_pos h, if_pos h]; rfl
    · rw [if_neg h, if_neg h]; exact B.find_look r y m
def B.signs (b : B) : List Tx := b.list.map (·.1)
mutual
def T.ok : T → Prop
  | .leaf _ _ => True
  | .fork _ b => 2 ≤ b.list.length ∧ b.ok
def B.ok : B → Prop
  | .nil => True
  | .cons c t r => c.length ≤ 1 ∧ t.ok ∧ (c = [] → ∃ n, t = .leaf [] n) ∧ (∀ y ∈ r.signs, c < y) ∧ r.ok
end
def OT.ok : OT → Prop
  | none => True
  | some t => t.ok
mutual
def T.names : T → Rows
  | .leaf r n => [(r, n)]
  | .fork s b => b.names s
def B.names (s : Tx) : B → Rows
  | .nil => []
  | .cons c t r => t.names.map (fun p => (s ++ c ++ p.1, p.2)) ++ r.names s
end
def OT.names : OT → Rows
  | none => []
  | some t => t.names
theorem B.look_mem : ∀ {b : B} {y : Tx} {t : T}, b.look y = some t → (y, t) ∈ b.list
  | .nil, _, _, h => by cases h
  | .cons c t r, y, u, h => by
    unfold B.look at h
    by_cases e : c = y
    · rw [if_pos e] at h; cases h; rw [e]; exact List.mem_cons_self
    · rw [if_neg e] at h; exact List.mem_cons_of_mem _ (B.look_mem h)
theorem B.look_none : ∀ {b : B} {y : Tx}, b.look y = none ↔ y ∉ b.signs
  | .nil, _ => ⟨fun _ h => (by cases h), fun _ => rfl⟩
  | .cons c t r, y => by
    unfold B.look
    by_cases e : c = y
    · rw [if_pos e]
      exact ⟨fun h => (by cases h), fun h => absurd (by rw [← e]; exact List.mem_cons_self) h⟩
    · rw [if_neg e, B.look_none]
      constructor
      · intro h q
        rcases List.mem_cons.mp q with q | q
        · exact e q.symm
        · exact h q
      · intro h q; exact h (List.mem_cons_of_mem _ q)
theorem B.ok_sub : ∀ {b : B} {y : Tx} {t : T}, b.ok → (y, t) ∈ b.list → y.length ≤ 1 ∧ t.ok ∧ (y = [] → ∃ n, t = .leaf [] n) ∧ b.look y = some t
  | .nil, _, _, _, h => by cases h
  | .cons c t r, y, u, ⟨h1, h2, h3, h4, h5⟩, h => by
    rcases List.mem_cons.mp h with e | h
    · cases e
      exact ⟨h1, h2, h3, by unfold B.look; rw [if_pos rfl]⟩
    · obtain ⟨q1, q2, q3, q4⟩ := B.ok_sub h5 h
      refine ⟨q1, q2, q3, ?_⟩
      have hne : c ≠ y := lt_ne (h4 y (List.mem_map.mpr ⟨(y, u), h, rfl⟩))
      unfold B.look
      rw [if_neg hne]; exact q4
/-! each tree keeps a name -/
mutual
theorem T.some_name : ∀ (t : T), t.ok → ∃ x n, t.find x = some n
  | .leaf r n, _ => ⟨r, n, by unfold T.find; rw [if_pos rfl]⟩
  | .fork s b, ⟨h1, h2⟩ => by
    cases b with
    | nil => exact absurd h1 (by decide)
    | cons c t r =>
      obtain ⟨l1, l2, l3, l4, l5⟩ := h2
      obtain ⟨x, n, hx⟩ := T.some_name t l2
      have e : ((s ++ (c ++ x)).drop s.length) = c ++ x := List.drop_left
      refine ⟨s ++ (c ++ x), n, ?_⟩
      unfold T.find
      rw [if_pos (List.prefix_append _ _), e]
      match c, l1, l3 with
      | [], _, l3 =>
        obtain ⟨n', rfl⟩ := l3 rfl
        unfold T.find at hx
        by_cases q : ([] : Tx) = x
        · rw [if_pos q] at hx; cases hx
          subst q
          simp [B.find, T.find]
        · rw [if_neg q] at hx; cases hx
      | [z], _, _ =>
        show B.find (.cons [z] t r) [z] x = some n
        unfold B.find; rw [if_pos rfl]; exact hx
end
theorem T.find_f (s : Tx) (b : B) (x : Tx) : (T.fork s b).find x = if s <+: x then b.find ((x.drop s.length).take 1) ((x.drop s.length).drop 1) else none := by
  rw [T.find]
theorem T.find_l (r : Tx) (n : Int) (x : Tx) : (T.leaf r n).find x = if r = x then some n else none := by
  rw [T.find]
/-- the name of a branch's name in the fork -/
theorem T.find_at {s c x : Tx} {b : B} {t : T} (hb : b.ok) (h : (c, t) ∈ b.list) (hx : c = [] → x = []) : (T.fork s b).find (s ++ (c ++ x)) = t.find x := by
  obtain ⟨l1, l2, l3, l4⟩ := B.ok_sub hb h
  rw [T.find_f, if_pos (List.prefix_append _ _), List.drop_left, B.find_look]
  have e : (c ++ x).take 1 = c ∧ (c ++ x).drop 1 = x := by
    match c, l1, hx with
    | [], _, hx => rw [hx rfl]; exact ⟨rfl, rfl⟩
    | [z], _, _ => exact ⟨rfl, rfl⟩
  rw [e.1, e.2, l4]; rfl
theorem leaf_nil {c x : Tx} {t : T} {n : Int} (h3 : c = [] → ∃ n, t = .leaf [] n) (hx : t.find x = some n) : c = [] → x = [] := fun e => by
  obtain ⟨m, rfl⟩ := h3 e
  unfold T.find at hx
  by_cases q : ([] : Tx) = x
  · exact q.symm
  · rw [if_neg q] at hx; cases hx
theorem T.find_fork {s x : Tx} {b : B} {n : Int} (h : (T.fork s b).find x = some n) : ∃ c t m, (c, t) ∈ b.list ∧ t.find m = some n ∧ x = s ++ (x.drop s.length) ∧ c = (x.drop s.length).take 1 ∧ m = (x.drop s.length).drop 1 := by
  unfold T.find at h
  by_cases hp : s <+: x
  · rw [if_pos hp, B.find_look] at h
    cases hl : b.look ((x.drop s.length).take 1) with
    | none => rw [hl] at h; cases h
    | some t =>
      rw [hl] at h
      refine ⟨_, t, _, B.look_mem hl, h, ?_, rfl, rfl⟩
      obtain ⟨r, rfl⟩ := hp
      rw [List.drop_left]
  · rw [if_neg hp] at h; cases h
theorem take_drop1 (l : Tx) : l.take 1 ++ l.drop 1 = l := List.take_append_drop 1 l
/-! one tree alone keeps these -/
theorem T.two_signs {s : Tx} {b : B} (h : (T.fork s b).ok) (y : Tx) (hy : ∀ x n, (T.fork s b).find x = some n → (x.drop s.length).take 1 = y) : False := by
  obtain ⟨h1, h2⟩ := h
  match b, h1, h2, hy with
  | .cons c t (.cons c' t' r), _, ⟨l1, l2, l3, l4, k1, k2, k3, k4, k5⟩, hy =>
    have hb : B.ok (.cons c t (.cons c' t' r)) := ⟨l1, l2, l3, l4, k1, k2, k3, k4, k5⟩
    obtain ⟨x, n, hx⟩ := T.some_name t l2
    obtain ⟨x', n', hx'⟩ := T.some_name t' k2
    have e1 := hy (s ++ (c ++ x)) n (by rw [T.find_at hb List.mem_cons_self (leaf_nil l3 hx)]; exact hx)
    have e2 := hy (s ++ (c' ++ x')) n' (by rw [T.find_at hb (List.mem_cons_of_mem _ List.mem_cons_self) (leaf_nil k3 hx')]; exact hx')
    rw [List.drop_left] at e1 e2
    have t1 : (c ++ x).take 1 = c := by
      match c, l1, leaf_nil l3 hx with
      | [], _, q => rw [q rfl]; rfl
      | [z], _, _ => rfl
    have t2 : (c' ++ x').take 1 = c' := by
      match c', k1, leaf_nil k3 hx' with
      | [], _, q => rw [q rfl]; rfl
      | [z], _, _ => rfl
    rw [t1] at e1; rw [t2] at e2
    exact lt_ne (l4 c' List.mem_cons_self) (e1.trans e2.symm)
  | .cons c t .nil, h1, _, _ => exact absurd h1 (by simp [B.list])
  | .nil, h1, _, _ => exact absurd h1 (by simp [B.list])
theorem fork_pre {s x : Tx} {b : B} {n : Int} (h : (T.fork s b).find x = some n) : s <+: x := by
  obtain ⟨_, _, _, _, _, e, _⟩ := T.find_fork h
  rw [e]; exact List.prefix_append _ _
theorem shared_le {s s' : Tx} {b b' : B} (h : (T.fork s b).ok) (h' : (T.fork s' b').ok) (e : ∀ x, (T.fork s b).find x = (T.fork s' b').find x) (hp : s <+: s') : s = s' := by
  obtain ⟨y, rfl⟩ := hp
  cases y with
  | nil => rw [List.append_nil]
  | cons z r =>
    exfalso
    refine T.two_signs h [z] fun x n hx => ?_
    have hx' : (T.fork (s ++ z :: r) b').find x = some n := by rw [← e]; exact hx
    obtain ⟨q, rfl⟩ := fork_pre hx'
    rw [List.append_assoc, List.drop_left]; rfl
theorem pre_comp : ∀ {a b x : Tx}, a <+: x → b <+: x → a <+: b ∨ b <+: a := fun h1 h2 => List.prefix_or_prefix_of_prefix h1 h2
mutual
theorem T.ext : ∀ (t u : T), t.ok → u.ok → (∀ x, t.find x = u.find x) → t = u
  | .leaf r n, .leaf r' n', _, _, e => by
    have h := e r
    unfold T.find at h
    rw [if_pos rfl] at h
    by_cases q : r' = r
    · rw [if_pos q] at h; injection h with h; rw [q, h]
    · rw [if_neg q] at h; cases h
  | .leaf r n, .fork s b, _, h', e => by
    exfalso
    refine T.two_signs h' ((r.drop s.length).take 1) fun x n hx => ?_
    have h := e x
    rw [hx] at h
    unfold T.find at h
    by_cases q : r = x
    · rw [q]
    · rw [if_neg q] at h; cases h
  | .fork s b, .leaf r n, h, _, e => by
    exfalso
    refine T.two_signs h ((r.drop s.length).take 1) fun x n hx => ?_
    have h2 := e x
    rw [hx] at h2
    by_cases q : r = x
    · rw [q]
    · have : (T.leaf r n).find x = none := by unfold T.find; rw [if_neg q]
      unfold T.find at h2; rw [if_neg q] at h2; cases h2
  | .fork s b, .fork s' b', h, h', e => by
    obtain ⟨x, n, hx⟩ := T.some_name _ h
    have hx' : (T.fork s' b').find x = some n := by rw [← e]; exact hx
    have es : s = s' := by
      rcases pre_comp (fork_pre hx) (fork_pre hx') with q | q
      · exact shared_le h h' e q
      · exact (shared_le h' h (fun x => (e x).symm) q).symm
    subst es
    have eb : ∀ y m, y.length ≤ 1 → (y = [] → m = []) → b.find y m = b'.find y m := fun y m hy hm => by
      have q := e (s ++ (y ++ m))
      unfold T.find at q
      rw [if_pos (List.prefix_append _ _), if_pos (List.prefix_append _ _), List.drop_left] at q
      have t : (y ++ m).take 1 = y ∧ (y ++ m).drop 1 = m := by
        match y, hy, hm with
        | [], _, hm => rw [hm rfl]; exact ⟨rfl, rfl⟩
        | [z], _, _ => exact ⟨rfl, rfl⟩
      rw [t.1, t.2] at q
      exact q
    rw [B.ext b b' h.2 h'.2 eb]
theorem B.ext : ∀ (b b' : B), b.ok → b'.ok → (∀ y m, y.length ≤ 1 → (y = [] → m = []) → b.find y m = b'.find y m) → b = b'
  | .nil, .nil, _, _, _ => rfl
  | .nil, .cons c t r, _, ⟨l1, l2, l3, l4, l5⟩, e => by
    obtain ⟨x, n, hx⟩ := T.some_name t l2
    have q := e c x l1 (leaf_nil l3 hx)
    unfold B.find at q
    rw [if_pos rfl, hx] at q; cases q
  | .cons c t r, .nil, ⟨l1, l2, l3, l4, l5⟩, _, e => by
    obtain ⟨x, n, hx⟩ := T.some_name t l2
    have q := e c x l1 (leaf_nil l3 hx)
    unfold B.find at q
    rw [if_pos rfl, hx] at q; cases q
  | .cons c t r, .cons c' t' r', ⟨l1, l2, l3, l4, l5⟩, ⟨k1, k2, k3, k4, k5⟩, e => by
    obtain ⟨x, n, hx⟩ := T.some_name t l2
    obtain ⟨x', n', hx'⟩ := T.some_name t' k2
    have q := e c x l1 (leaf_nil l3 hx)
    have q' := e c' x' k1 (leaf_nil k3 hx')
    have e1 : B.find (.cons c t r) c x = some n := by unfold B.find; rw [if_pos rfl]; exact hx
    have e2 : B.find (.cons c' t' r') c' x' = some n' := by unfold B.find; rw [if_pos rfl]; exact hx'
    rw [e1] at q; rw [e2] at q'
    have in1 : c ∈ (B.cons c' t' r').signs := by
      by_cases z : c ∈ (B.cons c' t' r').signs
      · exact z
      · have z2 := B.look_none.mpr z
        rw [B.find_look, z2] at q; cases q
    have in2 : c' ∈ (B.cons c t r).signs := by
      by_cases z : c' ∈ (B.cons c t r).signs
      · exact z
      · have z2 := B.look_none.mpr z
        rw [B.find_look, z2] at q'; cases q'
    have ec : c = c' := by
      rcases List.mem_cons.mp in1 with z | z
      · exact z
      rcases List.mem_cons.mp in2 with z2 | z2
      · exact z2.symm
      exact absurd (l4 c' z2) (lt_as (k4 c z))
    subst ec
    have et : t = t' := T.ext t t' l2 k2 fun m => by
      by_cases hc : c = []
      · obtain ⟨n1, rfl⟩ := l3 hc
        obtain ⟨n2, rfl⟩ := k3 hc
        have q3 := e c [] l1 (fun _ => rfl)
        unfold B.find at q3
        rw [if_pos rfl, if_pos rfl] at q3
        unfold T.find at q3 ⊢
        rw [if_pos rfl, if_pos rfl] at q3
        by_cases hm : ([] : Tx) = m
        · rw [if_pos hm, if_pos hm]; exact q3
        · rw [if_neg hm, if_neg hm]
      · have q3 := e c m l1 (fun z => absurd z hc)
        unfold B.find at q3
        rw [if_pos rfl, if_pos rfl] at q3
        exact q3
    subst et
    have er : r = r' := B.ext r r' l5 k5 fun y m hy hm => by
      by_cases hc : c = y
      · have n1 : y ∉ r.signs := fun z => lt_irr _ (by rw [← hc] at z; exact l4 c z)
        have n2 : y ∉ r'.signs := fun z => lt_irr _ (by rw [← hc] at z; exact k4 c z)
        rw [B.find_look, B.find_look, B.look_none.mpr n1, B.look_none.mpr n2]
      · have q3 := e y m hy hm
        unfold B.find at q3
        rw [if_neg hc, if_neg hc] at q3
        exact q3
    rw [er]
end
theorem OT.ext {a b : OT} (ha : OT.ok a) (hb : OT.ok b) (e : ∀ x, OT.find a x = OT.find b x) : a = b := by
  cases a with
  | none =>
    cases b with
    | none => rfl
    | some u =>
      obtain ⟨x, n, hx⟩ := T.some_name u hb
      have q := e x
      have hx' : OT.find (some u) x = some n := hx
      rw [hx'] at q; cases q
  | some t =>
    cases b with
    | none =>
      obtain ⟨x, n, hx⟩ := T.some_name t ha
      have q := e x
      have hx' : OT.find (some t) x = some n := hx
      rw [hx'] at q; cases q
    | some u => rw [T.ext t u ha hb e]
end Rt

namespace Rt
open PySem L2
theorem B.mem_names {s : Tx} : ∀ {b : B} {p : Tx × Int}, p ∈ b.names s ↔ ∃ c t m, (c, t) ∈ b.list ∧ (m, p.2) ∈ t.names ∧ p.1 = s ++ c ++ m
  | .nil, p => ⟨fun h => (by cases h), fun ⟨_, _, _, h, _⟩ => (by cases h)⟩
  | .cons c t r, p => by
    unfold B.names
    rw [List.mem_append, B.mem_names, List.mem_map]
    constructor
    · rintro (⟨q, hq, rfl⟩ | ⟨c', t', m, h1, h2, h3⟩)
      · exact ⟨c, t, q.1, List.mem_cons_self, hq, rfl⟩
      · exact ⟨c', t', m, List.mem_cons_of_mem _ h1, h2, h3⟩
    · rintro ⟨c', t', m, h1, h2, h3⟩
      rcases List.mem_cons.mp h1 with e | h1
      · cases e
        exact .inl ⟨(m, p.2), h2, by rw [← h3]⟩
      · exact .inr ⟨c', t', m, h1, h2, h3⟩
mutual
theorem T.mem_names : ∀ (t : T), t.ok → ∀ (x : Tx) (n : Int), (x, n) ∈ t.names ↔ t.find x = some n
  | .leaf r m, _, x, n => by
    rw [T.find_l]
    unfold T.names
    rw [List.mem_singleton]
    constructor
    · intro h; injection h with h1 h2; rw [if_pos h1.symm, h2]
    · intro h
      by_cases q : r = x
      · rw [if_pos q] at h; injection h with h; rw [q, h]
      · rw [if_neg q] at h; cases h
  | .fork s b, ⟨h1, h2⟩, x, n => by
    unfold T.names
    rw [B.mem_names]
    constructor
    · rintro ⟨c, t, m, q1, q2, q3⟩
      obtain ⟨l1, l2, l3, l4⟩ := B.ok_sub h2 q1
      have hm := (B.mem_sub b h2 c t q1 m n).mp q2
      have q3' : x = s ++ (c ++ m) := by rw [← List.append_assoc]; exact q3
      rw [q3', T.find_at h2 q1 (leaf_nil l3 hm)]
      exact hm
    · intro h
      obtain ⟨c, t, m, q1, q2, q3, q4, q5⟩ := T.find_fork h
      refine ⟨c, t, m, q1, (B.mem_sub b h2 c t q1 m n).mpr q2, ?_⟩
      show x = s ++ c ++ m
      rw [List.append_assoc, q4, q5, take_drop1]
      exact q3
theorem B.mem_sub : ∀ (b : B), b.ok → ∀ (c : Tx) (t : T), (c, t) ∈ b.list → ∀ (x : Tx) (n : Int), (x, n) ∈ t.names ↔ t.find x = some n
  | .nil, _, _, _, h, _, _ => by cases h
  | .cons c t r, ⟨l1, l2, l3, l4, l5⟩, y, u, h, x, n => by
    rcases List.mem_cons.mp h with e | h
    · cases e; exact T.mem_names t l2 x n
    · exact B.mem_sub r l5 y u h x n
end
theorem T.no_mem {t : T} (h : t.ok) {x : Tx} (q : t.find x = none) (n : Int) : (x, n) ∉ t.names := fun z => by
  rw [T.mem_names t h, q] at z; cases z
mutual
theorem T.srt : ∀ (t : T), t.ok → Srt t.names
  | .leaf r n, _ => List.pairwise_singleton _ _
  | .fork s b, h => B.srt s b h.2
theorem B.srt (s : Tx) : ∀ (b : B), b.ok → Srt (b.names s)
  | .nil, _ => List.Pairwise.nil
  | .cons c t r, ⟨l1, l2, l3, l4, l5⟩ => by
    unfold B.names
    refine List.pairwise_append.mpr ⟨?_, B.srt s r l5, ?_⟩
    · refine List.pairwise_map.mpr ((T.srt t l2).imp fun {p q} h => ?_)
      exact (lt_app _).mpr h
    · intro p hp q hq
      obtain ⟨p', hp', rfl⟩ := List.mem_map.mp hp
      obtain ⟨c', t', m', q1, q2, q3⟩ := B.mem_names.mp hq
      obtain ⟨k1, k2, k3, k4⟩ := B.ok_sub l5 q1
      rw [q3]
      show s ++ c ++ p'.1 < s ++ c' ++ m'
      rw [List.append_assoc, List.append_assoc]
      refine (lt_app s).mpr (lt_head l1 k1 (l4 c' (List.mem_map.mpr ⟨_, q1, rfl⟩)) ?_)
      exact leaf_nil l3 ((T.mem_names t l2 p'.1 p'.2).mp hp')
end
theorem OT.mem_names {t : OT} (h : OT.ok t) (x : Tx) (n : Int) : (x, n) ∈ OT.names t ↔ OT.find t x = some n := by
  cases t with
  | none => exact ⟨fun h => (by cases h), fun h => (by cases h)⟩
  | some t => exact T.mem_names t h x n
theorem OT.srt {t : OT} (h : OT.ok t) : Srt (OT.names t) := by
  cases t with
  | none => exact List.Pairwise.nil
  | some t => exact T.srt t h
/-- the tree of rows -/
def Rep (rows : Rows) (t : OT) : Prop := OT.ok t ∧ OT.names t = rows
theorem find_ext {a b : OT} (h : ∀ x n, OT.find a x = some n ↔ OT.find b x = some n) (x : Tx) : OT.find a x = OT.find b x := by
  cases e : OT.find a x with
  | none =>
    cases e2 : OT.find b x with
    | none => rfl
    | some n => rw [(h x n).mpr e2] at e; cases e
  | some n => rw [(h x n).mp e]
theorem Rep.uniq {rows : Rows} {a b : OT} (ha : Rep rows a) (hb : Rep rows b) : a = b :=
  OT.ext ha.1 hb.1 (find_ext fun x n => by rw [← OT.mem_names ha.1, ← OT.mem_names hb.1, ha.2, hb.2])
theorem Rep.of {rows : Rows} {t : OT} (h : OT.ok t) (hs : Srt rows) (hm : ∀ x n, OT.find t x = some n ↔ (x, n) ∈ rows) : Rep rows t :=
  ⟨h, srt_ext (OT.srt h) hs fun p => by rw [← hm p.1 p.2, ← OT.mem_names h]⟩
theorem Rep.find {rows : Rows} {t : OT} (h : Rep rows t) (x : Tx) (n : Int) : OT.find t x = some n ↔ (x, n) ∈ rows := by
  rw [← OT.mem_names h.1, h.2]
theorem Rep.srt {rows : Rows} {t : OT} (h : Rep rows t) : Srt rows := by rw [← h.2]; exact OT.srt h.1
end Rt

namespace Rt
open PySem L2
/-! ### branches in order -/
theorem B.ok_iff : ∀ (b : B), b.ok ↔ (∀ p ∈ b.list, p.1.length ≤ 1 ∧ p.2.ok ∧ (p.1 = [] → ∃ n, p.2 = .leaf [] n)) ∧ b.list.Pairwise (fun p q => p.1 < q.1)
  | .nil => ⟨fun _ => ⟨fun p h => (by cases h), List.Pairwise.nil⟩, fun _ => trivial⟩
  | .cons c t r => by
    have ih := B.ok_iff r
    constructor
    · rintro ⟨l1, l2, l3, l4, l5⟩
      obtain ⟨q1, q2⟩ := ih.mp l5
      refine ⟨fun p hp => ?_, List.pairwise_cons.mpr ⟨fun q hq => l4 q.1 (List.mem_map.mpr ⟨q, hq, rfl⟩), q2⟩⟩
      rcases List.mem_cons.mp hp with e | hp
      · rw [e]; exact ⟨l1, l2, l3⟩
      · exact q1 p hp
    · rintro ⟨q1, q2⟩
      obtain ⟨a1, a2⟩ := List.pairwise_cons.mp q2
      obtain ⟨l1, l2, l3⟩ := q1 (c, t) List.mem_cons_self
      refine ⟨l1, l2, l3, fun y hy => ?_, ih.mpr ⟨fun p hp => q1 p (List.mem_cons_of_mem _ hp), a2⟩⟩
      obtain ⟨q, hq, rfl⟩ := List.mem_map.mp hy
      exact a1 q hq
def lookL : List (Tx × T) → Tx → OT
  | [], _ => none
  | p :: l, y => if p.1 = y then some p.2 else lookL l y
theorem B.look_list : ∀ (b : B) (y : Tx), b.look y = lookL b.list y
  | .nil, _ => rfl
  | .cons c t r, y => by
    unfold B.look B.list lookL
    rw [B.look_list r y]
theorem lookL_app : ∀ (l m : List (Tx × T)) (y : Tx), lookL (l ++ m) y = (lookL l y).or (lookL m y)
  | [], m, y => by cases h : lookL m y <;> simp [lookL, h]
  | p :: l, m, y => by
    show (if p.1 = y then some p.2 else lookL (l ++ m) y) = (if p.1 = y then some p.2 else lookL l y).or (lookL m y)
    by_cases e : p.1 = y
    · rw [if_pos e, if_pos e]; rfl
    · rw [if_neg e, if_neg e]; exact lookL_app l m y
theorem lookL_none : ∀ {l : List (Tx × T)} {y : Tx}, (∀ p ∈ l, p.1 ≠ y) → lookL l y = none
  | [], _, _ => rfl
  | p :: l, y, h => by
    unfold lookL
    rw [if_neg (h p List.mem_cons_self)]
    exact lookL_none fun q hq => h q (List.mem_cons_of_mem _ hq)
theorem lookL_filter : ∀ {l : List (Tx × T)} {y : Tx} {f : Tx × T → Bool}, (∀ p : Tx × T, p.1 = y → f p = true) → lookL (l.filter f) y = lookL l y
  | [], _, _, _ => rfl
  | p :: l, y, f, h => by
    by_cases e : p.1 = y
    · rw [List.filter_cons_of_pos (h p e)]
      unfold lookL
      rw [if_pos e, if_pos e]
    · by_cases q : f p = true
      · rw [List.filter_cons_of_pos q]
        unfold lookL
        rw [if_neg e, if_neg e]
        exact lookL_filter h
      · rw [List.filter_cons_of_neg q, lookL_filter h]
        show _ = lookL (p :: l) y
        unfold lookL
        rw [if_neg e]
        cases l <;> rfl
def optL (y : Tx) : OT → List (Tx × T)
  | none => []
  | some t => [(y, t)]
/-- branches with another tree behind a sign -/
def withB (b : B) (y : Tx) (t : OT) : B := B.of (b.list.filter (fun p => decide (p.1 < y)) ++ optL y t ++ b.list.filter (fun p => decide (y < p.1)))
theorem withB_list (b : B) (y : Tx) (t : OT) : (withB b y t).list = b.list.filter (fun p => decide (p.1 < y)) ++ optL y t ++ b.list.filter (fun p => decide (y < p.1)) := B.list_of _
theorem withB_look (b : B) (y : Tx) (t : OT) (z : Tx) : (withB b y t).look z = if z = y then t else b.look z := by
  rw [B.look_list, withB_list, lookL_app, lookL_app, B.look_list]
  rcases lt_tot z y with h | h | h
  · rw [if_neg (lt_ne h), lookL_filter (fun p e => decide_eq_true (by rw [e]; exact h))]
    have n1 : lookL (optL y t) z = none := lookL_none fun p hp => by
      cases t with
      | none => cases hp
      | some t => rw [List.mem_singleton.mp hp]; exact fun e => lt_ne h e.symm
    have n2 : lookL (b.list.filter (fun p => decide (y < p.1))) z = none := lookL_none fun p hp => by
      have := of_decide_eq_true (List.mem_filter.mp hp).2
      intro e; rw [e] at this; exact lt_as h this
    rw [n1, n2, Option.or_none, Option.or_none]
  · subst h
    rw [if_pos rfl]
    have n1 : lookL (b.list.filter (fun p => decide (p.1 < z))) z = none := lookL_none fun p hp => lt_ne (of_decide_eq_true (List.mem_filter.mp hp).2)
    have n2 : lookL (b.list.filter (fun p => decide (z < p.1))) z = none := lookL_none fun p hp e => lt_ne (of_decide_eq_true (List.mem_filter.mp hp).2) e.symm
    rw [n1, n2, Option.or_none, Option.none_or]
    cases t with
    | none => rfl
    | some t => show (if z = z then some t else none) = some t; rw [if_pos rfl]
  · rw [if_neg (fun e => lt_ne h e.symm)]
    have n1 : lookL (b.list.filter (fun p => decide (p.1 < y))) z = none := lookL_none fun p hp e => by
      have := of_decide_eq_true (List.mem_filter.mp hp).2
      rw [e] at this; exact lt_as h this
    have n2 : lookL (optL y t) z = none := lookL_none fun p hp => by
      cases t with
      | none => cases hp
      | some t => rw [List.mem_singleton.mp hp]; exact lt_ne h
    rw [n1, n2, Option.none_or, Option.none_or, lookL_filter (fun p e => decide_eq_true (by rw [e]; exact h))]
theorem withB_ok {b : B} {y : Tx} {t : OT} (h : b.ok) (hy : y.length ≤ 1) (ht : ∀ u, t = some u → u.ok ∧ (y = [] → ∃ n, u = .leaf [] n)) : (withB b y t).ok := by
  obtain ⟨h1, h2⟩ := (B.ok_iff b).mp h
  rw [B.ok_iff, withB_list]
  constructor
  · intro p hp
    rcases List.mem_append.mp hp with hp | hp
    · rcases List.mem_append.mp hp with hp | hp
      · exact h1 p (List.mem_filter.mp hp).1
      · cases t with
        | none => cases hp
        | some u => rw [List.mem_singleton.mp hp]; exact ⟨hy, ht u rfl⟩
    · exact h1 p (List.mem_filter.mp hp).1
  · have lo : ∀ p ∈ b.list.filter (fun p => decide (p.1 < y)), p.1 < y := fun p hp => of_decide_eq_true (List.mem_filter.mp hp).2
    have hi : ∀ p ∈ b.list.filter (fun p => decide (y < p.1)), y < p.1 := fun p hp => of_decide_eq_true (List.mem_filter.mp hp).2
    have mid : ∀ p ∈ optL y t, p.1 = y := fun p hp => by
      cases t with
      | none => cases hp
      | some u => rw [List.mem_singleton.mp hp]
    refine List.pairwise_append.mpr ⟨List.pairwise_append.mpr ⟨h2.filter _, ?_, fun p hp q hq => by rw [mid q hq]; exact lo p hp⟩, h2.filter _, fun p hp q hq => ?_⟩
    · cases t with
      | none => exact List.Pairwise.nil
      | some u => exact List.pairwise_singleton _ _
    · rcases List.mem_append.mp hp with hp | hp
      · exact lt_tr (lo p hp) (hi q hq)
      · rw [mid p hp]; exact hi q hq
theorem withB_mem {b : B} {y : Tx} {t : OT} {p : Tx × T} : p ∈ (withB b y t).list ↔ (p ∈ b.list ∧ p.1 ≠ y) ∨ (t = some p.2 ∧ p.1 = y) := by
  rw [withB_list, List.mem_append, List.mem_append, List.mem_filter, List.mem_filter, decide_eq_true_eq, decide_eq_true_eq]
  constructor
  · rintro ((⟨h1, h2⟩ | h) | ⟨h1, h2⟩)
    · exact .inl ⟨h1, lt_ne h2⟩
    · cases t with
      | none => cases h
      | some u => rw [List.mem_singleton.mp h]; exact .inr ⟨rfl, rfl⟩
    · exact .inl ⟨h1, fun e => lt_ne h2 e.symm⟩
  · rintro (⟨h1, h2⟩ | ⟨h1, h2⟩)
    · rcases lt_tot p.1 y with q | q | q
      · exact .inl (.inl ⟨h1, q⟩)
      · exact absurd q h2
      · exact .inr ⟨h1, q⟩
    · refine .inl (.inr ?_)
      rw [h1, ← h2]; exact List.mem_singleton.mpr rfl
/-- two unlike signs: two branches -/
theorem two_len {l : List (Tx × T)} {p q : Tx × T} (h1 : p ∈ l) (h2 : q ∈ l) (hne : p.1 ≠ q.1) : 2 ≤ l.length := by
  match l, h1, h2 with
  | [], h1, _ => cases h1
  | [a], h1, h2 => rw [List.mem_singleton.mp h1, List.mem_singleton.mp h2] at hne; exact absurd rfl hne
  | a :: b :: l, _, _ => simp
theorem len_two {l : List (Tx × T)} (h : 2 ≤ l.length) (hs : l.Pairwise (fun p q => p.1 < q.1)) (y : Tx) : ∃ p ∈ l, p.1 ≠ y := by
  match l, h, hs with
  | p :: q :: l, _, hs =>
    by_cases e : p.1 = y
    · refine ⟨q, by simp, fun e2 => ?_⟩
      exact lt_ne ((List.pairwise_cons.mp hs).1 q List.mem_cons_self) (e.trans e2.symm)
    · exact ⟨p, by simp, e⟩
theorem withB_two {b : B} {y : Tx} {u : T} (h : b.ok) (h2 : 2 ≤ b.list.length) : 2 ≤ (withB b y (some u)).list.length := by
  obtain ⟨p, hp, hne⟩ := len_two h2 ((B.ok_iff b).mp h).2 y
  exact two_len (p := p) (q := (y, u)) (withB_mem.mpr (.inl ⟨hp, hne⟩)) (withB_mem.mpr (.inr ⟨rfl, rfl⟩)) hne

/-! ### a tree's own text -/
def T.text : T → Tx
  | .leaf r _ => r
  | .fork s _ => s
/-- another own text -/
def T.re : T → Tx → T
  | .leaf _ n, x => .leaf x n
  | .fork _ b, x => .fork x b
def T.pre (p : Tx) (t : T) : T := t.re (p ++ t.text)
theorem T.re_ok {t : T} (h : t.ok) (x : Tx) : (t.re x).ok := by
  cases t with
  | leaf r n => trivial
  | fork s b => exact h
theorem T.re_text (t : T) (x : Tx) : (t.re x).text = x := by cases t <;> rfl
theorem T.re_re (t : T) (x y : Tx) : (t.re x).re y = t.re y := by cases t <;> rfl
theorem T.re_self (t : T) : t.re t.text = t := by cases t <;> rfl
theorem T.find_pre (p : Tx) (t : T) (x : Tx) : (t.pre p).find x = if p <+: x then t.find (x.drop p.length) else none := by
  cases t with
  | leaf r n =>
    show (T.leaf (p ++ r) n).find x = _
    rw [T.find_l, T.find_l]
    by_cases hp : p <+: x
    · obtain ⟨q, rfl⟩ := hp
      rw [if_pos (List.prefix_append _ _), List.drop_left]
      by_cases e : r = q
      · rw [if_pos e, if_pos (by rw [e])]
      · rw [if_neg e, if_neg (fun z => e (List.append_cancel_left z))]
    · rw [if_neg hp, if_neg (fun z => hp (by rw [← z]; exact List.prefix_append _ _))]
  | fork s b =>
    show (T.fork (p ++ s) b).find x = _
    rw [T.find_f]
    by_cases hp : p <+: x
    · obtain ⟨q, rfl⟩ := hp
      rw [if_pos (List.prefix_append _ _), List.drop_left, T.find_f, List.length_append, ← List.drop_drop, List.drop_left]
      by_cases e : s <+: q
      · rw [if_pos e, if_pos ((List.prefix_append_right_inj p).mpr e)]
      · rw [if_neg e, if_neg (fun z => e ((List.prefix_append_right_inj p).mp z))]
    · rw [if_neg hp, if_neg (fun z => hp ((List.prefix_append p s).trans z))]
theorem T.pre_ok {t : T} (h : t.ok) (p : Tx) : (t.pre p).ok := T.re_ok h _
/-- the tree without the first signs of its text -/
def T.cutT (k : Nat) (t : T) : T := t.re (t.text.drop k)
theorem T.pre_cutT (k : Nat) (t : T) : (t.cutT k).pre (t.text.take k) = t := by
  unfold T.pre T.cutT
  rw [T.re_text, T.re_re, List.take_append_drop, T.re_self]
theorem T.find_cutT {k : Nat} {t : T} (hk : k ≤ t.text.length) (y : Tx) : (t.cutT k).find y = t.find (t.text.take k ++ y) := by
  have h := T.find_pre (t.text.take k) (t.cutT k) (t.text.take k ++ y)
  rw [T.pre_cutT, if_pos (List.prefix_append _ _), List.drop_left] at h
  exact h.symm
theorem T.cutT_ok {t : T} (h : t.ok) (k : Nat) : (t.cutT k).ok := T.re_ok h _
theorem text_pre {t : T} {x : Tx} {n : Int} (h : t.find x = some n) : t.text <+: x := by
  cases t with
  | leaf r m =>
    rw [T.find_l] at h
    by_cases e : r = x
    · rw [← e]; exact List.prefix_refl _
    · rw [if_neg e] at h; cases h
  | fork s b => exact fork_pre h
/-- the one branch that a tree is behind the first signs of its text -/
def behT (k : Nat) (t : T) : Tx × T := ((t.text.drop k).take 1, t.cutT (k + 1))
/-- the branches behind the first signs -/
def brB (k : Nat) (t : T) : B :=
  match t with
  | .fork s b => if s.length = k then b else B.of [behT k (.fork s b)]
  | .leaf r n => B.of [behT k (.leaf r n)]
theorem beh_ok {k : Nat} {t : T} (h : t.ok) (hk : k < t.text.length ∨ (k = t.text.length ∧ ∃ r n, t = .leaf r n)) : (B.of [behT k t]).ok := by
  refine ⟨by show ((t.text.drop k).take 1).length ≤ 1; rw [List.length_take]; omega, T.cutT_ok h _, fun e => ?_, fun y hy => (by cases hy), trivial⟩
  rcases hk with hk | ⟨hk, r, n, rfl⟩
  · have e' : ((t.text.drop k).take 1).length = 0 := by rw [show (t.text.drop k).take 1 = [] from e]; rfl
    rw [List.length_take, List.length_drop] at e'
    omega
  · refine ⟨n, ?_⟩
    show (T.leaf r n).re (r.drop (k + 1)) = .leaf [] n
    rw [List.drop_eq_nil_of_le (by have : k = r.length := hk; omega)]; rfl
theorem find_single {s c : Tx} {t : T} (hc : c.length ≤ 1) (h3 : c = [] → ∃ n, t = .leaf [] n) (x : Tx) : (t.pre (s ++ c)).find x = (T.fork s (B.of [(c, t)])).find x := by
  rw [T.find_pre, T.find_f]
  by_cases hs : s <+: x
  · obtain ⟨q, rfl⟩ := hs
    rw [if_pos (List.prefix_append _ _), List.drop_left, B.find_look]
    show _ = OT.find (if c = q.take 1 then some t else none) (q.drop 1)
    by_cases e : c = q.take 1
    · rw [if_pos e]
      have hp : s ++ c <+: s ++ q := (List.prefix_append_right_inj s).mpr (by rw [e]; exact List.take_prefix _ _)
      rw [if_pos hp, List.length_append, ← List.drop_drop, List.drop_left]
      match c, q, hc, e, h3 with
      | [], [], _, _, _ => rfl
      | [], z :: q, _, e, _ => cases e
      | [z], _ :: _, _, _, _ => rfl
      | [z], [], _, e, _ => cases e
    · rw [if_neg e]
      by_cases hp : s ++ c <+: s ++ q
      · rw [if_pos hp]
        have hp' := (List.prefix_append_right_inj s).mp hp
        match c, hc, e, h3 with
        | [], _, e, h3 =>
          obtain ⟨n, rfl⟩ := h3 rfl
          rw [T.find_l, List.append_nil, List.drop_left]
          rw [if_neg (fun z => e (by rw [← z]; rfl))]; rfl
        | [z], _, e, _ =>
          obtain ⟨r, rfl⟩ := hp'
          exact absurd rfl e
      · rw [if_neg hp]; rfl
  · rw [if_neg hs, if_neg (fun z => hs ((List.prefix_append s c).trans z))]
theorem find_beh {k : Nat} {t : T} (h : t.ok) (hk : k < t.text.length ∨ (k = t.text.length ∧ ∃ r n, t = .leaf r n)) (x : Tx) : (T.fork (t.text.take k) (B.of [behT k t])).find x = t.find x := by
  obtain ⟨l1, l2, l3, _, _⟩ := beh_ok h hk
  have q := find_single (s := t.text.take k) l1 l3 x
  rw [show B.of [behT k t] = B.of [((behT k t).fst, (behT k t).snd)] from rfl, ← q]
  show (T.pre (t.text.take k ++ (t.text.drop k).take 1) (t.cutT (k + 1))).find x = _
  have e : t.text.take k ++ (t.text.drop k).take 1 = t.text.take (k + 1) := by
    rw [List.take_add]
  rw [e, T.pre_cutT]
theorem brB_ok {k : Nat} {t : T} (h : t.ok) (hk : k ≤ t.text.length) : (brB k t).ok := by
  cases t with
  | leaf r n =>
    refine beh_ok h ?_
    have hk' : k ≤ r.length := hk
    by_cases e : k < r.length
    · exact .inl e
    · exact .inr ⟨by show k = r.length; omega, r, n, rfl⟩
  | fork s b =>
    unfold brB
    have hk' : k ≤ s.length := hk
    by_cases e : s.length = k
    · simp only [e, if_true]; exact h.2
    · simp only [e, if_false]; exact beh_ok h (.inl (by show k < s.length; omega))
theorem find_brB {k : Nat} {t : T} (h : t.ok) (hk : k ≤ t.text.length) (x : Tx) : (T.fork (t.text.take k) (brB k t)).find x = t.find x := by
  cases t with
  | leaf r n =>
    refine find_beh h ?_ x
    have hk' : k ≤ r.length := hk
    by_cases e : k < r.length
    · exact .inl e
    · exact .inr ⟨by show k = r.length; omega, r, n, rfl⟩
  | fork s b =>
    unfold brB
    have hk' : k ≤ s.length := hk
    by_cases e : s.length = k
    · simp only [e, if_true]
      show (T.fork (s.take k) b).find x = _
      rw [List.take_of_length_le (by omega)]
    · simp only [e, if_false]
      exact find_beh h (.inl (by show k < s.length; omega)) x
/-- the knot of a text and one branch or more -/
def knotB (s : Tx) (b : B) : T :=
  match b with
  | .cons c t .nil => t.pre (s ++ c)
  | b => .fork s b
theorem knotB_one (s c : Tx) (t : T) : knotB s (.cons c t .nil) = t.pre (s ++ c) := rfl
theorem knotB_two {s : Tx} {b : B} (h : 2 ≤ b.list.length) : knotB s b = .fork s b := by
  match b, h with
  | .nil, h => exact absurd h (by simp [B.list])
  | .cons _ _ .nil, h => exact absurd h (by simp [B.list])
  | .cons _ _ (.cons _ _ _), _ => rfl
theorem knotB_ok {s : Tx} {b : B} (h : b.ok) (h1 : 1 ≤ b.list.length) : (knotB s b).ok := by
  match b, h, h1 with
  | .nil, _, h1 => exact absurd h1 (by simp [B.list])
  | .cons c t .nil, h, _ => exact T.pre_ok h.2.1 _
  | .cons c t (.cons c' t' r), h, _ => exact ⟨by simp [B.list], h⟩
theorem find_knotB {s : Tx} {b : B} (h : b.ok) (h1 : 1 ≤ b.list.length) (x : Tx) : (knotB s b).find x = (T.fork s b).find x := by
  match b, h, h1 with
  | .nil, _, h1 => exact absurd h1 (by simp [B.list])
  | .cons c t .nil, h, _ => exact find_single h.1 h.2.2.1 x
  | .cons c t (.cons c' t' r), h, _ => rfl
theorem T.find_fl (s : Tx) (b : B) (x : Tx) : (T.fork s b).find x = if s <+: x then OT.find (b.look ((x.drop s.length).take 1)) ((x.drop s.length).drop 1) else none := by
  rw [T.find_f, B.find_look]
end Rt

namespace Rt
open PySem L2
mutual
def T.h : T → Nat
  | .leaf r _ => r.length
  | .fork s b => s.length + b.h
def B.h : B → Nat
  | .nil => 0
  | .cons c t r => max (c.length + t.h) r.h
end
def OT.h : OT → Nat
  | none => 0
  | some t => t.h
theorem B.h_mem : ∀ {b : B} {c : Tx} {t : T}, (c, t) ∈ b.list → c.length + t.h ≤ b.h
  | .nil, _, _, h => by cases h
  | .cons c t r, y, u, h => by
    show y.length + u.h ≤ max (c.length + t.h) r.h
    rcases List.mem_cons.mp h with e | h
    · cases e; omega
    · have := B.h_mem h; omega
theorem T.h_sub {s c : Tx} {b : B} {t : T} (h : (T.fork s b).ok) (hc : (c, t) ∈ b.list) : t.h < (T.fork s b).h := by
  have h1 := B.h_mem hc
  obtain ⟨l1, l2, l3, l4⟩ := B.ok_sub h.2 hc
  show t.h < s.length + b.h
  by_cases e : c = []
  · obtain ⟨n, rfl⟩ := l3 e
    obtain ⟨p, hp, hne⟩ := len_two h.1 ((B.ok_iff b).mp h.2).2 c
    have h2 := B.h_mem (c := p.1) (t := p.2) hp
    have : p.1.length ≠ 0 := fun z => hne (by rw [e]; exact List.length_eq_zero_iff.mp z)
    show 0 < _
    omega
  · have : c.length ≠ 0 := fun z => e (List.length_eq_zero_iff.mp z)
    omega
theorem T.text_h (t : T) : t.text.length ≤ t.h := by
  cases t with
  | leaf r n => exact Nat.le_refl _
  | fork s b => exact Nat.le_add_right _ _
theorem B.look_h {s y : Tx} {b : B} {t : T} (h : (T.fork s b).ok) (e : b.look y = some t) : t.h < (T.fork s b).h ∧ t.ok := by
  have m := B.look_mem e
  exact ⟨T.h_sub h m, (B.ok_sub h.2 m).2.1⟩
mutual
theorem T.h_le : ∀ (t : T), t.ok → ∀ (L : Nat), (∀ x n, t.find x = some n → x.length ≤ L) → t.h ≤ L
  | .leaf r n, _, L, h => h r n (by rw [T.find_l, if_pos rfl])
  | .fork s b, hk, L, h => by
    obtain ⟨x, n, hx⟩ := T.some_name _ hk
    have hs : s.length ≤ L := Nat.le_trans (fork_pre hx).length_le (h x n hx)
    show s.length + b.h ≤ L
    have := B.h_le s b hk.2 (L - s.length) fun c t hc x n hx => by
      obtain ⟨l1, l2, l3, l4⟩ := B.ok_sub hk.2 hc
      have := h (s ++ (c ++ x)) n (by rw [T.find_at hk.2 hc (leaf_nil l3 hx)]; exact hx)
      rw [List.length_append, List.length_append] at this
      omega
    omega
theorem B.h_le (s : Tx) : ∀ (b : B), b.ok → ∀ (L : Nat), (∀ c t, (c, t) ∈ b.list → ∀ x n, t.find x = some n → c.length + x.length ≤ L) → b.h ≤ L
  | .nil, _, L, _ => Nat.zero_le _
  | .cons c t r, ⟨l1, l2, l3, l4, l5⟩, L, h => by
    show max (c.length + t.h) r.h ≤ L
    have h1 := B.h_le s r l5 L fun c' t' hc => h c' t' (List.mem_cons_of_mem _ hc)
    obtain ⟨x, n, hx⟩ := T.some_name t l2
    have h2 := h c t List.mem_cons_self x n hx
    have h3 := T.h_le t l2 (L - c.length) fun x n hx => by
      have := h c t List.mem_cons_self x n hx
      omega
    omega
end
theorem OT.h_le {t : OT} (h : OT.ok t) {L : Nat} (hl : ∀ x n, OT.find t x = some n → x.length ≤ L) : OT.h t ≤ L := by
  cases t with
  | none => exact Nat.zero_le _
  | some t => exact T.h_le t h L hl
mutual
theorem T.len_h : ∀ (t : T) (x : Tx) (n : Int), (x, n) ∈ t.names → x.length ≤ t.h
  | .leaf r m, x, n, h => by
    have e : (x, n) = (r, m) := List.mem_singleton.mp h
    injection e with e1 _
    rw [e1]; exact Nat.le_refl _
  | .fork s b, x, n, h => by
    have := B.len_h s b x n h
    show x.length ≤ s.length + b.h
    exact this
theorem B.len_h (s : Tx) : ∀ (b : B) (x : Tx) (n : Int), (x, n) ∈ b.names s → x.length ≤ s.length + b.h
  | .nil, _, _, h => by cases h
  | .cons c t r, x, n, h => by
    show x.length ≤ s.length + max (c.length + t.h) r.h
    unfold B.names at h
    rcases List.mem_append.mp h with h | h
    · obtain ⟨p, hp, e⟩ := List.mem_map.mp h
      have q := T.len_h t p.1 p.2 hp
      injection e with e1 _
      rw [← e1, List.length_append, List.length_append]; omega
    · have := B.len_h s r x n h
      omega
end
theorem B.cnt_mem {s : Tx} : ∀ {b : B} {c : Tx} {t : T}, (c, t) ∈ b.list → t.names.length ≤ (b.names s).length
  | .nil, _, _, h => by cases h
  | .cons c t r, y, u, h => by
    unfold B.names
    rw [List.length_append, List.length_map]
    rcases List.mem_cons.mp h with e | h
    · cases e; omega
    · have := B.cnt_mem (s := s) h; omega
theorem B.cnt_len {s : Tx} : ∀ {b : B}, b.ok → b.list.length ≤ (b.names s).length
  | .nil, _ => Nat.le_refl _
  | .cons c t r, ⟨l1, l2, l3, l4, l5⟩ => by
    unfold B.names
    rw [List.length_append, List.length_map]
    have h1 := B.cnt_len (s := s) l5
    obtain ⟨x, n, hx⟩ := T.some_name t l2
    have h2 : 0 < t.names.length := List.length_pos_of_mem ((T.mem_names t l2 x n).mpr hx)
    show r.list.length + 1 ≤ _
    omega
/-- a tree (or none) that a def of level N takes -/
def OT.hs : OT → Nat
  | none => 0
  | some t => t.h + 1
structure Tb (N : Nat) (t : OT) : Prop where
  ok : OT.ok t
  h : OT.hs t < N
  cnt : (OT.names t).length ≤ 1000
theorem Tb.sub {N : Nat} {s : Tx} {b : B} (h : Tb (N + 1) (some (.fork s b))) (y : Tx) : Tb N (b.look y) := by
  cases e : b.look y with
  | none => exact ⟨trivial, by have h1 : (T.fork s b).h + 1 < N + 1 := h.h; show 0 < N; omega, Nat.zero_le _⟩
  | some t =>
    obtain ⟨h1, h2⟩ := B.look_h (s := s) h.ok e
    refine ⟨h2, ?_, Nat.le_trans (B.cnt_mem (s := s) (B.look_mem e)) h.cnt⟩
    have h3 : (T.fork s b).h + 1 < N + 1 := h.h
    show t.h + 1 < N
    omega
theorem Tb.len {N : Nat} {s : Tx} {b : B} (h : Tb N (some (.fork s b))) : b.list.length ≤ 1000 := Nat.le_trans (B.cnt_len (s := s) h.ok.2) h.cnt
theorem Tb.text {N : Nat} {t : T} (h : Tb N (some t)) : t.text.length < N := by
  have h1 := T.text_h t
  have h2 : t.h + 1 < N := h.h
  omega
theorem Tb.mono {N M : Nat} {t : OT} (h : Tb N t) (l : N ≤ M) : Tb M t := ⟨h.ok, Nat.lt_of_lt_of_le h.h l, h.cnt⟩
theorem Tb.of {N : Nat} {t : OT} (h : OT.ok t) (hl : ∀ x n, OT.find t x = some n → x.length ≤ N) (hc : (OT.names t).length ≤ 1000) : Tb (N + 2) t := by
  refine ⟨h, ?_, hc⟩
  cases t with
  | none => exact Nat.zero_lt_succ _
  | some t =>
    have := OT.h_le h hl
    show t.h + 1 < N + 2
    have e : t.h ≤ N := this
    omega
end Rt

namespace Rt
open PySem L2
/-- the longest common beginning -/
def comL : Tx → Tx → Tx
  | a :: r, b :: s => if a = b then a :: comL r s else []
  | _, _ => []
theorem comL_pre1 : ∀ (a b : Tx), comL a b <+: a
  | [], _ => by unfold comL; exact List.nil_prefix
  | _ :: _, [] => by unfold comL; exact List.nil_prefix
  | x :: r, y :: s => by
    unfold comL
    split
    · exact List.cons_prefix_cons.mpr ⟨rfl, comL_pre1 r s⟩
    · exact List.nil_prefix
theorem comL_len1 (a b : Tx) : (comL a b).length ≤ a.length := (comL_pre1 a b).length_le
theorem comL_take (a b : Tx) : a.take (comL a b).length = comL a b := (List.prefix_iff_eq_take.mp (comL_pre1 a b)).symm
/-- a turn of the walk -/
theorem com_step : ∀ (k : Nat) (a b : Tx), a.take k = b.take k → k ≤ a.length → k ≤ b.length → (k < a.length → k < b.length → a[k]? = b[k]? → k + 1 ≤ (comL a b).length) ∧ k ≤ (comL a b).length ∧ (¬ (k < a.length ∧ k < b.length ∧ a[k]? = b[k]?) → (comL a b).length = k)
  | 0, [], b, _, _, _ => ⟨fun h => absurd h (by simp), Nat.zero_le _, fun _ => by simp [comL]⟩
  | 0, x :: r, [], _, _, _ => ⟨fun _ h => absurd h (by simp), Nat.zero_le _, fun _ => by simp [comL]⟩
  | 0, x :: r, y :: s, _, _, _ => by
    refine ⟨fun _ _ h => ?_, Nat.zero_le _, fun h => ?_⟩
    · simp at h; unfold comL; rw [if_pos h]; simp
    · unfold comL
      rw [if_neg (fun q => h ⟨by simp, by simp, by simp [q]⟩)]; rfl
  | k + 1, [], b, _, h, _ => absurd h (by simp)
  | k + 1, x :: r, [], _, _, h => absurd h (by simp)
  | k + 1, x :: r, y :: s, h, h1, h2 => by
    rw [List.take_succ_cons, List.take_succ_cons] at h
    injection h with e1 e2
    have ih := com_step k r s e2 (by simpa using h1) (by simpa using h2)
    have ec : (comL (x :: r) (y :: s)).length = (comL r s).length + 1 := by
      rw [comL, if_pos e1]; rfl
    rw [ec]
    refine ⟨fun q1 q2 q3 => ?_, by omega, fun q => ?_⟩
    · have := ih.1 (by simpa using q1) (by simpa using q2) (by simpa using q3)
      omega
    · have := ih.2.2 (fun z => q (by simpa using z))
      omega
theorem atI_some {l : Tx} {k : Nat} (h : k < l.length) : atI l (k : Int) = some (l.getD k 0) := by
  rw [atI_nat (List.getElem?_eq_getElem h)]
  rw [List.getD_eq_getElem?_getD, List.getElem?_eq_getElem h]; rfl
theorem getD_eq {a b : Tx} {k : Nat} (h1 : k < a.length) (h2 : k < b.length) : ([a.getD k 0] = [b.getD k 0]) ↔ a[k]? = b[k]? := by
  rw [List.getD_eq_getElem?_getD, List.getD_eq_getElem?_getD, List.getElem?_eq_getElem h1, List.getElem?_eq_getElem h2]
  simp
theorem take_succ_eq {a b : Tx} {k : Nat} (h : a.take k = b.take k) (e : a[k]? = b[k]?) : a.take (k + 1) = b.take (k + 1) := by
  rw [List.take_add_one, List.take_add_one, h, e]
end Rt

namespace Rt
open PySem L2
/-- the signs of names -/
def alpha : Tx := (List.range 95).map (fun k => 32 + k) |>.filter (fun c => c != 37)
theorem alpha_is : tx " !\"#$&'()*+,-./0123456789:;<=>?@ABCDEFGHIJKLMNOPQRSTUVWXYZ[\\]^_`" ++ tx "abcdefghijklmnopqrstuvwxyz{|}~" = alpha := by decide +kernel
theorem alpha_len : alpha.length = 94 := by decide +kernel
def okS (c : Nat) : Prop := 32 ≤ c ∧ c ≤ 126 ∧ c ≠ 37
def okT (l : Tx) : Prop := ∀ c ∈ l, okS c
theorem alpha_ok : okT alpha := by
  intro c hc
  have h := List.mem_filter.mp hc
  obtain ⟨k, hk, rfl⟩ := List.mem_map.mp h.1
  have := List.mem_range.mp hk
  have h2 := h.2
  simp at h2
  exact ⟨by omega, by omega, h2⟩
def signN (i : Int) : Nat := alpha.getD (i % 94).toNat 32
theorem sign_lt (i : Int) : (i % 94).toNat < alpha.length := by rw [alpha_len]; omega
theorem sign_at (i : Int) : atI alpha (i % 94) = some (signN i) := by
  have h := atI_nat (List.getElem?_eq_getElem (sign_lt i))
  rw [show (((i % 94).toNat : Nat) : Int) = i % 94 by omega] at h
  rw [h]
  unfold signN
  rw [List.getD_eq_getElem?_getD, List.getElem?_eq_getElem (sign_lt i)]; rfl
theorem signN_ok (i : Int) : okS (signN i) := by
  unfold signN
  rw [List.getD_eq_getElem?_getD, List.getElem?_eq_getElem (sign_lt i)]
  exact alpha_ok _ (List.getElem_mem _)
def numN (c : Int) : Nat → Int
  | 0 => c
  | k + 1 => (numN c k * 48271 + 11) % 2147483647
def wordL (c : Int) : Nat → Tx
  | 0 => []
  | k + 1 => wordL c k ++ [signN (65 + numN c (k + 1) / 7 % (if c % 2 = 0 then 2 else 94))]
theorem wordL_len (c : Int) : ∀ n, (wordL c n).length = n
  | 0 => rfl
  | n + 1 => by rw [wordL, List.length_append, wordL_len c n]; rfl
theorem okT_nil : okT [] := fun c h => by cases h
theorem okT_app {a b : Tx} (ha : okT a) (hb : okT b) : okT (a ++ b) := fun c h => (List.mem_append.mp h).elim (ha c) (hb c)
theorem okT_take {a : Tx} (n : Nat) (ha : okT a) : okT (a.take n) := fun c h => ha c (List.mem_of_mem_take h)
theorem okT_drop {a : Tx} (n : Nat) (ha : okT a) : okT (a.drop n) := fun c h => ha c (List.mem_of_mem_drop h)
theorem wordL_ok (c : Int) : ∀ n, okT (wordL c n)
  | 0 => okT_nil
  | n + 1 => okT_app (wordL_ok c n) (fun x hx => by rw [List.mem_singleton.mp hx]; exact signN_ok _)
theorem pick2 {i : Int} {a b : D} : atI [a, b] (i % 2) = some (if i % 2 = 0 then a else b) := by
  have h : i % 2 = 0 ∨ i % 2 = 1 := by omega
  rcases h with h | h
  · rw [h]; rfl
  · rw [h]; rfl
end Rt

namespace Rt
open PySem L2
/-- data that the laws' helper tells alike, of depth below n -/
def D.al : Nat → D → Prop
  | _ + 1, .non => True
  | _ + 1, .int _ => True
  | _ + 1, .str l => cpsOk l
  | n + 1, .tup ds => ds.length ≤ 10000 ∧ ∀ d ∈ ds, D.al n d
  | n + 1, .lst ds => ds.length ≤ 10000 ∧ ∀ d ∈ ds, D.al n d
  | _, _ => False
theorem D.al_up : ∀ (n : Nat) (d : D), D.al n d → D.al (n + 1) d
  | 0, _, h => h.elim
  | n + 1, .non, _ => trivial
  | n + 1, .int _, _ => trivial
  | n + 1, .str _, h => h
  | n + 1, .tup ds, h => ⟨h.1, fun d m => D.al_up n d (h.2 d m)⟩
  | n + 1, .lst ds, h => ⟨h.1, fun d m => D.al_up n d (h.2 d m)⟩
  | n + 1, .bl _, h => h.elim
  | n + 1, .raw _, h => h.elim
  | n + 1, .scr _, h => h.elim
theorem D.al_mono {n m : Nat} {d : D} (h : D.al n d) (l : n ≤ m) : D.al m d := by
  obtain ⟨k, rfl⟩ : ∃ k, m = n + k := ⟨m - n, by omega⟩
  clear l
  induction k with
  | zero => exact h
  | succ k ih => exact D.al_up _ _ ih
theorem okT_cps {l : Tx} (h : okT l) : cpsOk l := fun c hc => by have := (h c hc).2.1; omega
theorem tLeaf_cps : cpsOk tLeaf := by unfold cpsOk; decide +kernel
theorem tFork_cps : cpsOk tFork := by unfold cpsOk; decide +kernel
theorem okT_of_app {a b : Tx} (h : okT (a ++ b)) : okT a ∧ okT b := ⟨fun c hc => h c (List.mem_append_left _ hc), fun c hc => h c (List.mem_append_right _ hc)⟩
/-- the parts of a knot whose names are of the signs -/
theorem fork_okT {s : Tx} {b : B} (h : (T.fork s b).ok) (hk : ∀ p ∈ b.names s, okT p.1) : okT s ∧ ∀ q ∈ b.list, okT q.1 ∧ ∀ p ∈ q.2.names, okT p.1 := by
  have all : ∀ q ∈ b.list, okT s ∧ okT q.1 ∧ ∀ p ∈ q.2.names, okT p.1 := fun q hq => by
    have k : ∀ p ∈ q.2.names, okT (s ++ q.1 ++ p.1) := fun p hp => hk (s ++ q.1 ++ p.1, p.2) (B.mem_names.mpr ⟨q.1, q.2, p.1, hq, hp, rfl⟩)
    obtain ⟨x, n, hx⟩ := T.some_name q.2 (B.ok_sub (y := q.1) (t := q.2) h.2 hq).2.1
    have m := k (x, n) ((T.mem_names q.2 (B.ok_sub (y := q.1) (t := q.2) h.2 hq).2.1 x n).mpr hx)
    exact ⟨(okT_of_app (okT_of_app m).1).1, (okT_of_app (okT_of_app m).1).2, fun p hp => (okT_of_app (k p hp)).2⟩
  refine ⟨?_, fun q hq => (all q hq).2⟩
  have l2 : 2 ≤ b.list.length := h.1
  cases e : b.list with
  | nil => rw [e] at l2; exact absurd l2 (by simp)
  | cons q r => exact (all q (by rw [e]; exact List.mem_cons_self)).1
theorem T.al : ∀ (n : Nat) (t : T), t.h ≤ n → t.ok → (∀ p ∈ t.names, okT p.1) → t.names.length ≤ 10000 → D.al (3 * n + 2) t.d
  | n, .leaf r m, _, _, hk, _ => by
    refine ⟨by show 3 ≤ 10000; decide, fun d hd => ?_⟩
    show D.al (3 * n + 1) d
    rcases List.mem_cons.mp hd with rfl | hd
    · exact tLeaf_cps
    · rcases List.mem_cons.mp hd with rfl | hd
      · exact okT_cps (hk (r, m) List.mem_cons_self)
      · rcases List.mem_cons.mp hd with rfl | hd
        · trivial
        · cases hd
  | 0, .fork s b, hn, ok, _, _ => by
    have l2 : 2 ≤ b.list.length := ok.1
    cases e : b.list with
    | nil => rw [e] at l2; exact absurd l2 (by simp)
    | cons q r =>
      have := T.h_sub ok (c := q.1) (t := q.2) (by rw [e]; exact List.mem_cons_self)
      omega
  | n + 1, .fork s b, hn, ok, hk, hc => by
    obtain ⟨k1, k2⟩ := fork_okT ok hk
    have hc' : (b.names s).length ≤ 10000 := hc
    have l1 := B.cnt_len (s := s) ok.2
    have e : 3 * (n + 1) + 2 = 3 * n + 2 + 1 + 1 + 1 := by omega
    rw [e]
    refine ⟨by show 3 ≤ 10000; decide, fun d hd => ?_⟩
    rcases List.mem_cons.mp hd with rfl | hd
    · exact tFork_cps
    · rcases List.mem_cons.mp hd with rfl | hd
      · exact okT_cps k1
      · rcases List.mem_cons.mp hd with rfl | hd
        · rw [B.d_list]
          refine ⟨by rw [List.length_map]; omega, fun d hd => ?_⟩
          obtain ⟨q, hq, rfl⟩ := List.mem_map.mp hd
          obtain ⟨o1, o2⟩ := k2 q hq
          have hs := T.h_sub ok (c := q.1) (t := q.2) hq
          have hcc := B.cnt_mem (s := s) (c := q.1) (t := q.2) hq
          refine ⟨by show 2 ≤ 10000; decide, fun d hd => ?_⟩
          rcases List.mem_cons.mp hd with rfl | hd
          · exact okT_cps o1
          · rcases List.mem_cons.mp hd with rfl | hd
            · exact T.al n q.2 (by omega) (B.ok_sub (y := q.1) (t := q.2) ok.2 hq).2.1 o2 (by omega)
            · cases hd
        · cases hd
theorem OT.al {N : Nat} {t : OT} (tb : Tb N t) (hk : ∀ p ∈ OT.names t, okT p.1) : D.al (3 * N + 2) (OT.d t) := by
  cases t with
  | none => trivial
  | some t =>
    have h : t.h + 1 < N := tb.h
    exact T.al N t (by omega) tb.ok hk (Nat.le_trans tb.cnt (by decide))
theorem rows_al {rows : Rows} (h : ∀ p ∈ rows, okT p.1) (hc : rows.length ≤ 10000) : D.al 3 (.lst (rows.map rowD)) := by
  refine ⟨by rw [List.length_map]; exact hc, fun d m => ?_⟩
  obtain ⟨p, hp, rfl⟩ := List.mem_map.mp m
  refine ⟨by show 2 ≤ 10000; decide, fun e he => ?_⟩
  rcases List.mem_cons.mp he with rfl | he
  · exact okT_cps (h p hp)
  · rcases List.mem_cons.mp he with rfl | he
    · trivial
    · cases he
def Ralike (N : Nat) : List D → D → Prop := fun ds r => ∃ d, ds = [d, d] ∧ D.al N d ∧ r = .bl true
theorem Ralike.of {N M : Nat} {d : D} (h : D.al N d) (l : N ≤ M) : Ralike M [d, d] (.bl true) := ⟨d, rfl, D.al_mono h l, rfl⟩
end Rt

namespace Rt
open PySem L2
def digN (c : Int) : Nat → Int
  | 0 => 0
  | k + 1 => digN c k * 10 + numN c (k + 1) / 7 % 10
def sizeN (c : Int) : Int := if c % 5 = 0 then 60 else 1 + c / 10 % 60
def numberL (c : Int) : Int := if 1 < c % 5 then c / 5 % 39 - 19 else (if c / 5 % 2 = 0 then 1 else -1) * digN c (sizeN c).toNat
theorem sizeN_b (c : Int) : 0 ≤ sizeN c ∧ sizeN c ≤ 60 := by
  unfold sizeN; split <;> omega
theorem digN_b (c : Int) : ∀ k, 0 ≤ digN c k ∧ digN c k < 10 ^ k
  | 0 => ⟨Int.le_refl _, by show (0 : Int) < 10 ^ 0; decide⟩
  | k + 1 => by
    have h := digN_b c k
    have e : (10 : Int) ^ (k + 1) = 10 ^ k * 10 := Int.pow_succ _ _
    rw [e, digN]
    omega
def big : Int := 10 ^ 60
theorem pow10_le (k : Nat) : ∀ d : Nat, (10 : Int) ^ k ≤ 10 ^ (k + d) ∧ (0 : Int) < 10 ^ (k + d)
  | 0 => ⟨Int.le_refl _, Int.pow_pos (by decide)⟩
  | d + 1 => by
    have h := pow10_le k d
    have e : (10 : Int) ^ (k + (d + 1)) = 10 ^ (k + d) * 10 := Int.pow_succ _ _
    rw [e]; omega
theorem numberL_b (c : Int) : - big < numberL c ∧ numberL c < big := by
  unfold numberL
  have hb : (19 : Int) < big := by decide +kernel
  split
  · omega
  · have h := digN_b c (sizeN c).toNat
    have h2 := sizeN_b c
    have h3 : (10 : Int) ^ (sizeN c).toNat ≤ big := by
      have := (pow10_le (sizeN c).toNat (60 - (sizeN c).toNat)).1
      rw [show (sizeN c).toNat + (60 - (sizeN c).toNat) = 60 by omega] at this
      exact this
    split <;> omega
def countL (c : Int) : Int := if c / 9 % 6 = 1 then c / 54 % 151 else c % 9
theorem countL_b (c : Int) : 0 ≤ countL c ∧ countL c ≤ 150 := by
  unfold countL; split <;> omega
/-! the plain sort by name -/
def insR (p : Tx × Int) : Rows → Rows
  | [] => [p]
  | q :: r => if p.1 < q.1 then p :: q :: r else q :: insR p r
def srtR : Rows → Rows
  | [] => []
  | p :: r => insR p (srtR r)
theorem insR_perm (p : Tx × Int) : ∀ l, (insR p l).Perm (p :: l)
  | [] => .refl _
  | q :: r => by
    unfold insR
    split
    · exact .refl _
    · exact ((insR_perm p r).cons q).trans (.swap p q r)
theorem srtR_perm : ∀ l, (srtR l).Perm l
  | [] => .refl _
  | p :: r => (insR_perm p _).trans ((srtR_perm r).cons p)
theorem insR_srt {p : Tx × Int} : ∀ {l : Rows}, Srt l → (∀ q ∈ l, p.1 ≠ q.1) → Srt (insR p l)
  | [], _, _ => List.pairwise_singleton _ _
  | q :: r, h, hn => by
    have h' := List.pairwise_cons.mp h
    unfold insR
    by_cases c : p.1 < q.1
    · rw [if_pos c]
      refine List.pairwise_cons.mpr ⟨fun z hz => ?_, h⟩
      rcases List.mem_cons.mp hz with rfl | hz
      · exact c
      · exact lt_tr c (h'.1 z hz)
    · rw [if_neg c]
      refine List.pairwise_cons.mpr ⟨fun z hz => ?_, insR_srt h'.2 fun z hz => hn z (List.mem_cons_of_mem _ hz)⟩
      rcases List.mem_cons.mp ((insR_perm p r).mem_iff.mp hz) with rfl | hz
      · rcases lt_tot z.1 q.1 with q1 | q1 | q1
        · exact absurd q1 c
        · exact absurd q1 (hn q List.mem_cons_self)
        · exact q1
      · exact h'.1 z hz
def Dis (l : Rows) : Prop := l.Pairwise fun p q => p.1 ≠ q.1
theorem srtR_srt : ∀ {l : Rows}, Dis l → Srt (srtR l)
  | [], _ => .nil
  | p :: r, h => by
    have h' := List.pairwise_cons.mp h
    exact insR_srt (srtR_srt h'.2) fun q hq => h'.1 q ((srtR_perm r).mem_iff.mp hq)
theorem Srt.dis {l : Rows} (h : Srt l) : Dis l := h.imp fun h => lt_ne h
theorem dis_filter {l : Rows} (h : Dis l) (f : Tx × Int → Bool) : Dis (l.filter f) := List.Pairwise.filter f h
/-- a list of rows by other ways that has the same rows in order is the sorted one -/
theorem srtR_is {l m : Rows} (h : Dis l) (hm : Srt m) (e : ∀ p, p ∈ l ↔ p ∈ m) : srtR l = m :=
  srt_ext (srtR_srt h) hm fun p => by rw [(srtR_perm l).mem_iff]; exact e p
/-! the rows of a law -/
def oldN (rows : Rows) (i : Int) : Tx := (rows.getD (i % (rows.length : Int)).toNat ([], 0)).1
def cellN (ns : List Int) (f : Int) (k : Nat) : Int := ns.getD (f + (k : Int)).toNat 0 + 104729 * (k : Int)
def sizeR (c : Int) : Int := if c / 24 % 9 = 8 then 40 else c / 4 % 6
def wordR (rows : Rows) (c : Int) : Tx :=
  if 1 < c % 4 ∧ rows ≠ [] then (oldN rows (c / 216)).take (if c % 2 = 0 then (oldN rows (c / 216)).length else (oldN rows (c / 216)).length / 2) ++ wordL (c / 216) (sizeR c).toNat else wordL (c / 216) (sizeR c).toNat
def stepR (ns : List Int) (f : Int) : Nat → Rows
  | 0 => []
  | k + 1 => (stepR ns f k).filter (fun p => !decide (p.1 = (wordR (stepR ns f k) (cellN ns f k)).take 40)) ++ [((wordR (stepR ns f k) (cellN ns f k)).take 40, numberL (cellN ns f k))]
def pairR (m : Int) (k : Nat) : Tx := [signN (7 * ((k : Int) / 12) + m)] ++ [signN (5 * ((k : Int) % 12) + m)]
def row8 (m : Int) (k : Nat) : Tx × Int := ((wordL m 40).take k, numberL (m + (k : Int)))
def row7 (m : Int) (k : Nat) : Tx × Int := (wordL m (m % 6).toNat ++ pairR m k, numberL (m + (k : Int)))
def row6 (m : Int) (k : Nat) : Tx × Int := (wordL m (m % 6).toNat ++ [signN (7 * (k : Int) + m)], numberL (m + (k : Int)))
def rowsL (ns : List Int) (f count : Int) : Rows :=
  let c := ns.getD f.toNat 0
  if c % 9 = 8 then (List.range (min count.toNat 41)).map (row8 (c / 9))
  else if c % 9 = 7 then srtR ((List.range count.toNat).map (row7 (c / 9)))
  else if c % 9 = 6 then srtR ((List.range (min count.toNat 94)).map (row6 (c / 9)))
  else srtR (stepR ns f (min count.toNat 60))
structure Good (l : Rows) : Prop where
  srt : Srt l
  ok : ∀ p ∈ l, okT p.1
  len : ∀ p ∈ l, p.1.length ≤ 40
  cnt : l.length ≤ 150
  num : ∀ p ∈ l, - big < p.2 ∧ p.2 < big
theorem alpha_nodup : alpha.Nodup := by decide +kernel
theorem signN_inj {i j : Int} (h : signN i = signN j) : i % 94 = j % 94 := by
  unfold signN at h
  rw [List.getD_eq_getElem?_getD, List.getD_eq_getElem?_getD, List.getElem?_eq_getElem (sign_lt i), List.getElem?_eq_getElem (sign_lt j)] at h
  have := (List.getElem_inj alpha_nodup).mp (show alpha[(i % 94).toNat]'(sign_lt i) = alpha[(j % 94).toNat]'(sign_lt j) from h)
  omega
theorem pw_range {α : Type} {R : α → α → Prop} {f : Nat → α} {n : Nat} (h : ∀ i j, i < j → j < n → R (f i) (f j)) : ((List.range n).map f).Pairwise R := by
  rw [List.pairwise_map]
  exact (List.pairwise_lt_range (n := n)).imp_of_mem fun {a b} ha hb hab => h a b hab (List.mem_range.mp hb)
theorem take_lt {a : Tx} {i j : Nat} (h : i < j) (hj : j ≤ a.length) : a.take i < a.take j := by
  have e : a.take j = a.take i ++ (a.drop i).take (j - i) := by
    rw [← List.take_append_drop i (a.take j), List.take_take, Nat.min_eq_left (by omega), List.drop_take]
  rw [e]
  have h2 : (a.drop i).take (j - i) ≠ [] := fun z => by
    have := congrArg List.length z
    rw [List.length_take, List.length_drop] at this
    simp at this
    omega
  have h3 := (lt_app (a.take i) (a := []) (b := (a.drop i).take (j - i))).mpr (by
    cases q : (a.drop i).take (j - i) with
    | nil => exact absurd q h2
    | cons x r => exact List.nil_lt_cons _ _)
  rw [List.append_nil] at h3
  exact h3
theorem Good.sorted {l : Rows} (d : Dis l) (h1 : ∀ p ∈ l, okT p.1 ∧ p.1.length ≤ 40 ∧ - big < p.2 ∧ p.2 < big) (h2 : l.length ≤ 150) : Good (srtR l) :=
  ⟨srtR_srt d, fun p m => (h1 p ((srtR_perm l).mem_iff.mp m)).1, fun p m => (h1 p ((srtR_perm l).mem_iff.mp m)).2.1, by rw [(srtR_perm l).length_eq]; exact h2, fun p m => (h1 p ((srtR_perm l).mem_iff.mp m)).2.2⟩
theorem oldN_mem {rows : Rows} {i : Int} (h : rows ≠ []) : ∃ p ∈ rows, oldN rows i = p.1 := by
  have hl : 0 < rows.length := List.length_pos_iff.mpr h
  have h2 : (i % (rows.length : Int)).toNat < rows.length := by
    have := Int.emod_lt_of_pos i (show (0 : Int) < rows.length by omega)
    have := Int.emod_nonneg i (show (rows.length : Int) ≠ 0 by omega)
    omega
  refine ⟨rows[(i % (rows.length : Int)).toNat], List.getElem_mem _, ?_⟩
  unfold oldN
  rw [List.getD_eq_getElem?_getD, List.getElem?_eq_getElem h2]; rfl
theorem oldN_at {rows : Rows} {i : Int} (h : rows ≠ []) : rows[(i % (rows.length : Int)).toNat]? = some (oldN rows i, (rows.getD (i % (rows.length : Int)).toNat ([], 0)).2) := by
  have hl : 0 < rows.length := List.length_pos_iff.mpr h
  have h2 : (i % (rows.length : Int)).toNat < rows.length := by
    have := Int.emod_lt_of_pos i (show (0 : Int) < rows.length by omega)
    have := Int.emod_nonneg i (show (rows.length : Int) ≠ 0 by omega)
    omega
  unfold oldN
  rw [List.getD_eq_getElem?_getD, List.getElem?_eq_getElem h2]; rfl
theorem stepR_good (ns : List Int) (f : Int) : ∀ k, Dis (stepR ns f k) ∧ (∀ p ∈ stepR ns f k, okT p.1 ∧ p.1.length ≤ 40 ∧ - big < p.2 ∧ p.2 < big) ∧ (stepR ns f k).length ≤ k
  | 0 => ⟨.nil, fun p m => (by cases m), Nat.le_refl _⟩
  | k + 1 => by
    obtain ⟨h1, h2, h3⟩ := stepR_good ns f k
    rw [stepR]
    refine ⟨?_, fun p m => ?_, ?_⟩
    · refine List.pairwise_append.mpr ⟨dis_filter h1 _, List.pairwise_singleton _ _, fun p hp q hq => ?_⟩
      rw [List.mem_singleton.mp hq]
      have := (List.mem_filter.mp hp).2
      intro e
      rw [decide_eq_true e] at this
      cases this
    · rcases List.mem_append.mp m with m | m
      · exact h2 p (List.mem_filter.mp m).1
      · rw [List.mem_singleton.mp m]
        refine ⟨okT_take _ ?_, by rw [List.length_take]; omega, numberL_b _⟩
        unfold wordR
        split
        · rename_i z
          obtain ⟨p, hp, e⟩ := oldN_mem (i := cellN ns f k / 216) z.2
          refine okT_app (okT_take _ ?_) (wordL_ok _ _)
          rw [e]; exact (h2 p hp).1
        · exact wordL_ok _ _
    · rw [List.length_append]
      have := List.length_filter_le (fun p => !decide (p.1 = (wordR (stepR ns f k) (cellN ns f k)).take 40)) (stepR ns f k)
      show _ + 1 ≤ _
      omega
theorem stepR_old {ns : List Int} {f : Int} {k : Nat} {c : Int} (h : stepR ns f k ≠ []) : (oldN (stepR ns f k) c).length ≤ 40 := by
  obtain ⟨p, hp, e⟩ := oldN_mem (i := c) h
  rw [e]; exact ((stepR_good ns f k).2.1 p hp).2.1
theorem sign1_ok (i : Int) : okT [signN i] := fun x hx => by rw [List.mem_singleton.mp hx]; exact signN_ok _
theorem row7_dis (m : Int) (n : Nat) (h : n ≤ 150) : Dis ((List.range n).map (row7 m)) := pw_range fun i j hij hj e => by
  have e1 : pairR m i = pairR m j := List.append_cancel_left e
  unfold pairR at e1
  injection e1 with a b
  injection b with b _
  have := signN_inj a
  have := signN_inj b
  omega
theorem row6_dis (m : Int) (n : Nat) (h : n ≤ 94) : Dis ((List.range n).map (row6 m)) := pw_range fun i j hij hj e => by
  have e1 := List.append_cancel_left e
  injection e1 with a _
  have := signN_inj a
  omega
theorem row7_ok (m : Int) (n : Nat) (p : Tx × Int) (h : p ∈ (List.range n).map (row7 m)) : okT p.1 ∧ p.1.length ≤ 40 ∧ - big < p.2 ∧ p.2 < big := by
  obtain ⟨k, _, rfl⟩ := List.mem_map.mp h
  refine ⟨okT_app (wordL_ok _ _) (okT_app (sign1_ok _) (sign1_ok _)), ?_, numberL_b _⟩
  show (wordL m _ ++ pairR m k).length ≤ 40
  rw [List.length_append, wordL_len]
  show _ + 2 ≤ 40
  omega
theorem row6_ok (m : Int) (n : Nat) (p : Tx × Int) (h : p ∈ (List.range n).map (row6 m)) : okT p.1 ∧ p.1.length ≤ 40 ∧ - big < p.2 ∧ p.2 < big := by
  obtain ⟨k, _, rfl⟩ := List.mem_map.mp h
  refine ⟨okT_app (wordL_ok _ _) (sign1_ok _), ?_, numberL_b _⟩
  show (wordL m _ ++ [_]).length ≤ 40
  rw [List.length_append, wordL_len]
  show _ + 1 ≤ 40
  omega
theorem rowsL_good (ns : List Int) (f count : Int) (h : count ≤ 150) : Good (rowsL ns f count) := by
  unfold rowsL
  simp only
  split
  · refine ⟨pw_range fun i j hij hj => take_lt hij (by rw [wordL_len]; omega), fun p m => ?_, fun p m => ?_, by rw [List.length_map, List.length_range]; omega, fun p m => ?_⟩ <;> obtain ⟨k, _, rfl⟩ := List.mem_map.mp m
    · exact okT_take _ (wordL_ok _ _)
    · show ((wordL _ 40).take k).length ≤ 40
      rw [List.length_take, wordL_len]; omega
    · exact numberL_b _
  · split
    · exact Good.sorted (row7_dis _ _ (by omega)) (row7_ok _ _) (by rw [List.length_map, List.length_range]; omega)
    · split
      · exact Good.sorted (row6_dis _ _ (by omega)) (row6_ok _ _) (by rw [List.length_map, List.length_range]; omega)
      · have q := stepR_good ns f (min count.toNat 60)
        exact Good.sorted q.1 q.2.1 (by omega)
def nameL (c : Int) (rows : Rows) : Tx :=
  if c % 4 = 0 ∨ rows = [] then wordL (c / 28) (c / 4 % 7).toNat
  else if c % 4 = 1 then oldN rows (c / 28)
  else if c % 4 = 2 then (oldN rows (c / 28) ++ wordL (c / 28) (c / 4 % 7).toNat).take 40
  else (oldN rows (c / 28)).take (c * 48271 % 2147483647 % ((oldN rows (c / 28)).length + 1 : Int)).toNat
theorem nameL_ok {rows : Rows} (h : Good rows) (c : Int) : okT (nameL c rows) ∧ (nameL c rows).length ≤ 40 := by
  unfold nameL
  split
  · refine ⟨wordL_ok _ _, ?_⟩
    rw [wordL_len]; omega
  · rename_i z
    obtain ⟨p, hp, e⟩ := oldN_mem (i := c / 28) (fun q => z (.inr q))
    have h1 := h.ok p hp
    have h2 := h.len p hp
    rw [← e] at h1 h2
    split
    · exact ⟨h1, h2⟩
    · split
      · exact ⟨okT_take _ (okT_app h1 (wordL_ok _ _)), by rw [List.length_take]; omega⟩
      · exact ⟨okT_take _ h1, by rw [List.length_take]; omega⟩
end Rt

namespace Rt
open PySem L2
theorem comL_comm : ∀ (a b : Tx), comL a b = comL b a
  | [], [] => rfl
  | [], _ :: _ => rfl
  | _ :: _, [] => rfl
  | x :: r, y :: s => by
    unfold comL
    by_cases h : x = y
    · rw [if_pos h, if_pos h.symm, comL_comm r s, h]
    · rw [if_neg h, if_neg (fun q => h q.symm)]
theorem comL_pre2 (a b : Tx) : comL a b <+: b := by rw [comL_comm]; exact comL_pre1 b a
theorem comL_len2 (a b : Tx) : (comL a b).length ≤ b.length := (comL_pre2 a b).length_le
theorem comL_full : ∀ (a b : Tx), (comL a b).length = b.length → b <+: a := fun a b h => by
  have h1 := comL_pre2 a b
  have e : comL a b = b := h1.eq_of_length h
  rw [← e]; exact comL_pre1 a b
theorem comL_of_pre : ∀ {a b : Tx}, b <+: a → comL a b = b
  | [], [], _ => rfl
  | _ :: _, [], _ => rfl
  | [], y :: s, h => by simp at h
  | x :: r, y :: s, h => by
    obtain ⟨h1, h2⟩ := List.cons_prefix_cons.mp h
    unfold comL
    rw [if_pos h1.symm, comL_of_pre h2, h1]
end Rt

namespace Rt
open PySem L2
theorem two_find {s : Tx} {p q : Tx × T} (hne : p.1 ≠ q.1) (y : Tx) : (T.fork s (B.of [p, q])).find y = ((T.fork s (B.of [p])).find y).or ((T.fork s (B.of [q])).find y) := by
  rw [T.find_fl, T.find_fl, T.find_fl]
  by_cases h : s <+: y
  · rw [if_pos h, if_pos h, if_pos h]
    generalize (y.drop s.length).take 1 = z
    generalize (y.drop s.length).drop 1 = m
    show OT.find (if p.1 = z then some p.2 else if q.1 = z then some q.2 else none) m = (OT.find (if p.1 = z then some p.2 else none) m).or (OT.find (if q.1 = z then some q.2 else none) m)
    by_cases e : p.1 = z
    · have e2 : ¬ q.1 = z := fun z2 => hne (e.trans z2.symm)
      rw [if_pos e, if_pos e, if_neg e2]
      show _ = Option.or _ none
      rw [Option.or_none]
    · rw [if_neg e, if_neg e]
      show _ = Option.or none _
      rw [Option.none_or]
  · rw [if_neg h, if_neg h, if_neg h]; rfl
theorem two_ok {s : Tx} {p q : Tx × T} (h1 : (B.of [p]).ok) (h2 : (B.of [q]).ok) (h : p.1 < q.1) : (T.fork s (B.of [p, q])).ok := by
  obtain ⟨a1, a2, a3, _, _⟩ := h1
  exact ⟨by show 2 ≤ 2; decide, a1, a2, a3, fun y hy => by rw [List.mem_singleton.mp hy]; exact h, h2⟩
theorem not_pre_of_short {a x : Tx} (h : (comL a x).length < a.length) : ¬ a <+: x := fun hp => by
  rw [comL_comm, comL_of_pre hp] at h; omega
/-- where a knot parts -/
structure Parts (t : T) (x : Tx) : Prop where
  or : (comL t.text x).length < t.text.length ∨ ((∃ r n, t = .leaf r n) ∧ t.text ≠ x)
theorem Parts.none {t : T} {x : Tx} (p : Parts t x) : t.find x = none := by
  rcases p.or with h | ⟨⟨r, n, rfl⟩, h⟩
  · cases e : t.find x with
    | none => rfl
    | some n => exact absurd (text_pre e) (not_pre_of_short h)
  · rw [T.find_l, if_neg (show ¬ r = x from h)]
theorem Parts.beh {t : T} {x : Tx} (p : Parts t x) : (comL t.text x).length < t.text.length ∨ ((comL t.text x).length = t.text.length ∧ ∃ r n, t = .leaf r n) := by
  have := comL_len1 t.text x
  rcases p.or with h | ⟨h, _⟩
  · exact .inl h
  · by_cases e : (comL t.text x).length < t.text.length
    · exact .inl e
    · exact .inr ⟨by omega, h⟩
theorem leaf_beh (x : Tx) (n : Int) {k : Nat} (hk : k ≤ x.length) : k < (T.leaf x n).text.length ∨ (k = (T.leaf x n).text.length ∧ ∃ r m, T.leaf x n = .leaf r m) := by
  by_cases e : k < x.length
  · exact .inl e
  · exact .inr ⟨by show k = x.length; omega, x, n, rfl⟩
theorem com_next : ∀ (a b : Tx), (comL a b).length < a.length → (comL a b).length < b.length → a[(comL a b).length]? ≠ b[(comL a b).length]?
  | [], _, h, _ => absurd h (by simp)
  | _ :: _, [], _, h => absurd h (by simp)
  | x :: r, y :: s, h1, h2 => by
    by_cases e : x = y
    · have ec : comL (x :: r) (y :: s) = x :: comL r s := by rw [comL, if_pos e]
      rw [ec] at h1 h2 ⊢
      rw [List.length_cons] at h1 h2 ⊢
      rw [List.getElem?_cons_succ, List.getElem?_cons_succ]
      exact com_next r s (by simpa using h1) (by simpa using h2)
    · have ec : comL (x :: r) (y :: s) = [] := by rw [comL, if_neg e]
      rw [ec]
      intro z
      exact e (Option.some.inj z)
theorem drop_head {a : Tx} {k : Nat} (h : k < a.length) : (a.drop k).take 1 = [a[k]] := by
  rw [List.drop_eq_getElem_cons h]; rfl
theorem Parts.signs {t : T} {x : Tx} (n : Int) (p : Parts t x) : (behT (comL t.text x).length t).1 ≠ (behT (comL t.text x).length (.leaf x n)).1 := by
  show (t.text.drop _).take 1 ≠ (x.drop _).take 1
  have l1 := comL_len1 t.text x
  have l2 := comL_len2 t.text x
  by_cases e1 : (comL t.text x).length < t.text.length
  · by_cases e2 : (comL t.text x).length < x.length
    · have h := com_next t.text x e1 e2
      rw [drop_head e1, drop_head e2]
      intro z
      injection z with z
      rw [List.getElem?_eq_getElem e1, List.getElem?_eq_getElem e2, z] at h
      exact h rfl
    · rw [drop_head e1, List.drop_eq_nil_of_le (by omega : x.length ≤ (comL t.text x).length)]
      intro z; cases z
  · by_cases e2 : (comL t.text x).length < x.length
    · rw [drop_head e2, List.drop_eq_nil_of_le (by omega : t.text.length ≤ (comL t.text x).length)]
      intro z; cases z
    · exfalso
      rcases p.or with h | ⟨_, h⟩
      · exact e1 h
      · have a1 : comL t.text x = t.text := (comL_pre1 t.text x).eq_of_length (by omega)
        have a2 : comL t.text x = x := (comL_pre2 t.text x).eq_of_length (by omega)
        exact h (a1.symm.trans a2)
def splitT (t : T) (x : Tx) (n : Int) : T :=
  let k := (comL t.text x).length
  .fork (comL t.text x) (B.of (if (behT k t).1 < (behT k (.leaf x n)).1 then [behT k t, behT k (.leaf x n)] else [behT k (.leaf x n), behT k t]))
theorem splitT_ok {t : T} {x : Tx} {n : Int} (h : t.ok) (p : Parts t x) : (splitT t x n).ok := by
  have b1 := beh_ok h p.beh
  have b2 := beh_ok (t := .leaf x n) (k := (comL t.text x).length) trivial (leaf_beh x n (comL_len2 _ _))
  unfold splitT
  by_cases q : (behT (comL t.text x).length t).1 < (behT (comL t.text x).length (.leaf x n)).1
  · simp only [q, if_true]; exact two_ok b1 b2 q
  · simp only [q, if_false]
    refine two_ok b2 b1 ?_
    rcases lt_tot (behT (comL t.text x).length t).1 (behT (comL t.text x).length (.leaf x n)).1 with z | z | z
    · exact absurd z q
    · exact absurd z (p.signs n)
    · exact z
theorem splitT_find {t : T} {x : Tx} {n : Int} (h : t.ok) (p : Parts t x) (y : Tx) : (splitT t x n).find y = if y = x then some n else t.find y := by
  have f1 := find_beh h p.beh y
  have f2 := find_beh (t := .leaf x n) (k := (comL t.text x).length) trivial (leaf_beh x n (comL_len2 _ _)) y
  rw [comL_take] at f1
  have e2 : (T.leaf x n).text.take (comL t.text x).length = comL t.text x := by
    show x.take _ = _
    rw [comL_comm]; exact comL_take x t.text
  rw [e2] at f2
  have hne := p.signs n
  have fin : ((t.find y).or ((T.leaf x n).find y)) = if y = x then some n else t.find y := by
    rw [T.find_l]
    by_cases e : y = x
    · rw [if_pos e, if_pos e.symm, e, p.none]; rfl
    · rw [if_neg e, if_neg (fun z => e z.symm), Option.or_none]
  have fin2 : (((T.leaf x n).find y).or (t.find y)) = if y = x then some n else t.find y := by
    rw [T.find_l]
    by_cases e : y = x
    · rw [if_pos e, if_pos e.symm]; rfl
    · rw [if_neg e, if_neg (fun z => e z.symm), Option.none_or]
  unfold splitT
  by_cases q : (behT (comL t.text x).length t).1 < (behT (comL t.text x).length (.leaf x n)).1
  · simp only [q, if_true]
    rw [two_find hne, f1, f2, fin]
  · simp only [q, if_false]
    rw [two_find hne.symm, f1, f2, fin2]
/-- a fork with another tree behind a sign -/
theorem find_withB {s : Tx} {b : B} {y : Tx} {t : OT} (x : Tx) : (T.fork s (withB b y t)).find x = if s <+: x ∧ (x.drop s.length).take 1 = y then OT.find t ((x.drop s.length).drop 1) else (T.fork s b).find x := by
  rw [T.find_fl, T.find_fl]
  by_cases h : s <+: x
  · rw [if_pos h, if_pos h, withB_look]
    by_cases e : (x.drop s.length).take 1 = y
    · rw [if_pos e, if_pos ⟨h, e⟩]
    · rw [if_neg e, if_neg (fun z => e z.2)]
  · rw [if_neg h, if_neg h, if_neg (fun z => h z.1)]
/-- the name x in the fork's branch -/
theorem split_name {s x : Tx} (h : s <+: x) (z : Tx) : (s <+: z ∧ (z.drop s.length).take 1 = (x.drop s.length).take 1) → (((z.drop s.length).drop 1 = (x.drop s.length).drop 1) ↔ z = x) := by
  rintro ⟨h1, h2⟩
  obtain ⟨a, rfl⟩ := h
  obtain ⟨c, rfl⟩ := h1
  rw [List.drop_left, List.drop_left] at h2 ⊢
  constructor
  · intro h3
    rw [← take_drop1 c, ← take_drop1 a, h2, h3]
  · intro h3
    rw [List.append_cancel_left h3]
theorem leaf_of_nil {g : T} (hg : g.ok) (h : ∀ z n, g.find z = some n → z = []) : ∃ n, g = .leaf [] n := by
  cases g with
  | leaf r n =>
    have := h r n (by rw [T.find_l, if_pos rfl])
    exact ⟨n, by rw [this]⟩
  | fork s b =>
    exact (T.two_signs hg [] fun x n hx => by rw [h x n hx]; simp).elim
theorem sub_nil {b : B} (h : b.ok) {z : Tx} {n : Int} (q : OT.find (b.look []) z = some n) : z = [] := by
  cases e : b.look [] with
  | none => rw [e] at q; cases q
  | some t =>
    rw [e] at q
    obtain ⟨_, _, l3, _⟩ := B.ok_sub h (B.look_mem e)
    exact leaf_nil l3 (show t.find z = some n from q) rfl
theorem put_fork_ok {s x : Tx} {b : B} {n : Int} {g : T} (h : (T.fork s b).ok) (hg : g.ok) (hf : ∀ z, g.find z = if z = (x.drop s.length).drop 1 then some n else OT.find (b.look ((x.drop s.length).take 1)) z) : (T.fork s (withB b ((x.drop s.length).take 1) (some g))).ok := by
  refine ⟨withB_two h.2 h.1, withB_ok h.2 (by rw [List.length_take]; omega) fun u hu => ?_⟩
  cases hu
  refine ⟨hg, fun e => leaf_of_nil hg fun z m hz => ?_⟩
  rw [hf] at hz
  by_cases q : z = (x.drop s.length).drop 1
  · rw [q]
    cases hx : x.drop s.length with
    | nil => rfl
    | cons a r => rw [hx] at e; cases e
  · rw [if_neg q, e] at hz
    exact sub_nil h.2 hz
theorem put_fork_find {s x : Tx} {b : B} {n : Int} {g : T} (hp : s <+: x) (hf : ∀ z, g.find z = if z = (x.drop s.length).drop 1 then some n else OT.find (b.look ((x.drop s.length).take 1)) z) (y : Tx) : (T.fork s (withB b ((x.drop s.length).take 1) (some g))).find y = if y = x then some n else (T.fork s b).find y := by
  rw [find_withB]
  by_cases c : s <+: y ∧ (y.drop s.length).take 1 = (x.drop s.length).take 1
  · rw [if_pos c]
    show g.find _ = _
    rw [hf]
    have hs := split_name hp y c
    by_cases e : y = x
    · rw [if_pos e, if_pos (hs.mpr e)]
    · rw [if_neg e, if_neg (fun z => e (hs.mp z)), T.find_fl, if_pos c.1, c.2]
  · rw [if_neg c, if_neg (fun e => c (by rw [e]; exact ⟨hp, rfl⟩))]
/-! existence -/
mutual
theorem T.put_ex : ∀ (t : T), t.ok → ∀ (x : Tx) (n : Int), ∃ r : T, r.ok ∧ ∀ y, r.find y = if y = x then some n else t.find y
  | .leaf r m, h, x, n => by
    by_cases e : r = x
    · refine ⟨.leaf x n, trivial, fun y => ?_⟩
      rw [T.find_l, T.find_l, e]
      by_cases q : y = x
      · rw [if_pos q, if_pos q.symm]
      · rw [if_neg q, if_neg (fun z => q z.symm), if_neg (fun z => q z.symm)]
    · have p : Parts (.leaf r m) x := ⟨.inr ⟨⟨r, m, rfl⟩, e⟩⟩
      exact ⟨_, splitT_ok h p, splitT_find h p⟩
  | .fork s b, h, x, n => by
    by_cases e : s <+: x
    · obtain ⟨g, hg, hf⟩ := B.put_ex b h.2 ((x.drop s.length).take 1) ((x.drop s.length).drop 1) n
      exact ⟨_, put_fork_ok h hg hf, put_fork_find e hf⟩
    · have p : Parts (.fork s b) x := ⟨.inl (by
        show (comL s x).length < s.length
        have l := comL_len1 s x
        by_cases q : (comL s x).length = s.length
        · exact absurd (by rw [← (comL_pre1 s x).eq_of_length q]; exact comL_pre2 s x) e
        · omega)⟩
      exact ⟨_, splitT_ok h p, splitT_find h p⟩
theorem B.put_ex : ∀ (b : B), b.ok → ∀ (y m : Tx) (n : Int), ∃ g : T, g.ok ∧ ∀ z, g.find z = if z = m then some n else OT.find (b.look y) z
  | .nil, _, y, m, n => ⟨.leaf m n, trivial, fun z => by
      rw [T.find_l]
      show _ = if z = m then some n else none
      by_cases q : z = m
      · rw [if_pos q, if_pos q.symm]
      · rw [if_neg q, if_neg (fun e => q e.symm)]⟩
  | .cons c t r, ⟨l1, l2, l3, l4, l5⟩, y, m, n => by
    by_cases e : c = y
    · obtain ⟨g, hg, hf⟩ := T.put_ex t l2 m n
      refine ⟨g, hg, fun z => ?_⟩
      rw [hf]
      unfold B.look
      rw [if_pos e]; rfl
    · obtain ⟨g, hg, hf⟩ := B.put_ex r l5 y m n
      refine ⟨g, hg, fun z => ?_⟩
      rw [hf]
      show _ = if z = m then some n else OT.find ((B.cons c t r).look y) z
      have : (B.cons c t r).look y = r.look y := by
        show (if c = y then some t else r.look y) = _
        rw [if_neg e]
      rw [this]
end
theorem OT.put_ex {t : OT} (h : OT.ok t) (x : Tx) (n : Int) : ∃ r : T, r.ok ∧ ∀ y, r.find y = if y = x then some n else OT.find t y := by
  cases t with
  | none => exact B.put_ex .nil trivial [] x n
  | some t => exact T.put_ex t h x n
/-- the number of a name in rows, the first one -/
def lookR : Rows → Tx → Option Int
  | [], _ => none
  | p :: l, y => if y = p.1 then some p.2 else lookR l y
theorem lookR_mem : ∀ {l : Rows}, Srt l → ∀ (x : Tx) (n : Int), lookR l x = some n ↔ (x, n) ∈ l
  | [], _, x, n => ⟨fun h => (by cases h), fun h => (by cases h)⟩
  | p :: l, h, x, n => by
    obtain ⟨h1, h2⟩ := List.pairwise_cons.mp h
    unfold lookR
    by_cases e : x = p.1
    · rw [if_pos e]
      constructor
      · intro q; injection q with q; rw [e, ← q]; exact List.mem_cons_self
      · intro q
        rcases List.mem_cons.mp q with z | z
        · rw [← z]
        · exact absurd (h1 _ z) (by rw [e]; exact lt_irr _)
    · rw [if_neg e, lookR_mem h2]
      constructor
      · exact List.mem_cons_of_mem _
      · intro q
        rcases List.mem_cons.mp q with z | z
        · rw [← z] at e; exact absurd rfl e
        · exact z
/-- rows put into a tree: the first ones win -/
theorem ex_put : ∀ (l : Rows) {t : OT}, OT.ok t → ∃ r : OT, OT.ok r ∧ ∀ y, OT.find r y = (lookR l y).or (OT.find t y)
  | [], t, h => ⟨t, h, fun y => by show _ = Option.or none _; rw [Option.none_or]⟩
  | p :: l, t, h => by
    obtain ⟨r, h1, h2⟩ := ex_put l h
    obtain ⟨g, hg, hf⟩ := OT.put_ex h1 p.1 p.2
    refine ⟨some g, hg, fun y => ?_⟩
    show g.find y = _
    rw [hf, h2]
    show _ = (if y = p.1 then some p.2 else lookR l y).or (OT.find t y)
    by_cases e : y = p.1
    · rw [if_pos e, if_pos e]; rfl
    · rw [if_neg e, if_neg e]
theorem ex_rows {l : Rows} (h : Srt l) : ∃ t : OT, Rep l t := by
  obtain ⟨r, h1, h2⟩ := ex_put l (t := none) trivial
  refine ⟨r, Rep.of h1 h fun x n => ?_⟩
  rw [h2]
  show Option.or _ none = _ ↔ _
  rw [Option.or_none]
  exact lookR_mem h x n
/-- the names that a test keeps -/
theorem ex_only {t : OT} (h : OT.ok t) (f : Tx → Bool) : ∃ r : OT, OT.ok r ∧ ∀ y, OT.find r y = if f y then OT.find t y else none := by
  obtain ⟨r, h1, h2⟩ := ex_rows (srt_filter (OT.srt h) fun p => f p.1)
  refine ⟨r, h1, fun y => ?_⟩
  refine (Option.ext fun n => ?_)
  have q := (Rep.find ⟨h1, h2⟩ y n)
  rw [q, List.mem_filter, OT.mem_names h]
  by_cases e : f y = true
  · simp [e]
  · simp [e]
/-- the names that begin so, without the beginning -/
theorem ex_under {t : OT} (h : OT.ok t) (x : Tx) : ∃ r : OT, OT.ok r ∧ ∀ y, OT.find r y = OT.find t (x ++ y) := by
  have hs : Srt (((OT.names t).filter (fun p => decide (x <+: p.1))).map fun p => (p.1.drop x.length, p.2)) := by
    refine List.pairwise_map.mpr ?_
    refine (srt_filter (OT.srt h) _).imp_of_mem fun {p q} hp hq hlt => ?_
    obtain ⟨a, ha⟩ := of_decide_eq_true (List.mem_filter.mp hp).2
    obtain ⟨b, hb⟩ := of_decide_eq_true (List.mem_filter.mp hq).2
    show p.1.drop x.length < q.1.drop x.length
    have hlt' : p.1 < q.1 := hlt
    rw [← ha, ← hb] at hlt' ⊢
    rw [List.drop_left, List.drop_left]
    exact (lt_app x).mp hlt'
  obtain ⟨r, h1, h2⟩ := ex_rows hs
  refine ⟨r, h1, fun y => ?_⟩
  refine (Option.ext fun n => ?_)
  rw [Rep.find ⟨h1, h2⟩ y n, List.mem_map, ← OT.mem_names h]
  constructor
  · rintro ⟨p, hp, e⟩
    obtain ⟨m, hm⟩ := List.mem_filter.mp hp
    obtain ⟨a, ha⟩ := of_decide_eq_true hm
    injection e with e1 e2
    rw [← ha, List.drop_left] at e1
    rw [← e1, ha, ← e2]; exact m
  · intro hy
    exact ⟨(x ++ y, n), List.mem_filter.mpr ⟨hy, decide_eq_true (List.prefix_append _ _)⟩, by rw [List.drop_left]⟩
theorem ex_union {a b : OT} (ha : OT.ok a) (hb : OT.ok b) : ∃ r : OT, OT.ok r ∧ ∀ y, OT.find r y = (OT.find a y).or (OT.find b y) := by
  obtain ⟨r, h1, h2⟩ := ex_put (OT.names a) hb
  refine ⟨r, h1, fun y => ?_⟩
  rw [h2]
  have e : lookR (OT.names a) y = OT.find a y := Option.ext fun n => by rw [lookR_mem (OT.srt ha), OT.mem_names ha]
  rw [e]
end Rt

namespace Rt
open PySem L2
def Rlaw : List D → D → Prop := fun ds d => ∃ ns : List Int, ds = [.scr ns] ∧ ns.length ≤ 63 ∧ d = .bl true
/-- what a law's rows give -/
theorem Good.tb {rows : Rows} {t : OT} (g : Good rows) (r : Rep rows t) : Tb 42 t :=
  Tb.of r.1 (fun x n h => g.len (x, n) ((r.find x n).mp h)) (by rw [r.2]; exact Nat.le_trans g.cnt (by decide))
theorem Good.tree {rows : Rows} (g : Good rows) : ∃ t, Rep rows t ∧ Tb 42 t ∧ D.al 128 (OT.d t) := by
  obtain ⟨t, h⟩ := ex_rows g.srt
  exact ⟨t, h, g.tb h, OT.al (g.tb h) (by rw [h.2]; exact g.ok)⟩
theorem rep_look {rows : Rows} {t : OT} (r : Rep rows t) (x : Tx) : (rows.filter fun p => decide (p.1 = x)).map (fun p => p.2) = (OT.find t x).toList := by
  have hs := r.srt
  have hf := r.find x
  cases e : OT.find t x with
  | none =>
    rw [List.filter_eq_nil_iff.mpr]
    · rfl
    · intro p hp c
      have c' := of_decide_eq_true c
      have := (hf p.2).mpr (by rw [← c']; exact hp)
      rw [e] at this; cases this
  | some n =>
    have hm := (hf n).mp e
    obtain ⟨l1, l2, el⟩ := List.append_of_mem hm
    rw [el] at hs
    obtain ⟨q1, q2, q3⟩ := List.pairwise_append.mp hs
    have q2' := List.pairwise_cons.mp q2
    rw [el, List.filter_append, List.filter_cons]
    have f1 : l1.filter (fun p => decide (p.1 = x)) = [] := List.filter_eq_nil_iff.mpr fun p hp c => lt_ne (q3 p hp (x, n) List.mem_cons_self) (of_decide_eq_true c)
    have f2 : l2.filter (fun p => decide (p.1 = x)) = [] := List.filter_eq_nil_iff.mpr fun p hp c => lt_ne (q2'.1 p hp) (of_decide_eq_true c).symm
    rw [f1, f2]
    simp
theorem held_head {rows : Rows} {t : OT} (r : Rep rows t) (x : Tx) {e : Int → D} : atI ((rows.filter fun p => decide (p.1 = x)).map (fun p => e p.2) ++ [.non]) 0 = some (match OT.find t x with | none => .non | some n => e n) := by
  have h := congrArg (List.map e) (rep_look r x)
  rw [List.map_map] at h
  rw [show ((rows.filter fun p => decide (p.1 = x)).map (fun p => e p.2)) = (OT.find t x).toList.map e from h]
  cases OT.find t x <;> rfl
end Rt

namespace Rt
open PySem L2
/-- a tree as data, by its parts -/
def T.last : T → D
  | .leaf _ n => .int n
  | .fork _ b => .tup b.d
def T.kind : T → Tx
  | .leaf _ _ => tLeaf
  | .fork _ _ => tFork
theorem T.d_eq (t : T) : t.d = .tup [.str t.kind, .str t.text, t.last] := by cases t <;> rfl
theorem T.re_d (t : T) (x : Tx) : (t.re x).d = .tup [.str t.kind, .str x, t.last] := by cases t <;> rfl
end Rt

namespace Rt
open PySem L2
/-- a is the tree of the names that do not begin with x, b that of those which do, without it -/
structure CutR (t : OT) (x : Tx) (a b : OT) : Prop where
  ok1 : OT.ok a
  ok2 : OT.ok b
  f1 : ∀ y, OT.find a y = if x <+: y then none else OT.find t y
  f2 : ∀ y, OT.find b y = OT.find t (x ++ y)
theorem CutR.ex {t : OT} (h : OT.ok t) (x : Tx) : ∃ a b, CutR t x a b := by
  obtain ⟨a, a1, a2⟩ := ex_only h (fun y => !decide (x <+: y))
  obtain ⟨b, b1, b2⟩ := ex_under h x
  refine ⟨a, b, a1, b1, fun y => ?_, b2⟩
  rw [a2]
  by_cases c : x <+: y
  · rw [if_pos c, decide_eq_true c]; rfl
  · rw [if_neg c, decide_eq_false c]; rfl
theorem CutR.uniq {t : OT} {x : Tx} {a b a' b' : OT} (h : CutR t x a b) (h' : CutR t x a' b') : a = a' ∧ b = b' :=
  ⟨OT.ext h.ok1 h'.ok1 fun y => by rw [h.f1, h'.f1], OT.ext h.ok2 h'.ok2 fun y => by rw [h.f2, h'.f2]⟩
theorem cut_none (x : Tx) : CutR none x none none := ⟨trivial, trivial, fun y => by show none = if x <+: y then none else none; split <;> rfl, fun y => rfl⟩
theorem find_pre_text {t : T} {y : Tx} (h : ¬ t.text <+: y) : t.find y = none := by
  cases e : t.find y with
  | none => rfl
  | some n => exact absurd (text_pre e) h
theorem cut_all {t : T} {x : Tx} (h : t.ok) (hx : x <+: t.text) : CutR (some t) x none (some (t.cutT x.length)) := by
  refine ⟨trivial, T.cutT_ok h _, fun y => ?_, fun y => ?_⟩
  · show none = if x <+: y then none else t.find y
    by_cases c : x <+: y
    · rw [if_pos c]
    · rw [if_neg c, find_pre_text fun z => c (hx.trans z)]
  · show (t.cutT x.length).find y = t.find (x ++ y)
    rw [T.find_cutT hx.length_le, ← List.prefix_iff_eq_take.mp hx]
theorem cut_no {t : T} {x : Tx} (h : t.ok) (hn : ∀ y n, t.find y = some n → ¬ x <+: y) : CutR (some t) x (some t) none := by
  refine ⟨h, trivial, fun y => ?_, fun y => ?_⟩
  · show t.find y = if x <+: y then none else t.find y
    by_cases c : x <+: y
    · rw [if_pos c]
      cases e : t.find y with
      | none => rfl
      | some n => exact absurd c (hn y n e)
    · rw [if_neg c]
  · show none = t.find (x ++ y)
    cases e : t.find (x ++ y) with
    | none => rfl
    | some n => exact absurd (List.prefix_append x y) (hn _ n e)
theorem cut_leaf {r x : Tx} {n : Int} (h : ¬ x <+: r) : CutR (some (.leaf r n)) x (some (.leaf r n)) none := cut_no trivial fun y m e => by
  rw [T.find_l] at e
  by_cases c : r = y
  · rw [← c]; exact h
  · rw [if_neg c] at e; cases e
theorem cut_off {s x : Tx} {b : B} (hk : (T.fork s b).ok) (h : ¬ x <+: s) (h2 : ¬ s <+: x) : CutR (some (.fork s b)) x (some (.fork s b)) none := cut_no hk fun y m e c => by
  rcases pre_comp (fork_pre e) c with q | q
  · exact h2 q
  · exact h q
/-- behind the text of the knot -/
theorem under_pre {s x y : Tx} (h : s <+: x) (hl : s.length < x.length) : x <+: y ↔ (s <+: y ∧ (y.drop s.length).take 1 = (x.drop s.length).take 1 ∧ (x.drop s.length).drop 1 <+: (y.drop s.length).drop 1) := by
  obtain ⟨m, rfl⟩ := h
  have hm : m ≠ [] := fun z => by rw [z] at hl; simp at hl
  obtain ⟨a, m, rfl⟩ := List.exists_cons_of_ne_nil hm
  rw [List.drop_left]
  constructor
  · rintro ⟨z, rfl⟩
    rw [List.append_assoc]
    refine ⟨List.prefix_append _ _, ?_, ?_⟩
    · rw [List.drop_left]; rfl
    · rw [List.drop_left]
      exact List.prefix_append m z
  · rintro ⟨⟨z, rfl⟩, h2, h3⟩
    rw [List.drop_left] at h2 h3
    cases z with
    | nil => cases h2
    | cons c z =>
      injection h2 with h2 _
      rw [h2]
      obtain ⟨u, hu⟩ := h3
      refine ⟨u, ?_⟩
      rw [List.append_assoc]
      show s ++ a :: (m ++ u) = s ++ a :: z
      rw [show m ++ u = z from hu]
theorem find_under {s x : Tx} {b : B} (h : s <+: x) (hl : s.length < x.length) (y : Tx) : (T.fork s b).find (x ++ y) = OT.find (b.look ((x.drop s.length).take 1)) ((x.drop s.length).drop 1 ++ y) := by
  obtain ⟨m, rfl⟩ := h
  have hm : m ≠ [] := fun z => by rw [z] at hl; simp at hl
  obtain ⟨a, m, rfl⟩ := List.exists_cons_of_ne_nil hm
  rw [T.find_fl, List.append_assoc, if_pos (List.prefix_append _ _), List.drop_left, List.drop_left]; rfl
theorem sign_ne {s x : Tx} (hl : s.length < x.length) : (x.drop s.length).take 1 ≠ [] := fun z => by
  have := congrArg List.length z
  rw [List.length_take, List.length_drop] at this
  simp at this; omega
theorem cut_in0 {s x : Tx} {b : B} {a' : OT} (hk : (T.fork s b).ok) (h : s <+: x) (hl : s.length < x.length) (c : CutR (b.look ((x.drop s.length).take 1)) ((x.drop s.length).drop 1) a' none) : CutR (some (.fork s b)) x (some (.fork s b)) none :=
  cut_no hk fun y m e q => by
    obtain ⟨z, rfl⟩ := q
    rw [find_under h hl, ← c.f2] at e
    cases e
theorem withB_one {b : B} {y : Tx} {t : OT} (h : b.ok) (h2 : 2 ≤ b.list.length) : 1 ≤ (withB b y t).list.length := by
  obtain ⟨p, hp, hne⟩ := len_two h2 ((B.ok_iff b).mp h).2 y
  exact List.length_pos_of_mem (withB_mem.mpr (.inl ⟨hp, hne⟩))
theorem cut_in1 {s x : Tx} {b : B} {a' b' : OT} (hk : (T.fork s b).ok) (h : s <+: x) (hl : s.length < x.length) (c : CutR (b.look ((x.drop s.length).take 1)) ((x.drop s.length).drop 1) a' b') :
    CutR (some (.fork s b)) x (some (knotB s (withB b ((x.drop s.length).take 1) a'))) b' ∧ (withB b ((x.drop s.length).take 1) a').ok := by
  have w1 := withB_one (y := (x.drop s.length).take 1) (t := a') hk.2 hk.1
  have wok : (withB b ((x.drop s.length).take 1) a').ok := withB_ok hk.2 (by rw [List.length_take]; omega) fun u hu => by
    have := c.ok1
    rw [hu] at this
    exact ⟨this, fun z => absurd z (sign_ne hl)⟩
  refine ⟨⟨knotB_ok wok w1, c.ok2, fun y => ?_, fun y => ?_⟩, wok⟩
  · show (knotB s _).find y = if x <+: y then none else (T.fork s b).find y
    rw [find_knotB wok w1, find_withB]
    by_cases q : s <+: y ∧ (y.drop s.length).take 1 = (x.drop s.length).take 1
    · rw [if_pos q, c.f1]
      by_cases r : (x.drop s.length).drop 1 <+: (y.drop s.length).drop 1
      · rw [if_pos r, if_pos ((under_pre h hl).mpr ⟨q.1, q.2, r⟩)]
      · rw [if_neg r, if_neg fun z => r ((under_pre h hl).mp z).2.2, T.find_fl, if_pos q.1, q.2]
    · rw [if_neg q, if_neg fun z => q ⟨((under_pre h hl).mp z).1, ((under_pre h hl).mp z).2.1⟩]
  · show OT.find b' y = (T.fork s b).find (x ++ y)
    rw [find_under h hl, c.f2]
theorem OT.len_h {t : OT} (h : OT.ok t) {y : Tx} {n : Int} (e : OT.find t y = some n) : y.length ≤ OT.h t := by
  cases t with
  | none => cases e
  | some t => exact T.len_h t y n ((T.mem_names t h y n).mpr e)
theorem CutR.h1 {t : OT} {x : Tx} {a b : OT} (c : CutR t x a b) (h : OT.ok t) : OT.h a ≤ OT.h t := OT.h_le c.ok1 fun y n e => by
  rw [c.f1] at e
  split at e
  · cases e
  · exact OT.len_h h e
end Rt

namespace Rt
open PySem L2
theorem take_eq_pre {x y : Tx} : y.take x.length = x ↔ x <+: y := by
  rw [List.prefix_iff_eq_take]; exact ⟨fun h => h.symm, fun h => h.symm⟩
/-- the rows that do not begin so, and those that do, without it -/
def stayR (rows : Rows) (x : Tx) : Rows := rows.filter (fun p => !decide (p.1.take x.length = x))
def goneR (rows : Rows) (x : Tx) : Rows := (rows.filter (fun p => decide (p.1.take x.length = x))).map (fun p => (p.1.drop x.length, p.2))
theorem goneR_srt {rows : Rows} (h : Srt rows) (x : Tx) : Srt (goneR rows x) := by
  unfold goneR Srt
  rw [List.pairwise_map]
  refine (srt_filter h _).imp_of_mem fun {p q} hp hq hlt => ?_
  obtain ⟨a, ha⟩ := take_eq_pre.mp (of_decide_eq_true (List.mem_filter.mp hp).2)
  obtain ⟨b, hb⟩ := take_eq_pre.mp (of_decide_eq_true (List.mem_filter.mp hq).2)
  show p.1.drop x.length < q.1.drop x.length
  rw [← ha, ← hb] at hlt
  rw [← ha, ← hb, List.drop_left, List.drop_left]
  exact (lt_app x).mp hlt
theorem goneR_mem {rows : Rows} {x y : Tx} {n : Int} : (y, n) ∈ goneR rows x ↔ (x ++ y, n) ∈ rows := by
  unfold goneR
  rw [List.mem_map]
  constructor
  · rintro ⟨p, hp, e⟩
    obtain ⟨m, hm⟩ := List.mem_filter.mp hp
    obtain ⟨a, ha⟩ := take_eq_pre.mp (of_decide_eq_true hm)
    injection e with e1 e2
    rw [← ha, List.drop_left] at e1
    rw [← e1, ← e2, ha]; exact m
  · intro h
    exact ⟨(x ++ y, n), List.mem_filter.mpr ⟨h, decide_eq_true (by rw [List.take_left])⟩, by show ((x ++ y).drop x.length, n) = _; rw [List.drop_left]⟩
theorem CutR.reps {rows : Rows} {t a b : OT} {x : Tx} (r : Rep rows t) (c : CutR t x a b) : Rep (stayR rows x) a ∧ Rep (goneR rows x) b := by
  refine ⟨Rep.of c.ok1 (srt_filter r.srt _) fun y n => ?_, Rep.of c.ok2 (goneR_srt r.srt x) fun y n => ?_⟩
  · unfold stayR
    rw [c.f1, List.mem_filter, ← r.find]
    by_cases q : x <+: y
    · rw [if_pos q]
      constructor
      · intro z; cases z
      · rintro ⟨_, z⟩
        rw [decide_eq_true (take_eq_pre.mpr q)] at z; cases z
    · rw [if_neg q]
      constructor
      · intro z; exact ⟨z, by rw [decide_eq_false (fun z => q (take_eq_pre.mp z))]; rfl⟩
      · exact fun z => z.1
  · rw [c.f2, goneR_mem, r.find]
theorem Good.stay {rows : Rows} (g : Good rows) (x : Tx) : Good (stayR rows x) :=
  ⟨srt_filter g.srt _, fun p m => g.ok p (List.mem_filter.mp m).1, fun p m => g.len p (List.mem_filter.mp m).1, Nat.le_trans (List.length_filter_le _ _) g.cnt, fun p m => g.num p (List.mem_filter.mp m).1⟩
theorem Good.gone {rows : Rows} (g : Good rows) (x : Tx) : Good (goneR rows x) := by
  refine ⟨goneR_srt g.srt x, fun p m => ?_, fun p m => ?_, ?_, fun p m => ?_⟩
  · have := g.ok _ (goneR_mem.mp (show (p.1, p.2) ∈ goneR rows x from m))
    exact (okT_of_app this).2
  · have := g.len _ (goneR_mem.mp (show (p.1, p.2) ∈ goneR rows x from m))
    have h : (x ++ p.1).length ≤ 40 := this
    rw [List.length_append] at h; omega
  · unfold goneR
    rw [List.length_map]
    exact Nat.le_trans (List.length_filter_le _ _) g.cnt
  · exact g.num (x ++ p.1, p.2) (goneR_mem.mp (show (p.1, p.2) ∈ goneR rows x from m))
end Rt

namespace Rt
open PySem L2
def namesL (s : Tx) (l : List (Tx × T)) : Rows := l.flatMap fun p => p.2.names.map fun q => (s ++ p.1 ++ q.1, q.2)
theorem B.names_flat (s : Tx) : ∀ b : B, b.names s = namesL s b.list
  | .nil => rfl
  | .cons c t r => by unfold B.names; rw [B.names_flat s r]; rfl
theorem namesL_app (s : Tx) (l m : List (Tx × T)) : namesL s (l ++ m) = namesL s l ++ namesL s m := List.flatMap_append ..
theorem namesL_cons (s c : Tx) (t : T) (l : List (Tx × T)) : namesL s ((c, t) :: l) = t.names.map (fun q => (s ++ c ++ q.1, q.2)) ++ namesL s l := rfl
structure Ok1 (p : Tx × T) : Prop where
  len : p.1.length ≤ 1
  ok : p.2.ok
  nil : p.1 = [] → ∃ n, p.2 = .leaf [] n
theorem Ok1.nm {p : Tx × T} (h : Ok1 p) {x : Tx} {n : Int} (m : (x, n) ∈ p.2.names) : p.1 = [] → x = [] := fun e => by
  obtain ⟨k, hk⟩ := h.nil e
  rw [hk] at m
  have : (x, n) = (([] : Tx), k) := List.mem_singleton.mp m
  injection this
theorem B.ok1 {b : B} (h : b.ok) : ∀ p ∈ b.list, Ok1 p := fun p hp => by
  obtain ⟨h1, h2, h3⟩ := ((B.ok_iff b).mp h).1 p hp
  exact ⟨h1, h2, h3⟩
theorem sign_of {s c x : Tx} (hc : c.length ≤ 1) (hx : c = [] → x = []) : ((s ++ c ++ x).drop s.length).take 1 = c ∧ (s ++ c ++ x).drop (s.length + 1) = x := by
  rw [← List.drop_drop, List.append_assoc, List.drop_left]
  match c, hc, hx with
  | [], _, hx => rw [hx rfl]; exact ⟨rfl, rfl⟩
  | [a], _, _ => exact ⟨rfl, rfl⟩
  | _ :: _ :: _, h, _ => exact absurd h (by simp)
def sgn (k : Nat) (c : Tx) (q : Tx × Int) : Bool := decide ((q.1.drop k).take 1 = c)
theorem filt_ne {s c : Tx} {l : List (Tx × T)} (h : ∀ p ∈ l, Ok1 p) (hn : ∀ p ∈ l, p.1 ≠ c) : (namesL s l).filter (sgn s.length c) = [] :=
  List.filter_eq_nil_iff.mpr fun q hq => by
    obtain ⟨p, hp, hq⟩ := List.mem_flatMap.mp hq
    obtain ⟨z, hz, rfl⟩ := List.mem_map.mp hq
    unfold sgn
    rw [(sign_of (s := s) (h p hp).len ((h p hp).nm hz)).1]
    simp [hn p hp]
theorem filt_mid {s c : Tx} {t : T} {l m : List (Tx × T)} (h : ∀ p ∈ l ++ (c, t) :: m, Ok1 p) (hd : (l ++ (c, t) :: m).Pairwise fun p q => p.1 < q.1) :
    ((namesL s (l ++ (c, t) :: m)).filter (sgn s.length c)).map (fun q => (q.1.drop (s.length + 1), q.2)) = t.names := by
  obtain ⟨d1, d2, d3⟩ := List.pairwise_append.mp hd
  have d2' := List.pairwise_cons.mp d2
  have k := h (c, t) (List.mem_append_right _ List.mem_cons_self)
  rw [namesL_app, namesL_cons, List.filter_append, List.filter_append, filt_ne (fun p hp => h p (List.mem_append_left _ hp)) (fun p hp => lt_ne (d3 p hp (c, t) List.mem_cons_self)),
    filt_ne (fun p hp => h p (List.mem_append_right _ (List.mem_cons_of_mem _ hp))) (fun p hp => (lt_ne (d2'.1 p hp)).symm), List.nil_append, List.append_nil]
  rw [List.filter_eq_self.mpr, List.map_map]
  · refine (List.map_congr_left fun q hq => ?_).trans (List.map_id _)
    show ((s ++ c ++ q.1).drop (s.length + 1), q.2) = q
    rw [(sign_of (s := s) k.len (k.nm hq)).2]
  · intro q hq
    obtain ⟨z, hz, rfl⟩ := List.mem_map.mp hq
    unfold sgn
    rw [(sign_of (s := s) k.len (k.nm hz)).1]
    exact decide_eq_true rfl
/-! the ends of a knot's names -/
theorem com_app : ∀ (s x y : Tx), comL (s ++ x) (s ++ y) = s ++ comL x y
  | [], _, _ => rfl
  | a :: s, x, y => by
    show (if a = a then a :: comL (s ++ x) (s ++ y) else []) = _
    rw [if_pos rfl, com_app s x y]; rfl
theorem com_signs {c c' m m' : Tx} (hc : c.length ≤ 1) (hc' : c'.length ≤ 1) (hne : c ≠ c') (hm : c = [] → m = []) (hm' : c' = [] → m' = []) : comL (c ++ m) (c' ++ m') = [] := by
  match c, c', hc, hc', hne, hm, hm' with
  | [], [], _, _, hne, _, _ => exact absurd rfl hne
  | [], _, _, _, _, hm, _ => rw [hm rfl]; rfl
  | [a], [], _, _, _, _, hm' => rw [hm' rfl]; rfl
  | [a], [b], _, _, hne, _, _ =>
    show (if a = b then _ else []) = _
    rw [if_neg fun e => hne (by rw [e])]
  | _ :: _ :: _, _, h, _, _, _, _ => exact absurd h (by simp)
  | _, _ :: _ :: _, _, h, _, _, _ => exact absurd h (by simp)
theorem T.names_ne {t : T} (h : t.ok) : t.names ≠ [] := fun e => by
  obtain ⟨x, n, hx⟩ := T.some_name t h
  have := (T.mem_names t h x n).mpr hx
  rw [e] at this; cases this
theorem T.names_head {t : T} (h : t.ok) : ∃ q r, t.names = q :: r := by
  cases e : t.names with
  | nil => exact absurd e (T.names_ne h)
  | cons q r => exact ⟨q, r, rfl⟩
theorem T.names_last {t : T} (h : t.ok) : ∃ q r, t.names = r ++ [q] := by
  rcases List.eq_nil_or_concat t.names with e | ⟨r, q, e⟩
  · exact absurd e (T.names_ne h)
  · exact ⟨q, r, by rw [e, List.concat_eq_append]⟩
theorem T.fork_ends {s : Tx} {b : B} (h : (T.fork s b).ok) : ∃ p q, (b.names s)[0]? = some p ∧ (∃ r, b.names s = r ++ [q]) ∧ comL p.1 q.1 = s ∧ 2 ≤ (b.names s).length := by
  have hb := ((B.ok_iff b).mp h.2)
  have k := B.ok1 h.2
  rw [B.names_flat]
  have l2 : 2 ≤ b.list.length := h.1
  rcases List.eq_nil_or_concat b.list with e | ⟨l, p, e⟩
  · rw [e] at l2; exact absurd l2 (by simp)
  rw [List.concat_eq_append] at e
  cases l with
  | nil => rw [e] at l2; exact absurd l2 (by simp)
  | cons o l =>
    have ko := k o (by rw [e]; exact List.mem_cons_self)
    have kp := k p (by rw [e]; exact List.mem_append_right _ List.mem_cons_self)
    have hlt : o.1 < p.1 := by
      have := hb.2
      rw [e] at this
      exact (List.pairwise_cons.mp this).1 p (List.mem_append_right _ List.mem_cons_self)
    obtain ⟨x, rx, hx⟩ := T.names_head ko.ok
    obtain ⟨y, ry, hy⟩ := T.names_last kp.ok
    have mx : (x.1, x.2) ∈ o.2.names := by rw [hx]; exact List.mem_cons_self
    have my : (y.1, y.2) ∈ p.2.names := by rw [hy]; exact List.mem_append_right _ List.mem_cons_self
    have en : namesL s b.list = (s ++ o.1 ++ x.1, x.2) :: ((rx.map fun q => (s ++ o.1 ++ q.1, q.2)) ++ namesL s l ++ ry.map fun q => (s ++ p.1 ++ q.1, q.2)) ++ [(s ++ p.1 ++ y.1, y.2)] := by
      rw [e, List.cons_append]
      show namesL s ((o.1, o.2) :: (l ++ [(p.1, p.2)])) = _
      rw [namesL_cons, namesL_app, namesL_cons, hx, hy]
      simp [namesL]
    refine ⟨(s ++ o.1 ++ x.1, x.2), (s ++ p.1 ++ y.1, y.2), by rw [en]; rfl, ⟨_, en⟩, ?_, ?_⟩
    · show comL (s ++ o.1 ++ x.1) (s ++ p.1 ++ y.1) = s
      rw [List.append_assoc, List.append_assoc, com_app, com_signs ko.len kp.len (lt_ne hlt) (ko.nm mx) (kp.nm my), List.append_nil]
    · rw [en, List.length_append, List.length_cons]
      show 2 ≤ _ + 1 + 1
      omega
/-- the i-th branch of a knot among its names -/
theorem branch_at {s c : Tx} {t : T} {l : List (Tx × T)} {i : Nat} (h : l[i]? = some (c, t)) (hk : ∀ p ∈ l, Ok1 p) (hd : l.Pairwise fun p q => p.1 < q.1) :
    (∃ x n, (namesL s l)[(namesL s (l.take i)).length]? = some (x, n) ∧ (x.drop s.length).take 1 = c) ∧ ((namesL s l).filter (sgn s.length c)).map (fun q => (q.1.drop (s.length + 1), q.2)) = t.names ∧
    (namesL s (l.take (i + 1))).length = (namesL s (l.take i)).length + t.names.length ∧ (namesL s (l.take (i + 1))).length ≤ (namesL s l).length ∧ 0 < t.names.length := by
  obtain ⟨hi, he⟩ := List.getElem?_eq_some_iff.mp h
  have e : l = l.take i ++ (c, t) :: l.drop (i + 1) := by
    rw [← he, List.getElem_cons_drop, List.take_append_drop]
  have e1 : l.take (i + 1) = l.take i ++ [(c, t)] := by rw [List.take_add_one, h]; rfl
  have k := hk (c, t) (List.mem_of_getElem? h)
  obtain ⟨q, r, hq⟩ := T.names_head k.ok
  have mq : (q.1, q.2) ∈ t.names := by
    have : (q.1, q.2) ∈ (c, t).2.names := by rw [show (c, t).2.names = q :: r from hq]; exact List.mem_cons_self
    exact this
  have en : namesL s l = namesL s (l.take i) ++ (t.names.map (fun q => (s ++ c ++ q.1, q.2)) ++ namesL s (l.drop (i + 1))) := by
    rw [← namesL_cons, ← namesL_app, ← e]
  refine ⟨⟨s ++ c ++ q.1, q.2, ?_, (sign_of k.len (k.nm mq)).1⟩, ?_, ?_, ?_, ?_⟩
  · rw [en, List.getElem?_append_right (Nat.le_refl _), Nat.sub_self, show t.names = q :: r from hq]; rfl
  · have := filt_mid (s := s) (c := c) (t := t) (l := l.take i) (m := l.drop (i + 1)) (by rw [← e]; exact hk) (by rw [← e]; exact hd)
    rw [← e] at this
    exact this
  · rw [e1, namesL_app, List.length_append, namesL_cons, List.length_append, List.length_map]; rfl
  · rw [en, e1, namesL_app, List.length_append, List.length_append, namesL_cons, List.length_append, List.length_append]
    show _ + (_ + 0) ≤ _
    omega
  · rw [show t.names = q :: r from hq]; exact Nat.zero_lt_succ _
theorem atI_last {α : Type} {l r : List α} {x : α} (h : l = r ++ [x]) : atI l (-1) = some x := by
  have hl : l.length = r.length + 1 := by rw [h, List.length_append]; rfl
  unfold atI ixN
  rw [if_neg (by decide), if_pos (by omega), hl]
  show l[((-1 : Int) + ((r.length + 1 : Nat) : Int)).toNat]? = some x
  rw [show ((-1 : Int) + ((r.length + 1 : Nat) : Int)).toNat = r.length by omega, h, List.getElem?_append_right (Nat.le_refl _), Nat.sub_self]; rfl
end Rt

namespace Rt
open PySem L2
def belowR (rows : Rows) (x : Tx) : Rows := rows.filter (fun p => decide (p.1.take x.length = x))
theorem gone_back (rows : Rows) (x : Tx) : (goneR rows x).map (fun p => (x ++ p.1, p.2)) = belowR rows x := by
  unfold goneR belowR
  rw [List.map_map]
  refine (List.map_congr_left fun p hp => ?_).trans (List.map_id _)
  have h := of_decide_eq_true (List.mem_filter.mp hp).2
  have e : x ++ p.1.drop x.length = p.1 := by
    have q := List.take_append_drop x.length p.1
    rw [h] at q; exact q
  show (x ++ p.1.drop x.length, p.2) = p
  rw [e]
theorem belowR_len (rows : Rows) (x : Tx) : (belowR rows x).length ≤ rows.length := List.length_filter_le _ _
theorem goneR_len (rows : Rows) (x : Tx) : (goneR rows x).length ≤ rows.length := by
  unfold goneR; rw [List.length_map]; exact List.length_filter_le _ _
theorem CutR.tb {N : Nat} {t a b : OT} {x : Tx} (ht : Tb N t) (c : CutR t x a b) : Tb N a ∧ Tb N b := by
  have rep : Rep (OT.names t) t := ⟨ht.ok, rfl⟩
  obtain ⟨ra, rb⟩ := c.reps rep
  have lb : OT.h b ≤ OT.h t := OT.h_le rb.1 fun y n e => by
    have h := (rb.find y n).mp e
    have h2 := OT.len_h ht.ok ((rep.find _ _).mpr (goneR_mem.mp h))
    rw [List.length_append] at h2; omega
  have la := c.h1 ht.ok
  have hh := ht.h
  have hc := ht.cnt
  have n1 : (OT.names a).length ≤ (OT.names t).length := by rw [ra.2]; exact List.length_filter_le _ _
  have n2 : (OT.names b).length ≤ (OT.names t).length := by rw [rb.2]; exact goneR_len _ _
  have hs : ∀ u : OT, OT.h u ≤ OT.h t → (OT.names u).length ≤ (OT.names t).length → OT.ok u → OT.hs u ≤ OT.hs t := fun u h1 h2 h3 => by
    cases u with
    | none => exact Nat.zero_le _
    | some u =>
      cases t with
      | none =>
        have h4 : u.names.length ≤ 0 := h2
        exact absurd (List.eq_nil_of_length_eq_zero (by omega)) (T.names_ne h3)
      | some t => exact Nat.succ_le_succ h1
  exact ⟨⟨ra.1, Nat.lt_of_le_of_lt (hs a la n1 ra.1) hh, by omega⟩, ⟨rb.1, Nat.lt_of_le_of_lt (hs b lb n2 rb.1) hh, by omega⟩⟩
/-! what comes next -/
def dedF (a : List Tx) : List Tx → List Tx
  | [] => a
  | x :: l => dedF (if x ∈ a then a else a ++ [x]) l
theorem dedF_app : ∀ (a l m : List Tx), dedF a (l ++ m) = dedF (dedF a l) m
  | a, [], m => rfl
  | a, x :: l, m => dedF_app _ l m
theorem dedF_in : ∀ {a l : List Tx} {c : Tx}, (∀ x ∈ l, x = c) → c ∈ a → dedF a l = a
  | a, [], c, _, _ => rfl
  | a, x :: l, c, h, hc => by
    have e := h x List.mem_cons_self
    unfold dedF
    rw [e, if_pos hc]
    exact dedF_in (fun y hy => h y (List.mem_cons_of_mem _ hy)) hc
theorem dedF_const {a l : List Tx} {c : Tx} (h : ∀ x ∈ l, x = c) (hn : l ≠ []) (hc : c ∉ a) : dedF a l = a ++ [c] := by
  cases l with
  | nil => exact absurd rfl hn
  | cons x l =>
    have e := h x List.mem_cons_self
    unfold dedF
    rw [e, if_neg hc]
    exact dedF_in (fun y hy => h y (List.mem_cons_of_mem _ hy)) (List.mem_append_right _ List.mem_cons_self)
theorem dedF_names : ∀ (l : List (Tx × T)) (a : List Tx), (∀ p ∈ l, Ok1 p) → l.Pairwise (fun p q => p.1 < q.1) → (∀ p ∈ l, p.1 ∉ a) → dedF a ((namesL [] l).map fun p => p.1.take 1) = a ++ l.map (·.1)
  | [], a, _, _, _ => by simp [namesL, dedF]
  | (c, t) :: l, a, hk, hd, ha => by
    have k1 := hk (c, t) List.mem_cons_self
    obtain ⟨d1, d2⟩ := List.pairwise_cons.mp hd
    rw [namesL_cons, List.map_append, dedF_app, dedF_const (c := c) (fun x hx => ?_) (fun z => ?_) (ha (c, t) List.mem_cons_self)]
    · rw [dedF_names l (a ++ [c]) (fun p hp => hk p (List.mem_cons_of_mem _ hp)) d2 fun p hp z => ?_]
      · simp
      · rcases List.mem_append.mp z with z | z
        · exact ha p (List.mem_cons_of_mem _ hp) z
        · have := d1 p hp
          rw [List.mem_singleton.mp z] at this
          exact lt_ne this rfl
    · obtain ⟨p, hp, rfl⟩ := List.mem_map.mp hx
      obtain ⟨q, hq, rfl⟩ := List.mem_map.mp hp
      have := (sign_of (s := []) (c := c) (x := q.1) k1.len (k1.nm (x := q.1) (n := q.2) hq)).1
      simpa using this
    · rw [List.map_eq_nil_iff, List.map_eq_nil_iff] at z
      exact T.names_ne k1.ok z
def nextT : OT → List Tx
  | none => []
  | some (.leaf r _) => [r.take 1]
  | some (.fork s b) => if s = [] then b.signs else [s.take 1]
theorem nextT_is {t : OT} (h : OT.ok t) : dedF [] ((OT.names t).map fun p => p.1.take 1) = nextT t := by
  cases t with
  | none => rfl
  | some t =>
    cases t with
    | leaf r n => rfl
    | fork s b =>
      have hk : (T.fork s b).ok := h
      show dedF [] ((b.names s).map _) = (if s = [] then b.signs else [s.take 1])
      rw [B.names_flat]
      by_cases e : s = []
      · rw [if_pos e, e, dedF_names b.list [] (B.ok1 hk.2) ((B.ok_iff b).mp hk.2).2 (fun p _ z => by cases z)]
        rfl
      · rw [if_neg e]
        refine dedF_const (fun x hx => ?_) (fun z => ?_) (fun z => by cases z)
        · obtain ⟨p, hp, rfl⟩ := List.mem_map.mp hx
          rw [← B.names_flat] at hp
          obtain ⟨c, t, m, _, _, e2⟩ := B.mem_names.mp hp
          rw [e2, List.append_assoc]
          cases s with
          | nil => exact absurd rfl e
          | cons a r => rfl
        · rw [List.map_eq_nil_iff, ← B.names_flat] at z
          exact T.names_ne (t := .fork s b) hk z
theorem next_below {rows : Rows} {x : Tx} {b : OT} (rb : Rep (goneR rows x) b) : dedF [] ((belowR rows x).map fun p => (p.1.drop x.length).take 1) = nextT b := by
  rw [← nextT_is rb.1, rb.2, ← gone_back, List.map_map]
  congr 2
  funext p
  show ((x ++ p.1).drop x.length).take 1 = p.1.take 1
  rw [List.drop_left]
/-! what all begin with -/
theorem com_self : ∀ a : Tx, comL a a = a
  | [] => rfl
  | a :: r => by unfold comL; rw [if_pos rfl, com_self r]
theorem T.com_ends {t : T} (h : t.ok) : ∃ p q, t.names[0]? = some p ∧ (∃ r, t.names = r ++ [q]) ∧ comL p.1 q.1 = t.text := by
  cases t with
  | leaf r n => exact ⟨(r, n), (r, n), rfl, ⟨[], rfl⟩, com_self r⟩
  | fork s b =>
    obtain ⟨p, q, h1, h2, h3, _⟩ := T.fork_ends (s := s) (b := b) h
    exact ⟨p, q, h1, h2, h3⟩
theorem below_ends {rows : Rows} {x : Tx} {u : T} (rb : Rep (goneR rows x) (some u)) : ∃ p q, (belowR rows x)[0]? = some p ∧ (∃ r, belowR rows x = r ++ [q]) ∧ comL p.1 q.1 = x ++ u.text := by
  obtain ⟨p, q, h1, ⟨r, h2⟩, h3⟩ := T.com_ends (t := u) rb.1
  have e : u.names = goneR rows x := rb.2
  rw [e] at h1 h2
  refine ⟨(x ++ p.1, p.2), (x ++ q.1, q.2), ?_, ⟨r.map (fun p => (x ++ p.1, p.2)), ?_⟩, ?_⟩
  · rw [← gone_back, List.getElem?_map, h1]; rfl
  · rw [← gone_back, h2, List.map_append]; rfl
  · show comL (x ++ p.1) (x ++ q.1) = _
    rw [com_app, h3]
theorem below_none {rows : Rows} {x : Tx} (rb : Rep (goneR rows x) none) : belowR rows x = [] := by
  rw [← gone_back, ← rb.2]; rfl
/-! the longest kept beginning -/
structure Bst (f : Tx → Option Int) (X : Tx) (n : Nat) (o : Option Tx) : Prop where
  sm : ∀ y, o = some y → y <+: X ∧ f y ≠ none ∧ y.length < n ∧ ∀ z, z <+: X → f z ≠ none → z.length < n → z.length ≤ y.length
  nn : o = none → ∀ z, z <+: X → f z ≠ none → ¬ z.length < n
theorem Bst.zero (f : Tx → Option Int) (X : Tx) : Bst f X 0 none := ⟨fun y h => (by cases h), fun _ z _ _ h => (by omega)⟩
theorem Bst.more {f : Tx → Option Int} {X : Tx} {n m : Nat} {o : Option Tx} (b : Bst f X n o) (h : ∀ z, z <+: X → f z ≠ none → z.length < m → z.length < n) (hm : n ≤ m) : Bst f X m o :=
  ⟨fun y e => by
    obtain ⟨h1, h2, h3, h4⟩ := b.sm y e
    exact ⟨h1, h2, by omega, fun z p q l => h4 z p q (h z p q l)⟩, fun e z p q l => b.nn e z p q (h z p q l)⟩
theorem Bst.take {f : Tx → Option Int} {X y : Tx} (h1 : y <+: X) (h2 : f y ≠ none) : Bst f X (y.length + 1) (some y) :=
  ⟨fun z e => (by cases e; exact ⟨h1, h2, by omega, fun z _ _ l => by omega⟩), fun e => (by cases e)⟩
theorem pre_len {a b X : Tx} (h1 : a <+: X) (h2 : b <+: X) (h : a.length = b.length) : a = b := by
  rw [List.prefix_iff_eq_take.mp h1, List.prefix_iff_eq_take.mp h2, h]
theorem Bst.uniq {f : Tx → Option Int} {X : Tx} {n : Nat} {o o' : Option Tx} (b : Bst f X n o) (b' : Bst f X n o') : o = o' := by
  cases o with
  | none =>
    cases o' with
    | none => rfl
    | some y =>
      obtain ⟨h1, h2, h3, _⟩ := b'.sm y rfl
      exact absurd h3 (b.nn rfl y h1 h2)
  | some y =>
    obtain ⟨h1, h2, h3, h4⟩ := b.sm y rfl
    cases o' with
    | none => exact absurd h3 (b'.nn rfl y h1 h2)
    | some z =>
      obtain ⟨k1, k2, k3, k4⟩ := b'.sm z rfl
      have l1 := h4 z k1 k2 k3
      have l2 := k4 y h1 h2 h3
      rw [pre_len h1 k1 (by omega)]
def lastO : List Tx → Option Tx
  | [] => none
  | [x] => some x
  | _ :: x :: l => lastO (x :: l)
theorem lastO_is : ∀ {l : List Tx}, l.Pairwise (· < ·) → ∀ y, lastO l = some y → y ∈ l ∧ ∀ z ∈ l, z < y ∨ z = y
  | [], _, y, h => by cases h
  | [x], _, y, h => by
    cases h
    exact ⟨List.mem_cons_self, fun z hz => .inr (List.mem_singleton.mp hz)⟩
  | x :: x' :: l, hp, y, h => by
    obtain ⟨h1, h2⟩ := List.pairwise_cons.mp hp
    obtain ⟨k1, k2⟩ := lastO_is h2 y h
    refine ⟨List.mem_cons_of_mem _ k1, fun z hz => ?_⟩
    rcases List.mem_cons.mp hz with rfl | hz
    · exact .inl (h1 y k1)
    · exact k2 z hz
theorem lastO_none : ∀ {l : List Tx}, lastO l = none → l = []
  | [], _ => rfl
  | [x], h => by cases h
  | x :: x' :: l, h => by have := lastO_none (l := x' :: l) h; cases this
theorem pre_lt {a b : Tx} (h : a <+: b) : a < b ∨ a = b := by
  rcases lt_tot a b with q | q | q
  · exact .inl q
  · exact .inr q
  · exfalso
    obtain ⟨r, rfl⟩ := h
    induction a with
    | nil => cases r <;> cases q
    | cons x a ih =>
      cases q with
      | rel h => exact absurd h (Nat.lt_irrefl _)
      | cons h => exact ih h
/-- the rows' names with which a text begins; the last one is the longest -/
def aheadOf (rows : Rows) (X : Tx) : List Tx := (rows.filter (fun p => decide (X.take p.1.length = p.1))).map (·.1)
theorem aheadOf_bst {rows : Rows} {t : OT} (rep : Rep rows t) (hs : Srt rows) (X : Tx) : Bst (OT.find t) X (X.length + 1) (lastO (aheadOf rows X)) := by
  have hp : (aheadOf rows X).Pairwise (· < ·) := List.pairwise_map.mpr (List.Pairwise.filter _ hs)
  have mem : ∀ z, z ∈ aheadOf rows X ↔ z <+: X ∧ OT.find t z ≠ none := fun z => by
    unfold aheadOf
    rw [List.mem_map]
    constructor
    · rintro ⟨p, hp, rfl⟩
      obtain ⟨h1, h2⟩ := List.mem_filter.mp hp
      have h3 := of_decide_eq_true h2
      exact ⟨by rw [← h3]; exact List.take_prefix _ _, fun e => by
        have := (rep.find p.1 p.2).mpr h1
        rw [e] at this; cases this⟩
    · rintro ⟨h1, h2⟩
      obtain ⟨n, hn⟩ := Option.ne_none_iff_exists'.mp h2
      exact ⟨(z, n), List.mem_filter.mpr ⟨(rep.find z n).mp hn, decide_eq_true (List.prefix_iff_eq_take.mp h1).symm⟩, rfl⟩
  refine ⟨fun y e => ?_, fun e z h1 h2 => ?_⟩
  · obtain ⟨k1, k2⟩ := lastO_is hp y e
    obtain ⟨m1, m2⟩ := (mem y).mp k1
    refine ⟨m1, m2, by have := m1.length_le; omega, fun z h1 h2 _ => ?_⟩
    rcases Nat.lt_or_ge y.length z.length with q | q
    · have hyz : y <+: z := by
        rw [List.prefix_iff_eq_take.mp m1, List.prefix_iff_eq_take.mp h1]
        exact List.take_prefix_take_left (by omega)
      rcases k2 z ((mem z).mpr ⟨h1, h2⟩) with r | r
      · rcases pre_lt hyz with s | s
        · exact absurd (lt_tr r s) (lt_irr _)
        · rw [s]; exact Nat.le_refl _
      · rw [r]; exact Nat.le_refl _
    · exact q
  · have := (mem z).mpr ⟨h1, h2⟩
    rw [lastO_none e] at this; cases this
end Rt

namespace Rt
open PySem L2
theorem mem_dedF : ∀ {l a : List Tx} {x : Tx}, x ∈ dedF a l → x ∈ a ∨ x ∈ l
  | [], a, x, h => .inl h
  | y :: l, a, x, h => by
    unfold dedF at h
    rcases mem_dedF h with q | q
    · split at q
      · exact .inl q
      · rcases List.mem_append.mp q with q | q
        · exact .inl q
        · exact .inr (by rw [List.mem_singleton.mp q]; exact List.mem_cons_self)
    · exact .inr (List.mem_cons_of_mem _ q)
theorem len_dedF : ∀ (l a : List Tx), (dedF a l).length ≤ a.length + l.length
  | [], a => Nat.le_refl _
  | y :: l, a => by
    unfold dedF
    have h := len_dedF l (if y ∈ a then a else a ++ [y])
    have : (if y ∈ a then a else a ++ [y]).length ≤ a.length + 1 := by split <;> simp
    rw [List.length_cons]; omega
theorem strs_al {l : List Tx} (h : ∀ x ∈ l, okT x) (hc : l.length ≤ 10000) : D.al 2 (.lst (l.map D.str)) := by
  refine ⟨by rw [List.length_map]; exact hc, fun d m => ?_⟩
  obtain ⟨x, hx, rfl⟩ := List.mem_map.mp m
  exact okT_cps (h x hx)
theorem strs_gd {l : List Tx} (h : ∀ x ∈ l, okT x) : (D.lst (l.map D.str)).gd 1 := fun d m => by
  obtain ⟨x, hx, rfl⟩ := List.mem_map.mp m
  exact okT_cps (h x hx)
theorem Good.below {rows : Rows} (g : Good rows) (x : Tx) : Good (belowR rows x) := by
  have sub : ∀ p ∈ belowR rows x, p ∈ rows := fun p hp => (List.mem_filter.mp hp).1
  exact ⟨List.Pairwise.filter _ g.srt, fun p hp => g.ok p (sub p hp), fun p hp => g.len p (sub p hp), Nat.le_trans (belowR_len _ _) g.cnt, fun p hp => g.num p (sub p hp)⟩
theorem nextT_good {rows : Rows} {x : Tx} {b : OT} (g : Good rows) (rb : Rep (goneR rows x) b) : (∀ s ∈ nextT b, okT s) ∧ (nextT b).length ≤ 150 := by
  rw [← next_below rb]
  have gb := g.below x
  refine ⟨fun s hs => ?_, ?_⟩
  · rcases mem_dedF hs with q | q
    · cases q
    · obtain ⟨p, hp, rfl⟩ := List.mem_map.mp q
      exact okT_take _ (okT_drop _ (gb.ok p hp))
  · have h1 := len_dedF ((belowR rows x).map fun p => (p.1.drop x.length).take 1) []
    have h2 := gb.cnt
    rw [List.length_map] at h1
    simp only [List.length_nil] at h1
    omega
theorem lastO_at : ∀ {l : List Tx}, l ≠ [] → ∃ r y, l = r ++ [y] ∧ lastO l = some y
  | [], h => absurd rfl h
  | [x], _ => ⟨[], x, rfl, rfl⟩
  | x :: x' :: l, _ => by
    obtain ⟨r, y, h1, h2⟩ := lastO_at (l := x' :: l) (by intro z; cases z)
    exact ⟨x :: r, y, by rw [h1]; rfl, h2⟩
theorem take_both {a b : Tx} {k : Nat} (h : a.take (k + 1) = b.take (k + 1)) (hk : k < a.length) : k < b.length ∧ a[k]? = b[k]? := by
  have e := congrArg List.length h
  rw [List.length_take, List.length_take] at e
  have hb : k < b.length := by omega
  have q : (a.take (k + 1))[k]? = (b.take (k + 1))[k]? := by rw [h]
  rw [List.getElem?_take_of_lt (Nat.lt_succ_self k), List.getElem?_take_of_lt (Nat.lt_succ_self k)] at q
  exact ⟨hb, q⟩
end Rt

namespace Rt
open PySem L2
mutual
def T.knots : T → Rows
  | .leaf r _ => [(r, 0)]
  | .fork s b => (s, (b.list.length : Int)) :: b.knots s
def B.knots (s : Tx) : B → Rows
  | .nil => []
  | .cons c t r => t.knots.map (fun p => (s ++ c ++ p.1, p.2)) ++ r.knots s
end
def OT.knots : OT → Rows
  | none => []
  | some t => t.knots
def knotsL (s : Tx) (l : List (Tx × T)) : Rows := l.flatMap fun p => p.2.knots.map fun q => (s ++ p.1 ++ q.1, q.2)
theorem B.knots_flat (s : Tx) : ∀ b : B, b.knots s = knotsL s b.list
  | .nil => rfl
  | .cons c t r => by rw [B.knots, B.knots_flat s r]; rfl
theorem knotsL_app (s : Tx) (l m : List (Tx × T)) : knotsL s (l ++ m) = knotsL s l ++ knotsL s m := List.flatMap_append ..
mutual
theorem T.klen_h : ∀ (t : T) (x : Tx) (n : Int), (x, n) ∈ t.knots → x.length ≤ t.h
  | .leaf r m, x, n, h => by
    have e := List.mem_singleton.mp h
    injection e with e1 e2
    rw [e1]; exact Nat.le_refl _
  | .fork s b, x, n, h => by
    rcases List.mem_cons.mp h with e | h
    · injection e with e1 e2
      rw [e1]; show s.length ≤ s.length + b.h; omega
    · exact B.klen_h s b x n h
theorem B.klen_h (s : Tx) : ∀ (b : B) (x : Tx) (n : Int), (x, n) ∈ b.knots s → x.length ≤ s.length + b.h
  | .nil, x, n, h => by cases h
  | .cons c t r, x, n, h => by
    rcases List.mem_append.mp h with h | h
    · obtain ⟨q, hq, e⟩ := List.mem_map.mp h
      injection e with e1 e2
      have := T.klen_h t q.1 q.2 hq
      rw [← e1, List.length_append, List.length_append]
      show s.length + c.length + q.1.length ≤ s.length + max (c.length + t.h) r.h
      omega
    · have := B.klen_h s r x n h
      show _ ≤ s.length + max (c.length + t.h) r.h
      omega
end
mutual
theorem T.kcnt : ∀ (t : T), t.ok → t.knots.length + 1 ≤ 2 * t.names.length
  | .leaf r m, _ => Nat.le_refl _
  | .fork s b, h => by
    have := B.kcnt s b h.2
    have h2 := h.1
    show (b.knots s).length + 1 + 1 ≤ 2 * (b.names s).length
    omega
theorem B.kcnt (s : Tx) : ∀ (b : B), b.ok → (b.knots s).length + b.list.length ≤ 2 * (b.names s).length
  | .nil, _ => Nat.le_refl _
  | .cons c t r, h => by
    have h1 := T.kcnt t h.2.1
    have h2 := B.kcnt s r h.2.2.2.2
    unfold B.knots B.names B.list
    rw [List.length_append, List.length_append, List.length_map, List.length_map, List.length_cons]
    omega
end
end Rt

namespace Rt
open PySem L2
def cntS (rows : Rows) (p : Tx) : Nat := (dedF [] ((belowR rows p).map fun q => (q.1.drop p.length).take 1)).length
theorem ded_const_le {l : List Tx} {c : Tx} (h : ∀ x ∈ l, x = c) : (dedF [] l).length ≤ 1 := by
  by_cases e : l = []
  · rw [e]; exact Nat.zero_le _
  · rw [dedF_const h e (by intro z; cases z)]; exact Nat.le_refl _
theorem cnt_under {t : OT} {y : Tx} {b : OT} (h : OT.ok t) (hb : OT.ok b) (f : ∀ z, OT.find b z = OT.find t (y ++ z)) : cntS (OT.names t) y = (nextT b).length := by
  have rep : Rep (OT.names t) t := ⟨h, rfl⟩
  have rb : Rep (goneR (OT.names t) y) b := Rep.of hb (goneR_srt rep.srt y) fun z n => by rw [f, rep.find, goneR_mem]
  unfold cntS
  rw [next_below rb]
theorem cnt_leaf (r : Tx) (n : Int) (y : Tx) : cntS [(r, n)] y ≤ 1 := by
  unfold cntS
  have h1 := len_dedF ((belowR [(r, n)] y).map fun q => (q.1.drop y.length).take 1) []
  have h2 := belowR_len [(r, n)] y
  rw [List.length_map] at h1
  have h3 : [(r, n)].length = 1 := rfl
  simp only [List.length_nil] at h1
  omega
theorem cnt_short {s : Tx} {b : B} {y : Tx} (hy : y.length < s.length) : cntS (b.names s) y ≤ 1 := by
  refine ded_const_le (c := (s.drop y.length).take 1) fun x hx => ?_
  obtain ⟨q, hq, rfl⟩ := List.mem_map.mp hx
  obtain ⟨c, t, m, _, _, e⟩ := B.mem_names.mp (List.mem_filter.mp hq).1
  rw [e, List.append_assoc, List.drop_append_of_le_length (Nat.le_of_lt hy)]
  have : 1 ≤ (s.drop y.length).length := by rw [List.length_drop]; omega
  rw [List.take_append_of_le_length this]
theorem namesL_pre (s : Tx) (l : List (Tx × T)) : namesL s l = (namesL [] l).map fun q => (s ++ q.1, q.2) := by
  unfold namesL
  rw [List.map_flatMap]
  congr 1
  funext p
  rw [List.map_map]
  exact List.map_congr_left fun q _ => by show (s ++ p.1 ++ q.1, q.2) = (s ++ ([] ++ p.1 ++ q.1), q.2); simp
theorem cnt_fork {s : Tx} {b : B} (h : (T.fork s b).ok) : cntS (b.names s) s = b.list.length := by
  have e : belowR (b.names s) s = b.names s := List.filter_eq_self.mpr fun q hq => by
    obtain ⟨c, t, m, _, _, e⟩ := B.mem_names.mp hq
    rw [e, List.append_assoc, List.take_left]; exact decide_eq_true rfl
  unfold cntS
  rw [e, B.names_flat, namesL_pre, List.map_map]
  have e2 : ((fun q : Tx × Int => (q.1.drop s.length).take 1) ∘ fun q : Tx × Int => (s ++ q.1, q.2)) = fun q => q.1.take 1 := by
    funext q
    show ((s ++ q.1).drop s.length).take 1 = q.1.take 1
    rw [List.drop_left]
  rw [e2, dedF_names b.list [] (B.ok1 h.2) ((B.ok_iff b).mp h.2).2 (fun p _ z => by cases z)]
  simp
theorem cnt_sub {s c : Tx} {b : B} {u : T} (h : (T.fork s b).ok) (hm : (c, u) ∈ b.list) (hc : c ≠ []) (y : Tx) : cntS (b.names s) (s ++ c ++ y) = cntS u.names y := by
  have hu := (B.ok_sub h.2 hm).2.1
  obtain ⟨b0, h1, h2⟩ := ex_under (t := some u) hu y
  have e2 : cntS u.names y = (nextT b0).length := cnt_under (t := some u) hu h1 h2
  have e1 : cntS (b.names s) (s ++ c ++ y) = (nextT b0).length := cnt_under (t := some (.fork s b)) h h1 fun z => by
    rw [h2]
    show u.find (y ++ z) = (T.fork s b).find (s ++ c ++ y ++ z)
    rw [← T.find_at h.2 hm (x := y ++ z) (fun e => absurd e hc)]
    congr 1
    simp
  rw [e1, e2]
/-! the law's own count -/
def stK (c : Tx → Nat) (due : Rows) (p : Tx) : Rows := if 1 < c p ∧ (p, (c p : Int)) ∉ due then due ++ [(p, (c p : Int))] else due
def preK (c : Tx → Nat) (due : Rows) (x : Tx) (n : Nat) : Rows := (List.range n).foldl (fun d k => stK c d (x.take k)) due
def rowP (c : Tx → Nat) (due : Rows) (x : Tx) : Rows := preK c due x (x.length + 1) ++ [(x, 0)]
def procK (c : Tx → Nat) (due : Rows) (xs : List Tx) : Rows := xs.foldl (rowP c) due
theorem preK_succ (c : Tx → Nat) (due : Rows) (x : Tx) (n : Nat) : preK c due x (n + 1) = stK c (preK c due x n) (x.take n) := by
  unfold preK; rw [List.range_succ, List.foldl_append]; rfl
theorem stK_skip {c : Tx → Nat} {due : Rows} {p : Tx} (h : c p ≤ 1 ∨ (p, (c p : Int)) ∈ due) : stK c due p = due := if_neg fun z => by
  rcases h with q | q
  · omega
  · exact z.2 q
theorem preK_skip {c : Tx → Nat} {due : Rows} {x : Tx} : ∀ (n : Nat), (∀ k, k < n → c (x.take k) ≤ 1 ∨ (x.take k, (c (x.take k) : Int)) ∈ due) → preK c due x n = due
  | 0, _ => rfl
  | n + 1, h => by
    rw [preK_succ, preK_skip n fun k hk => h k (by omega)]
    exact stK_skip (h n (by omega))
/-- from a place on -/
theorem preK_eq {c : Tx → Nat} {d1 d2 : Rows} {x : Tx} {m : Nat} (h : preK c d1 x m = preK c d2 x m) : ∀ n, m ≤ n → preK c d1 x n = preK c d2 x n
  | 0, hn => by rw [← Nat.le_zero.mp hn]; exact h
  | n + 1, hn => by
    rcases Nat.lt_or_ge n m with q | q
    · rw [show n + 1 = m by omega]; exact h
    · rw [preK_succ, preK_succ, preK_eq h n q]
theorem take_pre {P x : Tx} (h : P <+: x) {k : Nat} (hk : k ≤ P.length) : x.take k = P.take k := by
  obtain ⟨r, rfl⟩ := h
  exact List.take_append_of_le_length hk
theorem rowP_first {c : Tx → Nat} {due : Rows} {x P : Tx} (hp : P <+: x) (hs : ∀ k, k < P.length → c (P.take k) ≤ 1 ∨ (P.take k, (c (P.take k) : Int)) ∈ due) (h1 : 1 < c P) (h2 : (P, (c P : Int)) ∉ due) :
    rowP c due x = rowP c (due ++ [(P, (c P : Int))]) x := by
  have hl := hp.length_le
  have e1 : preK c due x P.length = due := preK_skip _ fun k hk => by rw [take_pre hp (Nat.le_of_lt hk)]; exact hs k hk
  have e2 : preK c (due ++ [(P, (c P : Int))]) x P.length = due ++ [(P, (c P : Int))] := preK_skip _ fun k hk => by
    rw [take_pre hp (Nat.le_of_lt hk)]
    exact (hs k hk).imp id fun z => List.mem_append_left _ z
  have e : preK c due x (P.length + 1) = preK c (due ++ [(P, (c P : Int))]) x (P.length + 1) := by
    rw [preK_succ, preK_succ, e1, e2, take_pre hp (Nat.le_refl _), List.take_length, stK_skip (.inr (List.mem_append_right _ List.mem_cons_self))]
    exact if_pos ⟨h1, h2⟩
  unfold rowP
  rw [preK_eq e _ (by omega)]
theorem procK_app (c : Tx → Nat) (due : Rows) (a b : List Tx) : procK c due (a ++ b) = procK c (procK c due a) b := List.foldl_append ..
theorem rowP_all {c : Tx → Nat} {due : Rows} {x : Tx} (h : ∀ k, k ≤ x.length → c (x.take k) ≤ 1 ∨ (x.take k, (c (x.take k) : Int)) ∈ due) : rowP c due x = due ++ [(x, 0)] := by
  unfold rowP; rw [preK_skip _ fun k hk => h k (by omega)]
theorem procK_list {c : Tx → Nat} {p s : Tx} : ∀ (l : List (Tx × T)) (due : Rows), (∀ q ∈ l, Ok1 q) → l.Pairwise (fun q r => q.1 < r.1) →
    (∀ q ∈ l, ∀ (p : Tx) (due : Rows), (∀ y, c (p ++ y) = cntS q.2.names y) → (∀ k, k < p.length → c (p.take k) ≤ 1 ∨ (p.take k, (c (p.take k) : Int)) ∈ due) → (∀ y n, (p ++ y, n) ∈ due → n ≤ 1) → procK c due (q.2.names.map fun r => p ++ r.1) = due ++ q.2.knots.map fun r => (p ++ r.1, r.2)) →
    (∀ k, k < (p ++ s).length → c ((p ++ s).take k) ≤ 1 ∨ ((p ++ s).take k, (c ((p ++ s).take k) : Int)) ∈ due) → (p ++ s, (c (p ++ s) : Int)) ∈ due →
    (∀ q ∈ l, q.1 ≠ [] → ∀ y, c (p ++ s ++ q.1 ++ y) = cntS q.2.names y) → (∀ q ∈ l, q.1 ≠ [] → ∀ y n, (p ++ s ++ q.1 ++ y, n) ∈ due → n ≤ 1) →
    procK c due ((namesL s l).map fun r => p ++ r.1) = due ++ (knotsL s l).map fun r => (p ++ r.1, r.2)
  | [], due, _, _, _, _, _, _, _ => by simp [namesL, knotsL, procK]
  | (ch, u) :: l, due, hk, hd, ih, hs, hP, hc, hn => by
    obtain ⟨d1, d2⟩ := List.pairwise_cons.mp hd
    have k1 := hk (ch, u) List.mem_cons_self
    have e1 : procK c due ((u.names.map fun q => (s ++ ch ++ q.1, q.2)).map fun r => p ++ r.1) = due ++ (u.knots.map fun q => (s ++ ch ++ q.1, q.2)).map fun r => (p ++ r.1, r.2) := by
      by_cases hch : ch = []
      · obtain ⟨n, hu⟩ := k1.nil hch
        have hu' : u = .leaf [] n := hu
        subst hch
        rw [hu']
        show rowP c due (p ++ (s ++ [] ++ [])) = due ++ [(p ++ (s ++ [] ++ []), 0)]
        rw [List.append_nil, List.append_nil]
        refine rowP_all fun k hk => ?_
        rcases Nat.lt_or_ge k (p ++ s).length with q | q
        · exact hs k q
        · rw [List.take_of_length_le q]; exact .inr hP
      · have := ih (ch, u) List.mem_cons_self (p ++ s ++ ch) due (hc (ch, u) List.mem_cons_self hch) (fun k hk => ?_) (hn (ch, u) List.mem_cons_self hch)
        · rw [List.map_map, List.map_map]
          have f1 : ((fun r : Tx × Int => p ++ r.1) ∘ fun q : Tx × Int => (s ++ ch ++ q.1, q.2)) = fun r => p ++ s ++ ch ++ r.1 := by funext r; simp
          have f2 : ((fun r : Tx × Int => (p ++ r.1, r.2)) ∘ fun q : Tx × Int => (s ++ ch ++ q.1, q.2)) = fun r => (p ++ s ++ ch ++ r.1, r.2) := by funext r; simp
          rw [f1, f2]; exact this
        · have hl : ch.length ≤ 1 := k1.len
          rw [List.length_append] at hk
          rcases Nat.lt_or_ge k (p ++ s).length with q | q
          · rw [List.take_append_of_le_length (Nat.le_of_lt q)]; exact hs k q
          · have : k = (p ++ s).length := by omega
            rw [this, List.take_left]; exact .inr hP
    rw [namesL_cons, List.map_append, procK_app, e1]
    rw [procK_list l _ (fun q hq => hk q (List.mem_cons_of_mem _ hq)) d2 (fun q hq => ih q (List.mem_cons_of_mem _ hq)) (fun k hk => (hs k hk).imp id fun z => List.mem_append_left _ z) (List.mem_append_left _ hP)
      (fun q hq => hc q (List.mem_cons_of_mem _ hq)) (fun q hq hq0 y n hm => ?_)]
    · rw [List.append_assoc, ← List.map_append]; rfl
    · rcases List.mem_append.mp hm with z | z
      · exact hn q (List.mem_cons_of_mem _ hq) hq0 y n z
      · exfalso
        obtain ⟨r, hr, e⟩ := List.mem_map.mp z
        obtain ⟨r2, hr2, rfl⟩ := List.mem_map.mp hr
        injection e with e _
        have e2 : p ++ s ++ (ch ++ r2.1) = p ++ s ++ (q.1 ++ y) := by simpa using e
        have e3 := List.append_cancel_left e2
        have lq := (hk q (List.mem_cons_of_mem _ hq)).len
        have lc : ch.length ≤ 1 := k1.len
        have hne : ch ≠ q.1 := lt_ne (d1 q hq)
        cases h1 : q.1 with
        | nil => exact hq0 h1
        | cons a r3 =>
          rw [h1] at e3 lq hne
          have : r3 = [] := by cases r3 with
            | nil => rfl
            | cons _ _ => exact absurd lq (by simp)
          subst this
          cases h2 : ch with
          | nil =>
            obtain ⟨n0, hu⟩ := k1.nil h2
            have hu' : u = .leaf [] n0 := hu
            rw [hu'] at hr2
            have : r2 = ([], 0) := List.mem_singleton.mp hr2
            rw [h2, this] at e3; cases e3
          | cons a2 r4 =>
            rw [h2] at e3 lc hne
            have : r4 = [] := by cases r4 with
              | nil => rfl
              | cons _ _ => exact absurd lc (by simp)
            subst this
            exact hne (by rw [List.head_eq_of_cons_eq e3])
mutual
theorem T.procK (c : Tx → Nat) : ∀ (t : T), t.ok → ∀ (p : Tx) (due : Rows), (∀ y, c (p ++ y) = cntS t.names y) → (∀ k, k < p.length → c (p.take k) ≤ 1 ∨ (p.take k, (c (p.take k) : Int)) ∈ due) → (∀ y n, (p ++ y, n) ∈ due → n ≤ 1) →
    Rt.procK c due (t.names.map fun r => p ++ r.1) = due ++ t.knots.map fun r => (p ++ r.1, r.2)
  | .leaf r n, _, p, due, hc, hs, hn => by
    show rowP c due (p ++ r) = due ++ [(p ++ r, 0)]
    refine rowP_all fun k hk => ?_
    rcases Nat.lt_or_ge k p.length with q | q
    · rw [List.take_append_of_le_length (Nat.le_of_lt q)]; exact hs k q
    · refine .inl ?_
      rw [List.take_append, List.take_of_length_le q, hc]
      exact cnt_leaf r n _
  | .fork s b, h, p, due, hc, hs, hn => by
    have cP : c (p ++ s) = b.list.length := by rw [hc]; exact cnt_fork h
    have hsk : ∀ k, k < (p ++ s).length → c ((p ++ s).take k) ≤ 1 ∨ ((p ++ s).take k, (c ((p ++ s).take k) : Int)) ∈ due := fun k hk => by
      rw [List.length_append] at hk
      rcases Nat.lt_or_ge k p.length with q | q
      · rw [List.take_append_of_le_length (Nat.le_of_lt q)]; exact hs k q
      · refine .inl ?_
        rw [List.take_append, List.take_of_length_le q, hc]
        exact cnt_short (by rw [List.length_take]; omega)
    have h2 : 1 < c (p ++ s) := by rw [cP]; exact h.1
    have hnin : (p ++ s, (c (p ++ s) : Int)) ∉ due := fun z => by have := hn s _ z; omega
    have hlist := B.procK c b h.2
    have go : Rt.procK c (due ++ [(p ++ s, (c (p ++ s) : Int))]) ((b.names s).map fun r => p ++ r.1) = due ++ [(p ++ s, (c (p ++ s) : Int))] ++ (b.knots s).map fun r => (p ++ r.1, r.2) := by
      rw [B.names_flat, B.knots_flat]
      refine procK_list b.list _ (B.ok1 h.2) ((B.ok_iff b).mp h.2).2 hlist (fun k hk => (hsk k hk).imp id fun z => List.mem_append_left _ z) (List.mem_append_right _ List.mem_cons_self) (fun q hq hq0 y => ?_) (fun q hq hq0 y n hm => ?_)
      · rw [List.append_assoc, List.append_assoc, hc, ← List.append_assoc]
        exact cnt_sub h hq hq0 y
      · rcases List.mem_append.mp hm with z | z
        · refine hn (s ++ q.1 ++ y) n ?_
          have e : p ++ (s ++ q.1 ++ y) = p ++ s ++ q.1 ++ y := by simp
          rw [e]; exact z
        · exfalso
          have e := List.mem_singleton.mp z
          injection e with e _
          have e2 : p ++ s ++ (q.1 ++ y) = p ++ s ++ [] := by simpa using e
          have e3 := List.append_cancel_left e2
          exact hq0 (List.append_eq_nil_iff.mp e3).1
    obtain ⟨x, r, hx⟩ := T.names_head (t := .fork s b) h
    have hx' : b.names s = x :: r := hx
    have first : Rt.procK c due ((b.names s).map fun r => p ++ r.1) = Rt.procK c (due ++ [(p ++ s, (c (p ++ s) : Int))]) ((b.names s).map fun r => p ++ r.1) := by
      rw [hx', List.map_cons]
      show List.foldl _ (rowP c due (p ++ x.1)) _ = List.foldl _ (rowP c _ (p ++ x.1)) _
      rw [← rowP_first (P := p ++ s) ?_ hsk h2 hnin]
      obtain ⟨ch, t, m, _, _, e⟩ := B.mem_names.mp (show x ∈ b.names s by rw [hx']; exact List.mem_cons_self)
      rw [e]
      exact ⟨ch ++ m, by simp⟩
    show Rt.procK c due ((b.names s).map fun r => p ++ r.1) = due ++ ((s, (b.list.length : Int)) :: b.knots s).map fun r => (p ++ r.1, r.2)
    rw [first, go, List.map_cons, cP, List.append_assoc]; rfl
theorem B.procK (c : Tx → Nat) : ∀ (b : B), b.ok → ∀ q ∈ b.list, ∀ (p : Tx) (due : Rows), (∀ y, c (p ++ y) = cntS q.2.names y) → (∀ k, k < p.length → c (p.take k) ≤ 1 ∨ (p.take k, (c (p.take k) : Int)) ∈ due) → (∀ y n, (p ++ y, n) ∈ due → n ≤ 1) →
    Rt.procK c due (q.2.names.map fun r => p ++ r.1) = due ++ q.2.knots.map fun r => (p ++ r.1, r.2)
  | .nil, _, q, hq => by cases hq
  | .cons ch u r, h, q, hq => by
    rcases List.mem_cons.mp hq with e | hq
    · rw [e]; exact T.procK c u h.2.1
    · exact B.procK c r h.2.2.2.2 q hq
end
theorem knots_law {rows : Rows} {t : OT} (rep : Rep rows t) : procK (cntS rows) [] (rows.map (·.1)) = OT.knots t := by
  rw [← rep.2]
  cases t with
  | none => rfl
  | some t =>
    have := T.procK (cntS t.names) t rep.1 [] [] (fun y => rfl) (fun k hk => by cases hk) (fun y n z => by cases z)
    have e : (fun r : Tx × Int => ([] : Tx) ++ r.1) = fun r => r.1 := by funext r; simp
    have e2 : (fun r : Tx × Int => (([] : Tx) ++ r.1, r.2)) = fun r => r := by funext r; simp
    rw [e, e2, List.nil_append, List.map_id'] at this
    exact this
end Rt

namespace Rt
open PySem L2
mutual
theorem T.knot_pre : ∀ (t : T), t.ok → ∀ (x : Tx) (n : Int), (x, n) ∈ t.knots → n ≠ 1 ∧ ∃ y m, (y, m) ∈ t.names ∧ x <+: y
  | .leaf r m, _, x, n, h => by
    have e := List.mem_singleton.mp h
    injection e with e1 e2
    exact ⟨by rw [e2]; decide, r, m, List.mem_cons_self, by rw [e1]; exact List.prefix_refl _⟩
  | .fork s b, hk, x, n, h => by
    rcases List.mem_cons.mp h with e | h
    · injection e with e1 e2
      have h2 := hk.1
      obtain ⟨q, r, hq⟩ := T.names_head (t := .fork s b) hk
      have hq' : b.names s = q :: r := hq
      refine ⟨by omega, q.1, q.2, by show (q.1, q.2) ∈ b.names s; rw [hq']; exact List.mem_cons_self, ?_⟩
      obtain ⟨c, t, m, _, _, e3⟩ := B.mem_names.mp (show q ∈ b.names s by rw [hq']; exact List.mem_cons_self)
      rw [e1, e3, List.append_assoc]
      exact List.prefix_append _ _
    · exact B.knot_pre s b hk.2 x n h
theorem B.knot_pre (s : Tx) : ∀ (b : B), b.ok → ∀ (x : Tx) (n : Int), (x, n) ∈ b.knots s → n ≠ 1 ∧ ∃ y m, (y, m) ∈ b.names s ∧ x <+: y
  | .nil, _, x, n, h => by cases h
  | .cons c t r, hk, x, n, h => by
    rcases List.mem_append.mp h with h | h
    · obtain ⟨q, hq, e⟩ := List.mem_map.mp h
      injection e with e1 e2
      obtain ⟨h1, y, m, h2, h3⟩ := T.knot_pre t hk.2.1 q.1 q.2 hq
      refine ⟨by rw [← e2]; exact h1, s ++ c ++ y, m, List.mem_append_left _ (List.mem_map.mpr ⟨(y, m), h2, rfl⟩), ?_⟩
      rw [← e1]
      exact (List.prefix_append_right_inj _).mpr h3
    · obtain ⟨h1, y, m, h2, h3⟩ := B.knot_pre s r hk.2.2.2.2 x n h
      exact ⟨h1, y, m, List.mem_append_right _ h2, h3⟩
end
theorem OT.knots_ok {t : OT} (h : OT.ok t) (hk : ∀ p ∈ OT.names t, okT p.1) : ∀ p ∈ OT.knots t, okT p.1 := fun p hp => by
  cases t with
  | none => cases hp
  | some t =>
    obtain ⟨_, y, m, h2, h3⟩ := T.knot_pre t h p.1 p.2 hp
    exact fun c hc => hk (y, m) h2 c (h3.subset hc)
theorem OT.knot_ne1 {t : OT} (h : OT.ok t) : ∀ p ∈ OT.knots t, p.2 ≠ 1 := fun p hp => by
  cases t with
  | none => cases hp
  | some t => exact (T.knot_pre t h p.1 p.2 hp).1
theorem OT.kcnt {t : OT} (h : OT.ok t) : (OT.knots t).length ≤ 2 * (OT.names t).length := by
  cases t with
  | none => exact Nat.le_refl _
  | some t =>
    have := T.kcnt t h
    show t.knots.length ≤ 2 * t.names.length
    omega
end Rt

namespace Rt
open PySem PySem.Spec PyProof.Rows L2
section
variable {P : Program} {w : World} {K : PySem.W.Frag} {mg : Str → Option Value} {base : Heap}
def Rwhole : List D → D → Prop := fun ds d => ∃ i : Int, ds = [.int i] ∧ d = .bl true
theorem Rwhole_mk {i : Int} : Rwhole [.int i] (.bl true) := ⟨i, rfl, rfl⟩
local macro_rules | `(tactic| walk_at "call") => `(tactic| with_reducible exact Rt.Rwhole_mk)
theorem cal_whole (F : Dfn K mg "_law_whole" s__law_whole ["_law_told"]) (BU : Bl mg) : Cal P w K mg base CX0 1 "_law_whole" (Fn K Rwhole) := by
  refine cal_fn F sc__law_whole (fun ds d h => by obtain ⟨a, rfl, _⟩ := h; rfl) fun cdv A outer s f H vs ds d hr hR S0 => ?_
  obtain ⟨i, rfl, rfl⟩ := hR
  refine ⟨_, (pss_one (ps_ret (pe_and (pe_callB call_isi (by rfl) BU.isinstance_ (by decide +kernel) (pa_cons (pv 0) (pa_cons (pe_bltn (v := .ty "int") (by rfl) BU.int_ (by decide +kernel) rfl) pa_nil))) (pe_one (pe_not (pe_callB call_isi (by rfl) BU.isinstance_ (by decide +kernel) (pa_cons (pv 0) (pa_cons (pe_bltn (v := .ty "bool") (by rfl) BU.bool_ (by decide +kernel) rfl) pa_nil)))))))), fun nx Q kn kr => ?_⟩
  try dsimp only [cxOf]
  generalize start _ vs = σ at *
  exact s_ret (d := .bl true) (ev_andT (by walk_at "ev") (by walk_at "evq")) fun v H1 e1 hv => kr v H1 e1 hv
end
end Rt
local macro_rules | `(tactic| walk_at "call") => `(tactic| with_reducible exact Rt.Rwhole_mk)
namespace Rt
open PySem PySem.Spec PyProof.Rows L2
section
variable {P : Program} {w : World} {K : PySem.W.Frag} {mg : Str → Option Value} {base : Heap}
def Rnumber : List D → D → Prop := fun ds d => ∃ c : Int, ds = [.int c] ∧ d = .int (numberL c)
theorem Rnumber_mk {c : Int} : Rnumber [.int c] (.int (numberL c)) := ⟨c, rfl, rfl⟩
local macro_rules | `(tactic| walk_at "call") => `(tactic| with_reducible exact Rt.Rnumber_mk)
theorem cal_number_by (F : Dfn K mg "_law_number_by" s__law_number_by ["_law_cell"]) (BU : Bl mg) : Cal P w K mg base CX0 1 "_law_number_by" (Fn K Rnumber) := by
  refine cal_fn F sc__law_number_by (fun ds d h => by obtain ⟨a, rfl, _⟩ := h; rfl) fun cdv A outer s f H vs ds d hr hR S0 => ?_
  obtain ⟨c, rfl, rfl⟩ := hR
  refine ⟨_, (pss_cons (ps_if (pt_cmpR op_gt (pe_op op_mod (pv 0) pe_int) pe_int (nomark _)) (pss_one (ps_ret (pe_op op_sub (pe_op op_mod (pe_op op_fdiv (pv 0) pe_int) pe_int) pe_int))) pss_nil) (pss_cons (ps_set (i := 1) sc__law_number_by.nd rfl (Or.inl rfl) (pe_ix ix_list (pe_lst (pa_cons pe_int (pa_cons (pe_op op_add pe_int (pe_op op_mod (pe_op op_fdiv (pv 0) pe_int) pe_int)) pa_nil))) (pe_op op_mod (pv 0) pe_int) (fun _ _ => rfl))) (pss_cons (ps_set (i := 2) sc__law_number_by.nd rfl (Or.inl rfl) pe_int) (pss_cons (ps_set (i := 3) sc__law_number_by.nd rfl (Or.inl rfl) (pv 0)) (pss_cons (ps_for PassesOwn.never rfl (pi_range1 (by rfl) BU.range_ (pa_cons (pv 1) pa_nil)) (pg_name (i := 4) sc__law_number_by.nd rfl (Or.inl rfl)) (pss_cons (ps_set (i := 3) sc__law_number_by.nd rfl (Or.inl rfl) (pe_op op_mod (pe_op op_add (pe_op op_mul (pv 3) pe_int) pe_int) pe_int)) (pss_one (ps_set (i := 2) sc__law_number_by.nd rfl (Or.inl rfl) (pe_op op_add (pe_op op_mul (pv 2) pe_int) (pe_op op_mod (pe_op op_fdiv (pv 3) pe_int) pe_int)))))) (pss_one (ps_ret (pe_op op_mul (pe_ix ix_list (pe_lst (pa_cons pe_int (pa_cons (pe_un un_neg pe_int) pa_nil))) (pe_op op_mod (pe_op op_fdiv (pv 0) pe_int) pe_int) (fun _ _ => rfl)) (pv 2))))))))), fun nx Q kn kr => ?_⟩
  try dsimp only [cxOf]
  generalize start _ vs = σ at *
  refine q_if0 (b := decide (1 < c % 5)) (by walk_at "ev") (fun q H1 e1 => ?_) (fun q H1 e1 => ?_)
  · have S1 := S0.mono e1
    exact s_ret (d := .int (numberL c)) (Ev.to (by walk_at "ev") (by unfold numberL; rw [if_pos (of_decide_eq_true q)])) fun v H2 e2 hv => kr v H2 (e1.trans e2) hv
  · have S1 := S0.mono e1
    have q' := of_decide_eq_false q
    have hz := sizeN_b c
    have h2 : atI [D.int 60, D.int (1 + c / 10 % 60)] (c % 5) = some (.int (sizeN c)) := by
      have h : c % 5 = 0 ∨ c % 5 = 1 := by omega
      unfold sizeN
      rcases h with h | h <;> rw [h] <;> rfl
    refine q_asg S1 (d := .int (sizeN c)) (by walk_at "ev") fun σ2 H2 e2 S2 => ?_
    refine q_asg S2 (d := .int 0) (by walk_at "ev") fun σ3 H3 e3 S3 => ?_
    refine q_asg S3 (d := .int c) (by walk_at "ev") fun σ4 H4 e4 S4 => ?_
    refine q_forR (sizeN c).toNat (by walk_at "ev") rfl ⟨by omega, by omega⟩ (fun k ds => ∃ x, ds = [some (.int c), some (.int (sizeN c)), some (.int (digN c k)), some (.int (numN c k)), x]) S4 ⟨none, rfl⟩ ?_ ?_
    · rintro k hk ds σ5 H5 N ⟨x, rfl⟩ e5 S5 kN
      refine q_asg S5 (d := .int (numN c (k + 1))) (by walk_at "evq") fun σ6 H6 e6 S6 => ?_
      exact s_asg S6 (d := .int (digN c (k + 1))) (by walk_at "evq") fun σ7 H7 e7 S7 => kN _ _ _ ⟨_, rfl⟩ (e6.trans e7) S7
    · rintro ds σ5 H5 ⟨x, rfl⟩ e5 S5
      have h3 : atI [D.int 1, D.int (-1)] (c / 5 % 2) = some (.int (if c / 5 % 2 = 0 then 1 else -1)) := by rw [pick2]; split <;> rfl
      have hm : CMul (if c / 5 % 2 = 0 then 1 else -1) (digN c (sizeN c).toNat) := .inl (by split <;> exact ⟨by decide, by decide⟩)
      exact s_ret (d := .int (numberL c)) (Ev.to (by walk_at "ev") (by unfold numberL; rw [if_neg q'])) fun v H6 e6 hv => kr v H6 (((((e1.trans e2).trans e3).trans e4).trans e5).trans e6) hv
end
end Rt
local macro_rules | `(tactic| walk_at "call") => `(tactic| with_reducible exact Rt.Rnumber_mk)
namespace Rt
open PySem PySem.Spec PyProof.Rows L2
section
variable {P : Program} {w : World} {K : PySem.W.Frag} {mg : Str → Option Value} {base : Heap}
def Rcount : List D → D → Prop := fun ds d => ∃ c : Int, ds = [.int c] ∧ d = .int (countL c)
theorem Rcount_mk {c : Int} : Rcount [.int c] (.int (countL c)) := ⟨c, rfl, rfl⟩
local macro_rules | `(tactic| walk_at "call") => `(tactic| with_reducible exact Rt.Rcount_mk)
theorem cal_count_by (F : Dfn K mg "_law_count_by" s__law_count_by ["_law_cell"]) (BU : Bl mg) : Cal P w K mg base CX0 1 "_law_count_by" (Fn K Rcount) := by
  refine cal_fn F sc__law_count_by (fun ds d h => by obtain ⟨a, rfl, _⟩ := h; rfl) fun cdv A outer s f H vs ds d hr hR S0 => ?_
  obtain ⟨c, rfl, rfl⟩ := hR
  refine ⟨_, (pss_cons (ps_if (pt_cmpR op_eq (pe_op op_mod (pe_op op_fdiv (pv 0) pe_int) pe_int) pe_int (nomark _)) (pss_one (ps_ret (pe_op op_mod (pe_op op_fdiv (pv 0) pe_int) pe_int))) pss_nil) (pss_one (ps_ret (pe_op op_mod (pv 0) pe_int)))), fun nx Q kn kr => ?_⟩
  try dsimp only [cxOf]
  generalize start _ vs = σ at *
  refine q_if0 (b := decide (c / 9 % 6 = 1)) (by walk_at "ev") (fun q H1 e1 => ?_) (fun q H1 e1 => ?_)
  · have S1 := S0.mono e1
    exact s_ret (d := .int (countL c)) (Ev.to (by walk_at "ev") (by unfold countL; rw [if_pos (of_decide_eq_true q)])) fun v H2 e2 hv => kr v H2 (e1.trans e2) hv
  · have S1 := S0.mono e1
    exact s_ret (d := .int (countL c)) (Ev.to (by walk_at "ev") (by unfold countL; rw [if_neg (of_decide_eq_false q)])) fun v H2 e2 hv => kr v H2 (e1.trans e2) hv
end
end Rt
local macro_rules | `(tactic| walk_at "call") => `(tactic| with_reducible exact Rt.Rcount_mk)
namespace Rt
open PySem PySem.Spec PyProof.Rows L2
section
variable {P : Program} {w : World} {K : PySem.W.Frag} {mg : Str → Option Value} {base : Heap}
theorem rows_gd {rows : Rows} (h : ∀ p ∈ rows, okT p.1) : (D.lst (rows.map rowD)).gd 2 := fun d m => by
  obtain ⟨p, hp, rfl⟩ := List.mem_map.mp m
  intro e he
  rcases List.mem_cons.mp he with rfl | he
  · exact okT_cps (h p hp)
  · rcases List.mem_cons.mp he with rfl | he
    · trivial
    · cases he
theorem map_isEmpty {α β : Type} (f : α → β) (l : List α) : (l.map f).isEmpty = l.isEmpty := by cases l <;> rfl
theorem filt_all {α : Type} (l : List α) : l.filter (fun _ => true) = l := List.filter_eq_self.mpr fun _ _ => rfl
theorem isE {α : Type} {l : List α} : l.isEmpty = true ↔ l = [] := by cases l <;> simp
theorem ev_old {σ : L2.St} {H : Hp} {rows : Rows} {ta tb : TE} {i : Int} (hne : rows ≠ []) (ha : Ev K ta σ H (.lst (rows.map rowD))) (hb : Ev K tb σ H (.int i)) : Ev K (tOp (rIxT K) (tOp (rIxL K) ta (tOp (rI (fun _ j => 0 < j) fun i j => .int (i % j)) tb (tCB (fun xs H Q => ∃ p ys, xs = [.ref p] ∧ (SqL K H p ys ∨ SqT K H p ys) ∧ Q (.int ys.length) H) (tCons ta tNil)))) (tC (.int 0))) σ H (.str (oldN rows i)) := by
  have hl : 0 < rows.length := List.length_pos_iff.mpr hne
  have h1 := Int.emod_nonneg i (show (rows.length : Int) ≠ 0 by omega)
  have h2 := oldN_at (i := i) hne
  have h3 : atI (rows.map rowD) (i % ((rows.map rowD).length : Int)) = some (rowD (oldN rows i, (rows.getD (i % (rows.length : Int)).toNat ([], 0)).2)) := by
    rw [List.length_map]
    have := atI_nat (xs := rows.map rowD) (j := (i % (rows.length : Int)).toNat) (by rw [List.getElem?_map, h2]; rfl)
    rw [show (((i % (rows.length : Int)).toNat : Nat) : Int) = i % (rows.length : Int) by omega] at this
    exact this
  exact ev_ixT (ev_ixL ha (ev_mod hb (ev_lenL ha) (by rw [List.length_map]; omega)) h3) ev_int rfl
end
end Rt

namespace Rt
open PySem PySem.Spec PyProof.Rows L2
section
variable {P : Program} {w : World} {K : PySem.W.Frag} {mg : Str → Option Value} {base : Heap}
def Rsign : List D → D → Prop := fun ds d => ∃ i : Int, ds = [.int i] ∧ d = .str [signN i]
theorem Rsign_mk {i : Int} : Rsign [.int i] (.str [signN i]) := ⟨i, rfl, rfl⟩
local macro_rules | `(tactic| walk_at "call") => `(tactic| with_reducible exact Rt.Rsign_mk)
theorem cal_sign_by (F : Dfn K mg "_law_sign_by" s__law_sign_by ["_law_cell"]) (BU : Bl mg) : Cal P w K mg base CX0 1 "_law_sign_by" (Fn K Rsign) := by
  refine cal_fn F sc__law_sign_by (fun ds d h => by obtain ⟨a, rfl, _⟩ := h; rfl) fun cdv A outer s f H vs ds d hr hR S0 => ?_
  obtain ⟨i, rfl, rfl⟩ := hR
  refine ⟨_, (pss_cons (ps_set (i := 1) sc__law_sign_by.nd rfl (Or.inl rfl) pe_str) (pss_cons (ps_set (i := 1) sc__law_sign_by.nd rfl (Or.inl rfl) (pe_op op_add_str (pv 1) pe_str)) (pss_one (ps_ret (pe_ix ix_str (pv 1) (pe_op op_mod (pv 0) pe_int) (fun _ _ => rfl)))))), fun nx Q kn kr => ?_⟩
  try dsimp only [cxOf]
  generalize start _ vs = σ at *
  refine q_asg S0 ev_str fun σ1 H1 e1 S1 => ?_
  refine q_asg S1 (d := .str alpha) (Ev.to (ev_addS (by walk_at "ev") ev_str (by decide +kernel)) (congrArg D.str alpha_is)) fun σ2 H2 e2 S2 => ?_
  exact s_ret (ev_ixS (l := alpha) (by walk_at "ev") (by walk_at "ev") (by rw [alpha_len]; decide) (sign_at i)) fun v H3 e3 hv => kr v H3 ((e1.trans e2).trans e3) hv
end
end Rt
local macro_rules | `(tactic| walk_at "call") => `(tactic| with_reducible exact Rt.Rsign_mk)
namespace Rt
open PySem PySem.Spec PyProof.Rows L2
section
variable {P : Program} {w : World} {K : PySem.W.Frag} {mg : Str → Option Value} {base : Heap}
def Rword : List D → D → Prop := fun ds d => ∃ (c n : Int), ds = [.int c, .int n] ∧ 0 ≤ n ∧ n ≤ 1000 ∧ d = .str (wordL c n.toNat)
theorem Rword_mk {c n : Int} (h : 0 ≤ n) (h2 : n ≤ 1000) : Rword [.int c, .int n] (.str (wordL c n.toNat)) := ⟨c, n, rfl, h, h2, rfl⟩
local macro_rules | `(tactic| walk_at "call") => `(tactic| (with_reducible refine Rt.Rword_mk ?_ ?_ <;> walk_at "side"))
theorem cal_word_by (F : Dfn K mg "_law_word_by" s__law_word_by ["_law_cell", "_law_size"]) (BU : Bl mg) (c__law_sign_by : Cal P w K mg base CX0 1 "_law_sign_by" (Fn K Rsign)) : Cal P w K mg base CX0 2 "_law_word_by" (Fn K Rword) := by
  refine cal_fn F sc__law_word_by (fun ds d h => by obtain ⟨a, b, rfl, _⟩ := h; rfl) fun cdv A outer s f H vs ds d hr hR S0 => ?_
  obtain ⟨c, n, rfl, h0, h1, rfl⟩ := hR
  refine ⟨_, (pss_cons (ps_set (i := 2) sc__law_word_by.nd rfl (Or.inl rfl) pe_str) (pss_cons (ps_set (i := 3) sc__law_word_by.nd rfl (Or.inl rfl) (pv 0)) (pss_cons (ps_for PassesOwn.never rfl (pi_range1 (by rfl) BU.range_ (pa_cons (pv 1) pa_nil)) (pg_name (i := 4) sc__law_word_by.nd rfl (Or.inl rfl)) (pss_cons (ps_set (i := 3) sc__law_word_by.nd rfl (Or.inl rfl) (pe_op op_mod (pe_op op_add (pe_op op_mul (pv 3) pe_int) pe_int) pe_int)) (pss_one (ps_set (i := 2) sc__law_word_by.nd rfl (Or.inl rfl) (pe_op op_add_str (pv 2) (pe_c c__law_sign_by hr (by omega) (by rfl) (pa_cons (pe_op op_add pe_int (pe_op op_mod (pe_op op_fdiv (pv 3) pe_int) (pe_ix ix_list (pe_lst (pa_cons pe_int (pa_cons pe_int pa_nil))) (pe_op op_mod (pv 0) pe_int) (fun _ _ => rfl)))) pa_nil))))))) (pss_one (ps_ret (pv 2)))))), fun nx Q kn kr => ?_⟩
  try dsimp only [cxOf]
  generalize start _ vs = σ at *
  refine q_asg S0 ev_str fun σ1 H1 e1 S1 => ?_
  refine q_asg S1 (by walk_at "ev") fun σ2 H2 e2 S2 => ?_
  refine q_forR n.toNat (by walk_at "ev") rfl ⟨by omega, by omega⟩ (fun k ds => ∃ x, ds = [some (.int c), some (.int n), some (.str (wordL c k)), some (.int (numN c k)), x]) S2 ⟨none, rfl⟩ ?_ ?_
  · rintro k hk ds σ3 H3 N ⟨x, rfl⟩ e3 S3 kN
    refine q_asg S3 (d := .int (numN c (k + 1))) (by walk_at "evq") fun σ4 H4 e4 S4 => ?_
    have hp := pick2 (i := c) (a := .int 2) (b := .int 94)
    have hp' : atI [D.int 2, D.int 94] (c % 2) = some (.int (if c % 2 = 0 then 2 else 94)) := by rw [hp]; split <;> rfl
    have pos : (0 : Int) < (if c % 2 = 0 then 2 else 94) := by split <;> decide
    have hl := wordL_len c k
    refine s_asg S4 (d := .str (wordL c (k + 1))) (by walk_at "evq") fun σ5 H5 e5 S5 => kN _ _ _ ⟨_, rfl⟩ (e4.trans e5) S5
  · rintro ds σ3 H3 ⟨x, rfl⟩ e3 S3
    exact s_ret (by walk_at "ev") fun v H4 e4 hv => kr v H4 (((e1.trans e2).trans e3).trans e4) hv
end
end Rt
local macro_rules | `(tactic| walk_at "call") => `(tactic| (with_reducible refine Rt.Rword_mk ?_ ?_ <;> walk_at "side"))
namespace Rt
open PySem PySem.Spec PyProof.Rows L2
section
variable {P : Program} {w : World} {K : PySem.W.Frag} {mg : Str → Option Value} {base : Heap}
def Rcell : List D → D → Prop := fun ds d => ∃ (ns : List Int) (i : Int), ds = [.scr ns, .int i] ∧ 0 ≤ i ∧ d = .int (ns.getD i.toNat 0)
theorem Rcell_mk {ns : List Int} {i : Int} (h : 0 ≤ i) : Rcell [.scr ns, .int i] (.int (ns.getD i.toNat 0)) := ⟨ns, i, rfl, h, rfl⟩
local macro_rules | `(tactic| walk_at "call") => `(tactic| (with_reducible refine Rt.Rcell_mk ?_ <;> walk_at "side"))
theorem cal_cell_at (F : Dfn K mg "_law_cell_at" s__law_cell_at ["_law_script", "_law_k"]) (BU : Bl mg) : Cal P w K mg base CX0 1 "_law_cell_at" (Fn K Rcell) := by
  refine cal_fn F sc__law_cell_at (fun ds d h => by obtain ⟨a, b, rfl, _⟩ := h; rfl) fun cdv A outer s f H vs ds d hr hR S0 => ?_
  obtain ⟨ns, i, rfl, hi, rfl⟩ := hR
  refine ⟨_, (pss_cons (ps_if (pt_cmpR op_lt (pv 1) (pe_callB call_len_seq (by rfl) BU.len_ PySem.boot_len (pa_cons (pv 0) pa_nil)) (nomark _)) (pss_one (ps_ret (pe_ix ix_list (pv 0) (pv 1) (fun _ _ => rfl)))) pss_nil) (pss_one (ps_ret pe_int))), fun nx Q kn kr => ?_⟩
  try dsimp only [cxOf]
  generalize start _ vs = σ at *
  refine q_if0 (b := decide (i < (ns.length : Int))) (by walk_at "ev") (fun c H1 e1 => ?_) (fun c H1 e1 => ?_)
  · have c' := of_decide_eq_true c
    have S1 := S0.mono e1
    have hl : i.toNat < ns.length := by omega
    have h : atI ns i = some (ns.getD i.toNat 0) := by
      have q := atI_nat (List.getElem?_eq_getElem hl)
      rw [show ((i.toNat : Nat) : Int) = i by omega] at q
      rw [q, List.getD_eq_getElem?_getD, List.getElem?_eq_getElem hl]; rfl
    exact s_ret (ev_ixR (by walk_at "ev") (by walk_at "ev") h) fun v H2 e2 hv => kr v H2 (e1.trans e2) hv
  · have c' := of_decide_eq_false c
    refine s_ret (K := K) (d := .int 0) ev_int fun v H2 e2 hv => kr v H2 (e1.trans e2) ?_
    rw [List.getD_eq_getElem?_getD, List.getElem?_eq_none (by omega)]; exact hv
end
end Rt
local macro_rules | `(tactic| walk_at "call") => `(tactic| (with_reducible refine Rt.Rcell_mk ?_ <;> walk_at "side"))
namespace Rt
open PySem PySem.Spec PyProof.Rows L2
section
variable {P : Program} {w : World} {K : PySem.W.Frag} {mg : Str → Option Value} {base : Heap}
def Rrows : List D → D → Prop := fun ds d => ∃ (ns : List Int) (f n : Int), ds = [.scr ns, .int f, .int n] ∧ 0 ≤ f ∧ 0 ≤ n ∧ n ≤ 150 ∧ d = .lst ((rowsL ns f n).map rowD)
theorem Rrows_mk {ns : List Int} {f n : Int} (h1 : 0 ≤ f) (h2 : 0 ≤ n) (h3 : n ≤ 150) : Rrows [.scr ns, .int f, .int n] (.lst ((rowsL ns f n).map rowD)) := ⟨ns, f, n, rfl, h1, h2, h3, rfl⟩
local macro_rules | `(tactic| walk_at "call") => `(tactic| (with_reducible refine Rt.Rrows_mk ?_ ?_ ?_ <;> walk_at "side"))
theorem cal_rows_by (F : Dfn K mg "_law_rows_by" s__law_rows_by ["_law_script", "_law_first", "_law_count"]) (BU : Bl mg) (c__law_cell_at : Cal P w K mg base CX0 1 "_law_cell_at" (Fn K Rcell)) (c__law_sign_by : Cal P w K mg base CX0 1 "_law_sign_by" (Fn K Rsign)) (c__law_word_by : Cal P w K mg base CX0 2 "_law_word_by" (Fn K Rword)) (c__law_number_by : Cal P w K mg base CX0 1 "_law_number_by" (Fn K Rnumber)) : Cal P w K mg base CX0 3 "_law_rows_by" (Fn K Rrows) := by
  refine cal_fn F sc__law_rows_by (fun ds d h => by obtain ⟨a, b, c, rfl, _⟩ := h; rfl) fun cdv A outer s f H vs ds d hr hR S0 => ?_
  obtain ⟨ns, f0, n, rfl, hf, hn, hn2, rfl⟩ := hR
  refine ⟨_, (pss_cons (ps_set (i := 3) sc__law_rows_by.nd rfl (Or.inl rfl) (pe_c c__law_cell_at hr (by omega) (by rfl) (pa_cons (pv 0) (pa_cons (pv 1) pa_nil)))) (pss_cons (ps_set (i := 4) sc__law_rows_by.nd rfl (Or.inl rfl) (pe_op op_mod (pv 3) pe_int)) (pss_cons (ps_set (i := 5) sc__law_rows_by.nd rfl (Or.inr rfl) (pe_op op_fdiv (pv 3) pe_int)) (pss_cons (ps_if (pt_cmpR op_eq (pv 4) pe_int (nomark _)) (pss_cons (ps_set (i := 6) sc__law_rows_by.nd rfl (Or.inr rfl) (pe_c c__law_word_by hr (by omega) (by rfl) (pa_cons (pv 5) (pa_cons pe_int pa_nil)))) (pss_one (ps_ret (pe_lc (own := [("_law_k", 7)]) (g := gName 7) (by rfl) sc__law_rows_by.nd (pi_range1 (by rfl) BU.range_ (pa_cons (pe_callB (call_min2 (by rfl)) (by rfl) BU.min_ (by decide +kernel) (pa_cons (pv 2) (pa_cons pe_int pa_nil))) pa_nil)) (blkOk_by (own := [("_law_k", 7)]) (N := N__law_rows_by) (sc := defScope s__law_rows_by) (by decide +kernel)) (fun _ _ _ _ _ => pg_name (i := 7) sc__law_rows_by.nd rfl (Or.inl rfl)) (fun _ _ _ _ _ => pts_nil) (fun _ _ _ _ _ => (pe_tup (pa_cons (pe_slice sl_str (pv 6) po_none (po_some (pv 7))) (pa_cons (pe_c c__law_number_by hr (by omega) (by rfl) (pa_cons (pe_op op_add (pv 5) (pv 7)) pa_nil)) pa_nil)))))))) pss_nil) (pss_cons (ps_set (i := 6) sc__law_rows_by.nd rfl (Or.inr rfl) (pe_c c__law_word_by hr (by omega) (by rfl) (pa_cons (pv 5) (pa_cons (pe_op op_mod (pv 5) pe_int) pa_nil)))) (pss_cons (ps_if (pt_cmpR op_eq (pv 4) pe_int (nomark _)) (pss_cons (ps_set (i := 8) sc__law_rows_by.nd rfl (Or.inr rfl) (pe_lc (own := [("_law_k", 7)]) (g := gName 7) (by rfl) sc__law_rows_by.nd (pi_range1 (by rfl) BU.range_ (pa_cons (pv 2) pa_nil)) (blkOk_by (own := [("_law_k", 7)]) (N := N__law_rows_by) (sc := defScope s__law_rows_by) (by decide +kernel)) (fun _ _ _ _ _ => pg_name (i := 7) sc__law_rows_by.nd rfl (Or.inl rfl)) (fun _ _ _ _ _ => pts_nil) (fun _ _ _ _ _ => (pe_op op_add_str (pe_c c__law_sign_by hr (by omega) (by rfl) (pa_cons (pe_op op_add (pe_op op_mul pe_int (pe_op op_fdiv (pv 7) pe_int)) (pv 5)) pa_nil)) (pe_c c__law_sign_by hr (by omega) (by rfl) (pa_cons (pe_op op_add (pe_op op_mul pe_int (pe_op op_mod (pv 7) pe_int)) (pv 5)) pa_nil)))))) (pss_one (ps_ret (pe_callB cr_sortedRows (by rfl) BU.sorted_ (by decide +kernel) (pa_cons (pe_lc (own := [("_law_k", 7)]) (g := gName 7) (by rfl) sc__law_rows_by.nd (pi_range1 (by rfl) BU.range_ (pa_cons (pv 2) pa_nil)) (blkOk_by (own := [("_law_k", 7)]) (N := N__law_rows_by) (sc := defScope s__law_rows_by) (by decide +kernel)) (fun _ _ _ _ _ => pg_name (i := 7) sc__law_rows_by.nd rfl (Or.inl rfl)) (fun _ _ _ _ _ => pts_nil) (fun _ _ _ _ _ => (pe_tup (pa_cons (pe_op op_add_str (pv 6) (pe_ix (r := rIxL K) ix_list (pv 8) (pv 7) (fun _ _ => rfl))) (pa_cons (pe_c c__law_number_by hr (by omega) (by rfl) (pa_cons (pe_op op_add (pv 5) (pv 7)) pa_nil)) pa_nil))))) pa_nil))))) pss_nil) (pss_cons (ps_if (pt_cmpR op_eq (pv 4) pe_int (nomark _)) (pss_cons (ps_set (i := 9) sc__law_rows_by.nd rfl (Or.inl rfl) (pe_callB (call_min2 (by rfl)) (by rfl) BU.min_ (by decide +kernel) (pa_cons (pv 2) (pa_cons pe_int pa_nil)))) (pss_one (ps_ret (pe_callB cr_sortedRows (by rfl) BU.sorted_ (by decide +kernel) (pa_cons (pe_lc (own := [("_law_k", 7)]) (g := gName 7) (by rfl) sc__law_rows_by.nd (pi_range1 (by rfl) BU.range_ (pa_cons (pv 9) pa_nil)) (blkOk_by (own := [("_law_k", 7)]) (N := N__law_rows_by) (sc := defScope s__law_rows_by) (by decide +kernel)) (fun _ _ _ _ _ => pg_name (i := 7) sc__law_rows_by.nd rfl (Or.inl rfl)) (fun _ _ _ _ _ => pts_nil) (fun _ _ _ _ _ => (pe_tup (pa_cons (pe_op op_add_str (pv 6) (pe_c c__law_sign_by hr (by omega) (by rfl) (pa_cons (pe_op op_add (pe_op op_mul pe_int (pv 7)) (pv 5)) pa_nil))) (pa_cons (pe_c c__law_number_by hr (by omega) (by rfl) (pa_cons (pe_op op_add (pv 5) (pv 7)) pa_nil)) pa_nil))))) pa_nil))))) pss_nil) (pss_cons (ps_set (i := 10) sc__law_rows_by.nd rfl (Or.inl rfl) (pe_lst pa_nil)) (pss_cons (ps_for PassesOwn.never rfl (pi_range1 (by rfl) BU.range_ (pa_cons (pe_callB (call_min2 (by rfl)) (by rfl) BU.min_ (by decide +kernel) (pa_cons (pv 2) (pa_cons pe_int pa_nil))) pa_nil)) (pg_name (i := 7) sc__law_rows_by.nd rfl (Or.inl rfl)) (pss_cons (ps_set (i := 3) sc__law_rows_by.nd rfl (Or.inl rfl) (pe_op op_add (pe_c c__law_cell_at hr (by omega) (by rfl) (pa_cons (pv 0) (pa_cons (pe_op op_add (pv 1) (pv 7)) pa_nil))) (pe_op op_mul pe_int (pv 7)))) (pss_cons (ps_set (i := 11) sc__law_rows_by.nd rfl (Or.inl rfl) (pe_ix ix_list (pe_lst (pa_cons (pe_op op_mod (pe_op op_fdiv (pv 3) pe_int) pe_int) (pa_cons pe_int pa_nil))) (pe_callTy call_int1 (by rfl) BU.int_ (by decide +kernel) (pa_cons (pe_cmpR op_eq (pe_op op_mod (pe_op op_fdiv (pv 3) pe_int) pe_int) pe_int (nomark _)) pa_nil)) (fun _ _ => rfl))) (pss_cons (ps_set (i := 12) sc__law_rows_by.nd rfl (Or.inr rfl) (pe_c c__law_word_by hr (by omega) (by rfl) (pa_cons (pe_op op_fdiv (pv 3) pe_int) (pa_cons (pv 11) pa_nil)))) (pss_cons (ps_if (PW.pt (pw_and (pt_cmpR op_gt (pe_op op_mod (pv 3) pe_int) pe_int (nomark _)) (pw_and1 (pt_cmpR (op_neD hr.units) (pv 10) (pe_lst pa_nil) (nomark _))))) (pss_cons (ps_set (i := 13) sc__law_rows_by.nd rfl (Or.inl rfl) (pe_ix ix_tup (pe_ix ix_list (pv 10) (pe_op op_mod (pe_op op_fdiv (pv 3) pe_int) (pe_callB call_len_seq (by rfl) BU.len_ PySem.boot_len (pa_cons (pv 10) pa_nil))) (fun _ _ => rfl)) pe_int (fun _ _ => rfl))) (pss_one (ps_set (i := 12) sc__law_rows_by.nd rfl (Or.inr rfl) (pe_op op_add_str (pe_slice sl_str (pv 13) po_none (po_some (pe_ix ix_list (pe_lst (pa_cons (pe_callB call_len_str (by rfl) BU.len_ PySem.boot_len (pa_cons (pv 13) pa_nil)) (pa_cons (pe_op op_fdiv (pe_callB call_len_str (by rfl) BU.len_ PySem.boot_len (pa_cons (pv 13) pa_nil)) pe_int) pa_nil))) (pe_op op_mod (pv 3) pe_int) (fun _ _ => rfl)))) (pv 12))))) pss_nil) (pss_cons (ps_set (i := 12) sc__law_rows_by.nd rfl (Or.inr rfl) (pe_slice sl_str (pv 12) po_none (po_some pe_int))) (pss_one (ps_set (i := 10) sc__law_rows_by.nd rfl (Or.inl rfl) (pe_op op_cat (pe_lc (own := [("_law_row", 14)]) (g := gName 14) (by rfl) sc__law_rows_by.nd (pi_list (pv 10)) (blkOk_by (own := [("_law_row", 14)]) (N := N__law_rows_by) (sc := defScope s__law_rows_by) (by decide +kernel)) (fun _ _ _ _ _ => pg_name (i := 14) sc__law_rows_by.nd rfl (Or.inl rfl)) (fun _ _ _ _ _ => (pts_one (pt_cmpR op_ne (pe_ix (r := rIxT K) ix_tup (pv 14) pe_int (fun _ _ => rfl)) (pv 12) (nomark _)))) (fun _ _ _ _ _ => (pv 14))) (pe_lst (pa_cons (pe_tup (pa_cons (pv 12) (pa_cons (pe_c c__law_number_by hr (by omega) (by rfl) (pa_cons (pv 3) pa_nil)) pa_nil))) pa_nil))))))))))) (pss_one (ps_ret (pe_callB cr_sortedRows (by rfl) BU.sorted_ (by decide +kernel) (pa_cons (pv 10) pa_nil))))))))))))), fun nx Q kn kr => ?_⟩
  try dsimp only [cxOf]
  generalize start _ vs = σ at *
  refine q_asg S0 (by walk_at "ev") fun σ1 H1 e1 S1 => ?_
  refine q_asg S1 (by walk_at "ev") fun σ2 H2 e2 S2 => ?_
  refine q_asg S2 (by walk_at "ev") fun σ3 H3 e3 S3 => ?_
  have e03 := (e1.trans e2).trans e3
  generalize hc : ns.getD f0.toNat 0 = c at *
  have imm2 : ∀ p : Tx × Int, (rowD p).imm = true := rowD_imm
  refine q_if0 (b := decide (c % 9 = 8)) (by walk_at "ev") (fun q H4 e4 => ?_) (fun q H4 e4 => ?_)
  · have S4 := S3.mono e4
    obtain ⟨wd, hwd⟩ : ∃ wd, wd = wordL (c / 9) 40 := ⟨_, rfl⟩
    have lw : wd.length ≤ 100 := by rw [hwd, wordL_len]; decide
    refine q_asg S4 (d := .str wd) (Ev.to (by walk_at "ev") (by rw [hwd]; rfl)) fun σ5 H5 e5 S5 => ?_
    have ro : ∀ k : Nat, row8 (c / 9) k = (wd.take k, numberL (c / 9 + (k : Int))) := fun k => by rw [hwd]; rfl
    refine s_retN (K := K) (es := (rowsL ns f0 n).map rowD) (EvN.to (en_lcR (min n.toNat 41) (fun _ => true) (fun k => rowD (wd.take k, numberL (c / 9 + (k : Int)))) (by walk_at "ev") (by split <;> omega) (by split <;> omega) S5 (fun k hk σ' H' e S' => et_yes) (fun k hk _ σ' H' e S' => ?_) (fun k hk _ => rowD_imm _)) ?_) fun p ws H6 hp e6 h1 h2 => kr _ H6 (((e03.trans e4).trans e5).trans e6) ⟨p, ws, rfl, h1, h2⟩
    · refine Ev.to (by walk_at "ev") ?_
      show D.tup [.str (cutL wd none (some (k : Int))), _] = _
      rw [cutL_to]; rfl
    · unfold rowsL
      simp only [hc]
      rw [if_pos (of_decide_eq_true q), List.map_map]
      simp only [Function.comp_def, ro, filt_all]
  have S4 := S3.mono e4
  have q0 := of_decide_eq_false q
  refine q_asg S4 (by walk_at "ev") fun σ5 H5 e5 S5 => ?_
  have lw := wordL_len (c / 9) (c / 9 % 6).toNat
  have e05 := (e03.trans e4).trans e5
  refine q_if0 (b := decide (c % 9 = 7)) (by walk_at "ev") (fun q1 H6 e6 => ?_) (fun q1 H6 e6 => ?_)
  · have S6 := S5.mono e6
    refine q_asg S6 (d := .lst ((List.range n.toNat).map (fun k => D.str (pairR (c / 9) k)))) (EvN.ev (EvN.to (en_lcR n.toNat (fun _ => true) (fun k => .str (pairR (c / 9) k)) (by walk_at "ev") rfl (by omega) S6 (fun k hk σ' H' e S' => et_yes) (fun k hk _ σ' H' e S' => ?_) (fun k hk _ => rfl)) (by rw [filt_all]))) fun σ7 H7 e7 S7 => ?_
    · walk_at "evq"
    · skip
      have rr : rowsL ns f0 n = srtR ((List.range n.toNat).map (row7 (c / 9))) := by
        unfold rowsL
        simp only [hc]
        rw [if_neg q0, if_pos (of_decide_eq_true q1)]
      refine s_retN (K := K) (es := (rowsL ns f0 n).map rowD) (en_sortedRows (rows := (List.range n.toNat).map (row7 (c / 9))) (EvN.to (en_lcR n.toNat (fun _ => true) (fun k => rowD (row7 (c / 9) k)) (by walk_at "ev") rfl (by omega) S7 (fun k hk σ' H' e S' => et_yes) (fun k hk _ σ' H' e S' => ?_) (fun k hk _ => rowD_imm _)) (by rw [List.map_map, filt_all]; rfl)).ev ?_ ?_) fun p ws H8 hp e8 h1 h2 => kr _ H8 (((e05.trans e6).trans e7).trans e8) ⟨p, ws, rfl, h1, h2⟩
      · have ha : atI ((List.range n.toNat).map (fun k => D.str (pairR (c / 9) k))) (k : Int) = some (.str (pairR (c / 9) k)) := atI_nat (by rw [List.getElem?_map, List.getElem?_range hk]; rfl)
        have lp2 : (pairR (c / 9) k).length = 2 := rfl
        walk_at "evq"
      · rw [rr]; exact srtR_perm _
      · rw [rr]; exact srtR_srt (row7_dis _ _ (by omega))
  have S6 := S5.mono e6
  have q2 := of_decide_eq_false q1
  refine q_if0 (b := decide (c % 9 = 6)) (by walk_at "ev") (fun q3 H7 e7 => ?_) (fun q3 H7 e7 => ?_)
  · have S7 := S6.mono e7
    refine q_asg S7 (d := .int ((min n.toNat 94 : Nat) : Int)) (Ev.to (by walk_at "ev") (congrArg D.int (by split <;> omega))) fun σ8 H8 e8 S8 => ?_
    have rr : rowsL ns f0 n = srtR ((List.range (min n.toNat 94)).map (row6 (c / 9))) := by
      unfold rowsL
      simp only [hc]
      rw [if_neg q0, if_neg q2, if_pos (of_decide_eq_true q3)]
    refine s_retN (K := K) (es := (rowsL ns f0 n).map rowD) (en_sortedRows (rows := (List.range (min n.toNat 94)).map (row6 (c / 9))) (EvN.to (en_lcR (min n.toNat 94) (fun _ => true) (fun k => rowD (row6 (c / 9) k)) (by walk_at "ev") (by omega) (by omega) S8 (fun k hk σ' H' e S' => et_yes) (fun k hk _ σ' H' e S' => ?_) (fun k hk _ => rowD_imm _)) (by rw [List.map_map, filt_all]; rfl)).ev ?_ ?_) fun p ws H9 hp e9 h1 h2 => kr _ H9 ((((e05.trans e6).trans e7).trans e8).trans e9) ⟨p, ws, rfl, h1, h2⟩
    · walk_at "evq"
    · rw [rr]; exact srtR_perm _
    · rw [rr]; exact srtR_srt (row6_dis _ _ (by omega))
  have S7 := S6.mono e7
  have q4 := of_decide_eq_false q3
  have e07 := (e05.trans e6).trans e7
  refine q_asg S7 (d := .lst ((stepR ns f0 0).map rowD)) (by walk_at "evq") fun σ8 H8 e8 S8 => ?_
  refine q_forR (min n.toNat 60) (by walk_at "ev") (by split <;> omega) (by split <;> omega) (fun k ds => ∃ x1 x2 x3 x4 x5 x6 x7, ds = [some (.scr ns), some (.int f0), some (.int n), x1, x2, x3, x4, x5, none, none, some (.lst ((stepR ns f0 k).map rowD)), x6, x7, none, none]) (S8.fit (es := [some (.scr ns), some (.int f0), some (.int n), none, none, none, none, none, none, none, some (.lst ((stepR ns f0 0).map rowD)), none, none, none, none]) (by exact ⟨rfl, rfl, rfl, rfl, trivial⟩)) ⟨none, none, none, none, none, none, none, rfl⟩ ?_ ?_
  · rintro k hk ds σ9 H9 N ⟨x1, x2, x3, x4, x5, x6, x7, rfl⟩ e9 S9 kN
    obtain ⟨g1, g2, g3⟩ := stepR_good ns f0 k
    refine q_asg S9 (d := .int (cellN ns f0 k)) (by walk_at "evq") fun σ10 H10 e10 S10 => ?_
    generalize hcc : cellN ns f0 k = cc at *
    refine q_asg S10 (d := .int (sizeR cc)) (ev_ixL (by walk_at "ev") (by walk_at "ev") ?_) fun σ11 H11 e11 S11 => ?_
    · unfold sizeR
      by_cases z : cc / 24 % 9 = 8
      · rw [if_pos z, decide_eq_true z]; rfl
      · rw [if_neg z, decide_eq_false z]; rfl
    have hz : 0 ≤ sizeR cc ∧ sizeR cc ≤ 40 := by unfold sizeR; split <;> omega
    have lw2 := wordL_len (cc / 216) (sizeR cc).toNat
    refine q_asg S11 (d := .str (wordL (cc / 216) (sizeR cc).toNat)) (by walk_at "ev") fun σ12 H12 e12 S12 => ?_
    have hg := rows_gd fun p m => (g2 p m).1
    refine q_ifJ0 (b := decide (1 < cc % 4) && !(stepR ns f0 k).isEmpty) (fun ds => ∃ x1 x2 x3 x4 x5, ds = [some (.scr ns), some (.int f0), some (.int n), some (.int cc), x1, x2, x3, some (.int (k : Int)), none, none, some (.lst ((stepR ns f0 k).map rowD)), x4, some (.str (wordR (stepR ns f0 k) cc)), x5, none]) (S12.fit (es := [some (.scr ns), some (.int f0), some (.int n), some (.int cc), none, none, none, some (.int (k : Int)), none, none, some (.lst ((stepR ns f0 k).map rowD)), none, some (.str (wordL (cc / 216) (sizeR cc).toNat)), none, none]) (by exact ⟨rfl, rfl, rfl, rfl, rfl, rfl, rfl, trivial⟩))
      (et_and (by walk_at "ev") fun _ => et_test (Ev.to (ev_neNil (ev_var S12 (by rfl)) hg (by decide)) (by rw [map_isEmpty]))) ?_ ?_ ?_
    · intro q5 H13 N2 e13 kN2
      rw [Bool.and_eq_true, decide_eq_true_eq] at q5
      have hne : stepR ns f0 k ≠ [] := fun z => by rw [z] at q5; cases q5.2
      have S13 := S12.mono e13
      have lo := stepR_old (c := cc / 216) hne
      refine q_asg S13 (d := .str (oldN (stepR ns f0 k) (cc / 216))) (ev_old hne (by walk_at "ev") (by walk_at "ev")) fun σ14 H14 e14 S14 => ?_
      have hp : atI [D.int ((oldN (stepR ns f0 k) (cc / 216)).length : Int), D.int ((oldN (stepR ns f0 k) (cc / 216)).length / 2 : Int)] (cc % 2) = some (.int ((if cc % 2 = 0 then (oldN (stepR ns f0 k) (cc / 216)).length else (oldN (stepR ns f0 k) (cc / 216)).length / 2 : Nat) : Int)) := by
        rw [pick2]; split <;> rfl
      refine s_asg S14 (d := .str (wordR (stepR ns f0 k) cc)) (Ev.to (ev_addS (ev_slS (by walk_at "ev") eo_none (eo_some (ev_ixL (by walk_at "ev") (by walk_at "ev") hp)) (by omega)) (by walk_at "ev") ?_) ?_) fun σ15 H15 e15 S15 => kN2 _ _ _ ⟨none, none, none, none, none, rfl⟩ (e14.trans e15) (S15.fit (by exact ⟨rfl, rfl, rfl, rfl, rfl, rfl, rfl, trivial⟩))
      · rw [cutL_to, List.length_take]; omega
      · have hc2 : 1 < cc % 4 ∧ stepR ns f0 k ≠ [] := ⟨q5.1, hne⟩
        unfold wordR
        rw [cutL_to, if_pos hc2]
    · intro q5
      refine ⟨none, none, none, none, none, ?_⟩
      have : wordR (stepR ns f0 k) cc = wordL (cc / 216) (sizeR cc).toNat := by
        unfold wordR
        refine if_neg fun z => ?_
        rw [decide_eq_true z.1, Bool.true_and, Bool.not_eq_false', isE] at q5
        exact z.2 q5
      rw [this]
    · rintro ds σ13 H13 ⟨x1, x2, x3, x4, x5, rfl⟩ e13 S13
      have lwr : (wordR (stepR ns f0 k) cc).length ≤ 100 := by
        unfold wordR
        split
        · rename_i z
          have lo := stepR_old (c := cc / 216) z.2
          rw [List.length_append, List.length_take, lw2]; omega
        · omega
      refine q_asg S13 (d := .str ((wordR (stepR ns f0 k) cc).take 40)) (Ev.to (by walk_at "ev") (by rw [show (40 : Int) = ((40 : Nat) : Int) from rfl, cutL_to])) fun σ14 H14 e14 S14 => ?_
      refine s_asg S14 (d := .lst ((stepR ns f0 (k + 1)).map rowD)) (Ev.to (en_cat (en_lcL (enc := rowD) (fun p => !decide (p.1 = (wordR (stepR ns f0 k) cc).take 40)) rowD (by walk_at "ev") S14 (by omega) (fun p hp σ' H' e S' => by walk_at "ev") (fun p hp c σ' H' e S' => by walk_at "ev") (fun p _ _ => rowD_imm p)).ev (by walk_at "ev") ?_).ev ?_) fun σ15 H15 e15 S15 => kN _ _ _ ⟨none, none, none, none, none, none, none, rfl⟩ (((((e10.trans e11).trans e12).trans e13).trans e14).trans e15) (S15.fit (by exact ⟨rfl, rfl, rfl, rfl, trivial⟩))
      · have := List.length_filter_le (fun p => !decide (p.1 = (wordR (stepR ns f0 k) cc).take 40)) (stepR ns f0 k)
        rw [List.length_map]
        show _ + 1 ≤ 100000
        omega
      · rw [stepR, hcc, List.map_append]; rfl
  · rintro ds σ9 H9 ⟨x1, x2, x3, x4, x5, x6, x7, rfl⟩ e9 S9
    have rr : rowsL ns f0 n = srtR (stepR ns f0 (min n.toNat 60)) := by
      unfold rowsL
      simp only [hc]
      rw [if_neg q0, if_neg q2, if_neg q4]
    refine s_retN (K := K) (es := (rowsL ns f0 n).map rowD) (en_sortedRows (rows := stepR ns f0 (min n.toNat 60)) (by walk_at "ev") ?_ ?_) fun p ws H10 hp e10 h1 h2 => kr _ H10 (((e07.trans e8).trans e9).trans e10) ⟨p, ws, rfl, h1, h2⟩
    · rw [rr]; exact srtR_perm _
    · rw [rr]; exact srtR_srt (stepR_good ns f0 _).1
end
end Rt
local macro_rules | `(tactic| walk_at "call") => `(tactic| (with_reducible refine Rt.Rrows_mk ?_ ?_ ?_ <;> walk_at "side"))
namespace Rt
open PySem PySem.Spec PyProof.Rows L2
section
variable {P : Program} {w : World} {K : PySem.W.Frag} {mg : Str → Option Value} {base : Heap}
def Rtree (N : Nat) : List D → D → Prop := fun ds d => ∃ (rows : Rows) (t : OT), ds = [.lst (rows.map rowD)] ∧ Rep rows t ∧ Tb N t ∧ (∀ p ∈ rows, okT p.1) ∧ d = OT.d t
theorem cal_law_tree (F : Dfn K mg "_law_tree" s__law_tree ["_law_rows"]) (BU : Bl mg) : ∀ N, N ≤ 300 → Cal P w K mg base CX0 (N + 1) "_law_tree" (Fn K (Rtree N))
  | 0, _ => cal_none F fun vs H Q E h => by
    obtain ⟨_, _, _, ⟨rows, t, _, _, ht, _⟩, _⟩ := h
    exact absurd ht.h (by omega)
  | N + 1, hN => by
    have c__law_tree := cal_law_tree F BU N (by omega)
    refine cal_fn F sc__law_tree (fun ds d h => by obtain ⟨a, b, rfl, _⟩ := h; rfl) fun cdv A outer s f H vs ds d hr hR S0 => ?_
    obtain ⟨rows, t, rfl, hrep, ht, hok, rfl⟩ := hR
    refine ⟨_, (pss_cons (ps_if (pt_cmpR (op_eqD hr.units) (pv 0) (pe_lst pa_nil) (nomark _)) (pss_one (ps_ret pe_non)) pss_nil) (pss_cons (ps_if (pt_cmpR op_eq (pe_callB call_len_seq (by rfl) BU.len_ PySem.boot_len (pa_cons (pv 0) pa_nil)) pe_int (nomark _)) (pss_one (ps_ret (pe_tup (pa_cons pe_str (pa_cons (pe_ix ix_tup (pe_ix ix_list (pv 0) pe_int (fun _ _ => rfl)) pe_int (fun _ _ => rfl)) (pa_cons (pe_ix ix_tup (pe_ix ix_list (pv 0) pe_int (fun _ _ => rfl)) pe_int (fun _ _ => rfl)) pa_nil)))))) pss_nil) (pss_cons (ps_set (i := 1) sc__law_tree.nd rfl (Or.inl rfl) (pe_ix ix_tup (pe_ix ix_list (pv 0) pe_int (fun _ _ => rfl)) pe_int (fun _ _ => rfl))) (pss_cons (ps_set (i := 2) sc__law_tree.nd rfl (Or.inl rfl) (pe_ix ix_tup (pe_ix ix_list (pv 0) (pe_un un_neg pe_int) (fun _ _ => rfl)) pe_int (fun _ _ => rfl))) (pss_cons (ps_set (i := 3) sc__law_tree.nd rfl (Or.inr rfl) pe_int) (pss_cons (ps_while PassesOwn.never (PW.pt (pw_and (pt_cmpR op_lt (pv 3) (pe_callB call_len_str (by rfl) BU.len_ PySem.boot_len (pa_cons (pv 1) pa_nil)) (nomark _)) (pw_and (pt_cmpR op_lt (pv 3) (pe_callB call_len_str (by rfl) BU.len_ PySem.boot_len (pa_cons (pv 2) pa_nil)) (nomark _)) (pw_and1 (pt_cmpR op_eq (pe_ix ix_str (pv 1) (pv 3) (fun _ _ => rfl)) (pe_ix ix_str (pv 2) (pv 3) (fun _ _ => rfl)) (nomark _)))))) (pss_one (ps_set (i := 3) sc__law_tree.nd rfl (Or.inr rfl) (pe_op op_add (pv 3) pe_int)))) (pss_cons (ps_set (i := 4) sc__law_tree.nd rfl (Or.inl rfl) (pe_lst pa_nil)) (pss_cons (ps_set (i := 5) sc__law_tree.nd rfl (Or.inl rfl) pe_int) (pss_cons (ps_while PassesOwn.never (pt_cmpR op_lt (pv 5) (pe_callB call_len_seq (by rfl) BU.len_ PySem.boot_len (pa_cons (pv 0) pa_nil)) (nomark _)) (pss_cons (ps_set (i := 6) sc__law_tree.nd rfl (Or.inr rfl) (pe_slice sl_str (pe_ix ix_tup (pe_ix ix_list (pv 0) (pv 5) (fun _ _ => rfl)) pe_int (fun _ _ => rfl)) (po_some (pv 3)) (po_some (pe_op op_add (pv 3) pe_int)))) (pss_cons (ps_setLc (i := 7) (own := [("_law_row", 8)]) (g := gName 8) (by rfl) sc__law_tree.nd rfl rfl (sw_true rfl rfl rfl (by decide +kernel)) (pi_list (pv 0)) (blkOk_by (own := [("_law_row", 8)]) (N := N__law_tree) (sc := defScope s__law_tree) (by decide +kernel)) (fun _ _ _ _ _ => pg_name (i := 8) sc__law_tree.nd rfl (Or.inl rfl)) (fun _ _ _ _ _ => (pts_one (pt_cmpR op_eq (pe_slice sl_str (pe_ix (r := rIxT K) ix_tup (pv 8) pe_int (fun _ _ => rfl)) (po_some (pv 3)) (po_some (pe_op op_add (pv 3) pe_int))) (pv 6) (nomark _)))) (fun _ _ _ _ _ => (pe_tup (pa_cons (pe_slice sl_str (pe_ix (r := rIxT K) ix_tup (pv 8) pe_int (fun _ _ => rfl)) (po_some (pe_op op_add (pv 3) pe_int)) po_none) (pa_cons (pe_ix (r := rIxT K) ix_tup (pv 8) pe_int (fun _ _ => rfl)) pa_nil))))) (pss_cons (ps_expr (pe_bm PySem.F.plainAttrs_list PySem.F.slot_list_append PySem.F.type_list_append mt_append (pv 4) (pa_cons (pe_tup (pa_cons (pv 6) (pa_cons (pe_c c__law_tree hr (by omega) (by rfl) (pa_cons (pv 7) pa_nil)) pa_nil))) pa_nil))) (pss_one (ps_set (i := 5) sc__law_tree.nd rfl (Or.inl rfl) (pe_op op_add (pv 5) (pe_callB call_len_seq (by rfl) BU.len_ PySem.boot_len (pa_cons (pv 7) pa_nil))))))))) (pss_one (ps_ret (pe_tup (pa_cons pe_str (pa_cons (pe_slice sl_str (pv 1) po_none (po_some (pv 3))) (pa_cons (pe_callTy call_tuple_of (by rfl) BU.tuple_ (by decide +kernel) (pa_cons (pv 4) pa_nil)) pa_nil))))))))))))))), fun nx Q kn kr => ?_⟩
    try dsimp only [cxOf]
    generalize start _ vs = σ at *
    have hcnt : rows.length ≤ 1000 := by rw [← hrep.2]; exact ht.cnt
    have hlen : ∀ z ∈ rows, z.1.length ≤ 400 := fun z hz => by
      rw [← hrep.2] at hz
      cases t with
      | none => cases hz
      | some t =>
        have h1 := T.len_h t z.1 z.2 hz
        have h2 : t.h + 1 < N + 1 := ht.h
        omega
    have hg := rows_gd hok
    cases t with
    | none =>
      have e0 : rows = [] := hrep.2.symm
      refine q_ifT (et_test (Ev.to (ev_eqNil (ev_var S0 (by rfl)) hg (by decide)) (by rw [e0]; rfl))) fun H1 e1 => ?_
      exact s_ret (K := K) ev_non fun v H2 e2 hv => kr v H2 (e1.trans e2) hv
    | some t =>
      have hne : rows ≠ [] := fun z => T.names_ne ht.ok (by rw [← z]; exact hrep.2)
      refine q_ifF0 (et_test (Ev.to (ev_eqNil (ev_var S0 (by rfl)) hg (by decide)) (congrArg D.bl (by rw [map_isEmpty]; cases z : rows.isEmpty with
        | true => exact absurd (isE.mp z) hne
        | false => rfl)))) fun H1 e1 => ?_
      have S1 := S0.mono e1
      cases t with
      | leaf r n =>
        have er : rows = [(r, n)] := hrep.2.symm
        rw [er] at S1
        refine q_ifT (by walk_at "etq") fun H2 e2 => ?_
        have S2 := S1.mono e2
        exact s_ret (d := (T.leaf r n).d) (by walk_at "evq") fun v H3 e3 hv => kr v H3 ((e1.trans e2).trans e3) hv
      | fork s0 b =>
        have hr2 : b.names s0 = rows := hrep.2
        obtain ⟨p, q, h0, ⟨r, hlast⟩, hcom, h2⟩ := T.fork_ends (s := s0) (b := b) ht.ok
        have hk := B.ok1 (b := b) ht.ok.2
        have hd := ((B.ok_iff b).mp ht.ok.2).2
        have hfl := hr2
        rw [B.names_flat] at hfl
        rw [hr2] at h0 hlast h2
        have lp := hlen p (List.mem_of_getElem? h0)
        have lq := hlen q (by rw [hlast]; exact List.mem_append_right _ List.mem_cons_self)
        have ha0 : atI (rows.map rowD) 0 = some (.tup [.str p.1, .int p.2]) := atI_nat (j := 0) (by rw [List.getElem?_map, h0]; rfl)
        have ha1 : atI (rows.map rowD) (-1) = some (.tup [.str q.1, .int q.2]) := atI_last (r := r.map rowD) (by rw [hlast, List.map_append]; rfl)
        refine q_ifF0 (EvT.to (by walk_at "ev") (decide_eq_false (by rw [List.length_map]; omega))) fun H2 e2 => ?_
        have S2 := S1.mono e2
        refine q_asg S2 (d := .str p.1) (by walk_at "ev") fun σ3 H3 e3 S3 => ?_
        refine q_asg S3 (d := .str q.1) (by walk_at "ev") fun σ4 H4 e4 S4 => ?_
        refine q_asg S4 (d := .int 0) (by walk_at "ev") fun σ5 H5 e5 S5 => ?_
        have e15 := (((e1.trans e2).trans e3).trans e4).trans e5
        refine q_while (fun m ds => ∃ k : Nat, ds = [some (.lst (rows.map rowD)), some (.str p.1), some (.str q.1), some (.int (k : Int)), none, none, none, none, none] ∧ p.1.take k = q.1.take k ∧ k ≤ p.1.length ∧ k ≤ q.1.length ∧ m = p.1.length - k) p.1.length S5 ⟨0, rfl, by simp, by simp, by simp, by simp⟩ ?_
        rintro m ds σ6 H6 ⟨k, rfl, k1, k2, k3, rfl⟩ e6 S6
        have cs := com_step k p.1 q.1 k1 k2 k3
        refine ⟨_, et_and (b := decide ((k : Int) < (q.1.length : Int)) && decide ([p.1.getD k 0] = [q.1.getD k 0])) (by walk_at "ev") fun c1 => et_and (by walk_at "ev") fun c2 => ?_, fun c H7 N e7 kN => ?_, fun c H7 e7 => ?_⟩
        · have i1 := atI_some (l := p.1) (k := k) (by have := of_decide_eq_true c1; omega)
          have i2 := atI_some (l := q.1) (k := k) (by have := of_decide_eq_true c2; omega)
          walk_at "ev"
        · rw [Bool.and_eq_true, Bool.and_eq_true, decide_eq_true_eq, decide_eq_true_eq, decide_eq_true_eq] at c
          obtain ⟨c1, c2, c3⟩ := c
          have S7 := S6.mono e7
          have c3' := (getD_eq (by omega) (by omega)).mp c3
          exact s_asg S7 (by walk_at "evq") fun σ8 H8 e8 S8 => kN _ _ _ _ (by omega) ⟨k + 1, rfl, take_succ_eq k1 c3', by omega, by omega, rfl⟩ e8 S8
        have S7 := S6.mono e7
        have ek : (comL p.1 q.1).length = k := cs.2.2 (fun z => by
          have z3 := (getD_eq z.1 z.2.1).mpr z.2.2
          have : (decide ((k : Int) < (p.1.length : Int)) && (decide ((k : Int) < (q.1.length : Int)) && decide ([p.1.getD k 0] = [q.1.getD k 0]))) = true := by
            rw [decide_eq_true (by omega), decide_eq_true (by omega), decide_eq_true z3]; rfl
          rw [this] at c; cases c)
        rw [hcom] at ek
        subst ek
        obtain ⟨a, rvs, ha, hda, S7r⟩ := S7.raw (i := 0) rfl
        refine q_asgN S7r (es := []) (by walk_at "en") fun l ls σ8 H8 l0 e8 hl hdl S8 => ?_
        refine q_asg S8 (d := .int 0) (by walk_at "ev") fun σ9 H9 e9 S9 => ?_
        have e89 := e8.trans e9
        refine q_whileB (l := l) (fun m ds es => ∃ i : Nat, i ≤ b.list.length ∧ ds = [some (.raw (.ref a)), some (.str p.1), none, some (.int (s0.length : Int)), some (.raw (.ref l)), some (.int ((namesL s0 (b.list.take i)).length : Int)), none, none, none] ∧ es = (b.list.take i).map brD ∧ m = b.list.length - i) b.list.length (S9.fit (es := [some (.raw (.ref a)), some (.str p.1), none, some (.int (s0.length : Int)), some (.raw (.ref l)), some (.int 0), none, none, none]) (by exact ⟨rfl, rfl, rfl, rfl, rfl, trivial⟩)) ⟨0, Nat.zero_le _, rfl, rfl, rfl⟩ (e9 _ _ hl) (Dts.mono e9 _ hdl) ?_
        rintro m ds es lvs σ10 H10 ⟨i, hi, rfl, rfl, rfl⟩ sm S10 hl10 hd10
        have sH := sm.same0 l0 e89
        have ha10 := sH _ _ ha
        have hda10 := Dts.mono sH _ hda
        have hcl := ht.len
        refine ⟨decide (((namesL s0 (b.list.take i)).length : Int) < ((rows.map rowD).length : Int)), by walk_at "ev", fun c H11 N e11 kN => ?_, fun c H11 e11 => ?_⟩
        · have c' := of_decide_eq_true c
          rw [List.length_map] at c'
          have hi2 : i < b.list.length := by
            rcases Nat.lt_or_ge i b.list.length with z | z
            · exact z
            · rw [List.take_of_length_le z, hfl] at c'; omega
          obtain ⟨br, hbr⟩ : ∃ br, b.list[i]? = some br := ⟨_, List.getElem?_eq_getElem hi2⟩
          obtain ⟨cc, t'⟩ := br
          obtain ⟨⟨x, n, hx, hsx⟩, hfilt, hl1, hle, hpos⟩ := branch_at (s := s0) hbr hk hd
          rw [hfl] at hx hfilt hle
          have mt := List.mem_of_getElem? hbr
          obtain ⟨o1, o2, o3, o4⟩ := B.ok_sub ht.ok.2 mt
          have htb := ht.sub cc
          rw [o4] at htb
          have lx := hlen _ (List.mem_of_getElem? hx)
          have lx' : x.length ≤ 400 := lx
          have hax : atI (rows.map rowD) ((namesL s0 (b.list.take i)).length : Int) = some (.tup [.str x, .int n]) := atI_nat (by rw [List.getElem?_map, hx]; rfl)
          have S11 := S10.mono e11
          have ha11 := e11 _ _ ha10
          have hda11 := Dts.mono e11 _ hda10
          refine q_asg S11 (d := .str cc) (Ev.to (by walk_at "ev") (by rw [cutL_one, hsx])) fun σ12 H12 e12 S12 => ?_
          have ha12 := e12 _ _ ha11
          have hda12 := Dts.mono e12 _ hda11
          have hl12 := e12 _ _ (e11 _ _ hl10)
          have hd12 := Dts.mono (e11.trans e12) _ hd10
          have n1 := en_lcL (K := K) (enc := rowD) (es := rows) (j := 8) (tl := tVar 0) (sgn s0.length cc) (fun q => rowD (q.1.drop (s0.length + 1), q.2)) (by walk_at "ev") S12 (by omega)
            (tt := tTest (tOp rEq (tSl rSlS (tOp (rIxT K) (tVar 8) (tC (.int 0))) (tPart (tVar 3)) (tPart (tOp (rI0 fun i j => .int (i + j)) (tVar 3) (tC (.int 1))))) (tVar 6)))
            (te := tTup (tCons (tSl rSlS (tOp (rIxT K) (tVar 8) (tC (.int 0))) (tPart (tOp (rI0 fun i j => .int (i + j)) (tVar 3) (tC (.int 1)))) tNoPart) (tCons (tOp (rIxT K) (tVar 8) (tC (.int 1))) tNil)))
            (fun z hz σ' H' e S' => EvT.to (by have := hlen z hz; walk_at "ev") (by rw [cutL_one]; rfl)) (fun z hz _ σ' H' e S' => Ev.to (by have := hlen z hz; walk_at "ev") (by rw [cutL_behind]; rfl)) (fun z _ _ => rowD_imm _)
          have n2 : EvN K _ σ12 H12 (t'.names.map rowD) := n1.to (by rw [← hfilt, List.map_map]; rfl)
          refine q_asgN S12 n2 fun l2 vs2 σ13 H13 l20 e13 hl2 hd2 S13 => ?_
          have hl13 := e13 _ _ hl12
          have hd13 := Dts.mono e13 _ hd12
          have ne2 : l2 ≠ l := fun z => by rw [z, hl12] at l20; cases l20
          have hok2 : ∀ z ∈ t'.names, okT z.1 := fun z hz y hy => by
            have := hok (s0 ++ cc ++ z.1, z.2) (by rw [← hr2]; exact B.mem_names.mpr ⟨cc, t', z.1, mt, hz, rfl⟩)
            exact this y (List.mem_append_right _ hy)
          refine s_seq (s_app (d := brD (cc, t')) hl13 hd13 (D.imms_map fun p _ => brD_imm p) (by walk_at "ev") (ev_tup (ea_cons (by walk_at "ev") (ea_cons (ev_call (ea_cons (by walk_at "ev") ea_nil) ⟨t'.names, some t', rfl, ⟨o2, rfl⟩, htb, hok2, rfl⟩) ea_nil)) (by show 2 ≤ 100000; decide)) (brD_imm _) (by rw [List.length_map, List.length_take]; omega) fun ws H14 c14 hl14 hd14 => ?_)
          have hl2' := c14.keep ne2 hl2
          have hd2' := Dts.sm c14.sm hl13 _ (D.imms_map fun p _ => rowD_imm p) hd2
          have S14 := c14.sl (immS_of (by rfl)) S13
          have S14' : Sl K H14 [some (.raw (.ref a)), some (.str p.1), none, some (.int (s0.length : Int)), some (.raw (.ref l)), some (.int ((namesL s0 (b.list.take i)).length : Int)), some (.str cc), some (.raw (.ref l2)), none] σ13 := S14.fit (by exact ⟨rfl, rfl, rfl, rfl, rfl, rfl, rfl, trivial⟩)
          refine s_asg S14' (d := .int ((namesL s0 (b.list.take (i + 1))).length : Int)) (Ev.to (ev_add (ev_var S14' (by rfl)) (ev_lenL (ev_own (ev_var S14' (by rfl)) hl2' hd2'))) (congrArg D.int (by rw [hl1, List.length_map]; omega))) fun σ15 H15 e15 S15 => kN (b.list.length - (i + 1)) _ _ _ _ _ (by omega) ⟨i + 1, hi2, rfl, rfl, rfl⟩ ((Same.sm l (e12.trans e13)).trans (c14.sm.trans (Same.sm l e15))) (S15.fit (by exact ⟨rfl, rfl, rfl, rfl, rfl, trivial⟩)) (e15 _ _ hl14) (by rw [List.take_add_one, hbr, List.map_append]; exact Dts.mono e15 _ hd14)
        · have c' := of_decide_eq_false c
          rw [List.length_map] at c'
          have hi2 : i = b.list.length := by
            rcases Nat.lt_or_ge i b.list.length with z | z
            · obtain ⟨br, hbr⟩ : ∃ br, b.list[i]? = some br := ⟨_, List.getElem?_eq_getElem z⟩
              obtain ⟨cc, t'⟩ := br
              obtain ⟨_, _, hl1, hle, hpos⟩ := branch_at (s := s0) hbr hk hd
              rw [hfl] at hle
              omega
            · omega
          have S11 := S10.mono e11
          have hl11 := e11 _ _ hl10
          have hd11 := Dts.mono e11 _ hd10
          refine s_ret (K := K) (d := (T.fork s0 b).d) (Ev.to (by walk_at "ev") ?_) fun v H12 e12 hv => kr v H12 ((((e15.trans e6).trans e7).trans sH).trans (e11.trans e12)) hv
          rw [cutL_to, show p.1.take s0.length = s0 by rw [← hcom]; exact comL_take _ _, hi2, List.take_length]
          show _ = D.tup [.str tFork, .str s0, .tup b.d]
          rw [B.d_list]; rfl
end
end Rt

namespace Rt
open PySem PySem.Spec PyProof.Rows L2
section
variable {P : Program} {w : World} {K : PySem.W.Frag} {mg : Str → Option Value} {base : Heap}
def Rnames (N : Nat) : List D → List D → Prop := fun ds es => ∃ t : OT, ds = [OT.d t] ∧ Tb N t ∧ es = (OT.names t).map rowD
theorem cal_names (F : Dfn K mg "names" s_names ["tree"]) (BU : Bl mg) : ∀ N, N ≤ 900 → Cal P w K mg base CX0 (N + 1) "names" (FnN K (Rnames N))
  | 0, _ => cal_none F fun vs H Q E h => by
    obtain ⟨_, _, _, ⟨t, _, ht, _⟩, _⟩ := h
    exact absurd ht.h (by omega)
  | N + 1, hN => by
    have c_names := cal_names F BU N (by omega)
    refine cal_fnN F sc_names (fun ds d h => by obtain ⟨a, rfl, _⟩ := h; rfl) fun cdv A outer s f H vs ds es hr hR S0 => ?_
    obtain ⟨t, rfl, ht, rfl⟩ := hR
    refine ⟨_, (pss_cons (ps_if (pt_cmpR op_isN (pv 0) pe_non (nomark _)) (pss_one (ps_ret (pe_lst pa_nil))) pss_nil) (pss_cons (ps_if (pt_cmpR op_eq (pe_ix ix_tup (pv 0) pe_int (fun _ _ => rfl)) pe_str (nomark _)) (pss_one (ps_ret (pe_lst (pa_cons (pe_tup (pa_cons (pe_ix ix_tup (pv 0) pe_int (fun _ _ => rfl)) (pa_cons (pe_ix ix_tup (pv 0) pe_int (fun _ _ => rfl)) pa_nil))) pa_nil)))) pss_nil) (pss_cons (ps_set (i := 1) sc_names.nd rfl (Or.inl rfl) (pe_lst pa_nil)) (pss_cons (ps_for PassesOwn.never rfl (pi_tup (pe_ix ix_tup (pv 0) pe_int (fun _ _ => rfl))) (pg_name (i := 2) sc_names.nd rfl (Or.inl rfl)) (pss_one (ps_for PassesOwn.never rfl (pi_list (pe_c c_names hr (by omega) (by rfl) (pa_cons (pe_ix ix_tup (pv 2) pe_int (fun _ _ => rfl)) pa_nil))) (pg_name (i := 3) sc_names.nd rfl (Or.inl rfl)) (pss_one (ps_expr (pe_bm PySem.F.plainAttrs_list PySem.F.slot_list_append PySem.F.type_list_append mt_append (pv 1) (pa_cons (pe_tup (pa_cons (pe_op op_add_str (pe_op op_add_str (pe_ix ix_tup (pv 0) pe_int (fun _ _ => rfl)) (pe_ix ix_tup (pv 2) pe_int (fun _ _ => rfl))) (pe_ix ix_tup (pv 3) pe_int (fun _ _ => rfl))) (pa_cons (pe_ix ix_tup (pv 3) pe_int (fun _ _ => rfl)) pa_nil))) pa_nil))))))) (pss_one (ps_ret (pv 1))))))), fun nx Q kr => ?_⟩
    try dsimp only [cxOf]
    generalize start _ vs = σ at *
    cases t with
    | none =>
      refine q_ifT (by walk_at "etq") fun H1 e1 => ?_
      exact s_retN (K := K) (en_lst ea_nil (by decide)) fun p vs H2 hp e2 h1 h2 => kr p vs H2 (e1.free hp) (e1.trans e2) h1 h2
    | some t =>
      refine q_ifF0 (EvT.to (by walk_at "ev") (by exact T.not_non t)) fun H1 e1 => ?_
      have S1 := S0.mono e1
      cases t with
      | leaf r n =>
        refine q_ifT (by walk_at "etq") fun H2 e2 => ?_
        have S2 := S1.mono e2
        refine s_retN (es := [rowD (r, n)]) (en_lst (ea_cons (ds := []) (d := rowD (r, n)) (by walk_at "evq") ea_nil) (by show 1 ≤ 100000; decide)) fun p vs H3 hp e3 h1 h2 => kr p vs H3 (e1.free (e2.free hp)) ((e1.trans e2).trans e3) h1 h2
      | fork s0 b =>
        refine q_ifF0 (EvT.to (by walk_at "ev") (by exact decide_eq_false fork_leaf)) fun H2 e2 => ?_
        have S2 : Sl K H2 [some (.tup [.str tFork, .str s0, .tup (b.list.map brD)]), none, none, none] σ := by rw [← B.d_list]; exact S1.mono e2
        have hb := ht.len
        have hcnt : (b.names s0).length ≤ 1000 := ht.cnt
        have hh : (T.fork s0 b).h + 1 < N + 1 := ht.h
        have ltx : s0.length < N + 1 := ht.text
        refine q_asgN S2 (en_lst ea_nil (by decide)) fun l ls σ3 H3 l0 e3 hl hd S3 => ?_
        refine q_forTB (xs := b.list) (enc := brD) (by walk_at "ev") (fun a _ => brD_imm a) (fun i ds es => ∃ x y, ds = [some (.tup [.str tFork, .str s0, .tup (b.list.map brD)]), some (.raw (.ref l)), x, y] ∧ es = (namesL s0 (b.list.take i)).map rowD) S3 ⟨none, none, rfl, by rw [List.take_zero]; rfl⟩ hl hd ?_ ?_
        · rintro i p hp ds es vs σ4 H4 N4 ⟨x, y, rfl, rfl⟩ sm4 S4 hl4 hd4 kN
          have hpm := List.mem_of_getElem? hp
          have hpl : (p.1, p.2) ∈ b.list := hpm
          have hok := B.ok_sub ht.ok.2 hpl
          have h1 : p.2.h < (T.fork s0 b).h := T.h_sub (s := s0) (b := b) (c := p.1) (t := p.2) ht.ok hpl
          have hc1 : p.2.names.length ≤ (b.names s0).length := B.cnt_mem hpl
          have tbp : Tb N (some p.2) := ⟨hok.2.1, by show p.2.h + 1 < N; omega, by show p.2.names.length ≤ 1000; omega⟩
          have lc := hok.1
          have et : b.list.take (i + 1) = b.list.take i ++ [p] := by rw [List.take_add_one, hp]; rfl
          have hlen : (namesL s0 (b.list.take i) ++ p.2.names.map fun q => (s0 ++ p.1 ++ q.1, q.2)).length ≤ 2000 := by
            have h5 : (namesL s0 (b.list.take i) ++ p.2.names.map fun q => (s0 ++ p.1 ++ q.1, q.2)).length ≤ (b.names s0).length := by
              have e9 : namesL s0 (b.list.take i) ++ (p.2.names.map fun q => (s0 ++ p.1 ++ q.1, q.2)) = namesL s0 (b.list.take (i + 1)) := by rw [et, namesL_app]; simp [namesL]
              rw [e9, B.names_flat]
              have e8 : namesL s0 b.list = namesL s0 (b.list.take (i + 1)) ++ namesL s0 (b.list.drop (i + 1)) := by rw [← namesL_app, List.take_append_drop]
              rw [e8, List.length_append]; omega
            omega
          refine s_forLB (xs := p.2.names) (enc := rowD) ((en_call (ds := [p.2.d]) (es := p.2.names.map rowD) (by walk_at "ev") ⟨some p.2, rfl, tbp, rfl⟩).apart hl4) (fun a _ => rowD_imm a)
            (fun j ds es => ∃ y, ds = [some (.tup [.str tFork, .str s0, .tup (b.list.map brD)]), some (.raw (.ref l)), some (brD p), y] ∧ es = (namesL s0 (b.list.take i) ++ (p.2.names.take j).map fun q => (s0 ++ p.1 ++ q.1, q.2)).map rowD) S4 ⟨y, rfl, by rw [List.take_zero, List.map_nil, List.append_nil]⟩ hl4 hd4 ?_ ?_
          · rintro j q hq ds es vs σ5 H5 N5 ⟨y, rfl, rfl⟩ sm5 S5 hl5 hd5 kN5
            have hqm : (q.1, q.2) ∈ p.2.names := List.mem_of_getElem? hq
            have lq := T.len_h p.2 q.1 q.2 hqm
            have et2 : p.2.names.take (j + 1) = p.2.names.take j ++ [q] := by rw [List.take_add_one, hq]; rfl
            have lj : (p.2.names.take j).length ≤ p.2.names.length := by rw [List.length_take]; omega
            have i1 : D.imms (b.list.map brD) = true := D.imms_map fun p _ => brD_imm p
            have S5' : Sl K H5 [some (.tup [.str tFork, .str s0, .tup (b.list.map brD)]), some (.raw (.ref l)), some (.tup [.str p.1, p.2.d]), some (.tup [.str q.1, .int q.2])] σ5 := S5
            refine s_app hl5 hd5 (D.imms_map fun p _ => rowD_imm p) (by walk_at "ev") (d := rowD (s0 ++ p.1 ++ q.1, q.2)) (by walk_at "evq") (rowD_imm _) ?_ fun ws H6 c6 hl6 hd6 => kN5 _ _ _ _ _ ⟨some (rowD q), rfl, ?_⟩ c6.sm (c6.sl (immS_of ?_) S5) hl6 hd6
            · simp only [List.length_map, List.length_append] at hlen ⊢
              omega
            · rw [et2, List.map_append]
              simp only [List.map_append, List.map_cons, List.map_nil, List.append_assoc]
            · have i2 := brD_imm p
              have i3 := rowD_imm q
              simp [immS, D.imm, D.imms, i1, i2, i3]
          · rintro ds es vs σ5 H5 ⟨y, rfl, rfl⟩ sm5 S5 hl5 hd5
            refine kN _ _ _ _ _ ⟨some (brD p), y, rfl, ?_⟩ sm5 S5 hl5 hd5
            rw [et, namesL_app, List.take_of_length_le (Nat.le_refl _)]
            simp [namesL]
        · rintro ds es vs σ4 H4 ⟨x, y, rfl, rfl⟩ sm4 S4 hl4 hd4
          rw [List.take_of_length_le (Nat.le_refl _), ← B.names_flat] at hd4
          have e14 := sm4.same0 (e1.free (e2.free l0)) ((e1.trans e2).trans e3)
          exact s_ret (d := .raw (.ref l)) (by walk_at "ev") fun v H5 e5 hv => by
            rw [show v = .ref l from hv]
            exact kr l vs H5 (e1.free (e2.free l0)) (e14.trans e5) (e5 _ _ hl4) (Dts.mono e5 _ hd4)
end
end Rt

namespace Rt
open PySem PySem.Spec PyProof.Rows L2
section
variable {P : Program} {w : World} {K : PySem.W.Frag} {mg : Str → Option Value} {base : Heap}
def Rknots (N : Nat) : List D → List D → Prop := fun ds es => ∃ t : OT, ds = [OT.d t] ∧ Tb N t ∧ es = (OT.knots t).map rowD
theorem cal_knots (F : Dfn K mg "knots" s_knots ["tree"]) (BU : Bl mg) : ∀ N, N ≤ 900 → Cal P w K mg base CX0 (N + 1) "knots" (FnN K (Rknots N))
  | 0, _ => cal_none F fun vs H Q E h => by
    obtain ⟨_, _, _, ⟨t, _, ht, _⟩, _⟩ := h
    exact absurd ht.h (by omega)
  | N + 1, hN => by
    have c_knots := cal_knots F BU N (by omega)
    refine cal_fnN F sc_knots (fun ds d h => by obtain ⟨a, rfl, _⟩ := h; rfl) fun cdv A outer s f H vs ds es hr hR S0 => ?_
    obtain ⟨t, rfl, ht, rfl⟩ := hR
    refine ⟨_, (pss_cons (ps_if (pt_cmpR op_isN (pv 0) pe_non (nomark _)) (pss_one (ps_ret (pe_lst pa_nil))) pss_nil) (pss_cons (ps_if (pt_cmpR op_eq (pe_ix ix_tup (pv 0) pe_int (fun _ _ => rfl)) pe_str (nomark _)) (pss_one (ps_ret (pe_lst (pa_cons (pe_tup (pa_cons (pe_ix ix_tup (pv 0) pe_int (fun _ _ => rfl)) (pa_cons pe_int pa_nil))) pa_nil)))) pss_nil) (pss_cons (ps_set (i := 1) sc_knots.nd rfl (Or.inl rfl) (pe_lst (pa_cons (pe_tup (pa_cons (pe_ix ix_tup (pv 0) pe_int (fun _ _ => rfl)) (pa_cons (pe_callB call_len_seq (by rfl) BU.len_ PySem.boot_len (pa_cons (pe_ix ix_tup (pv 0) pe_int (fun _ _ => rfl)) pa_nil)) pa_nil))) pa_nil))) (pss_cons (ps_for PassesOwn.never rfl (pi_tup (pe_ix ix_tup (pv 0) pe_int (fun _ _ => rfl))) (pg_name (i := 2) sc_knots.nd rfl (Or.inl rfl)) (pss_one (ps_for PassesOwn.never rfl (pi_list (pe_c c_knots hr (by omega) (by rfl) (pa_cons (pe_ix ix_tup (pv 2) pe_int (fun _ _ => rfl)) pa_nil))) (pg_name (i := 3) sc_knots.nd rfl (Or.inl rfl)) (pss_one (ps_expr (pe_bm PySem.F.plainAttrs_list PySem.F.slot_list_append PySem.F.type_list_append mt_append (pv 1) (pa_cons (pe_tup (pa_cons (pe_op op_add_str (pe_op op_add_str (pe_ix ix_tup (pv 0) pe_int (fun _ _ => rfl)) (pe_ix ix_tup (pv 2) pe_int (fun _ _ => rfl))) (pe_ix ix_tup (pv 3) pe_int (fun _ _ => rfl))) (pa_cons (pe_ix ix_tup (pv 3) pe_int (fun _ _ => rfl)) pa_nil))) pa_nil))))))) (pss_one (ps_ret (pv 1))))))), fun nx Q kr => ?_⟩
    try dsimp only [cxOf]
    generalize start _ vs = σ at *
    cases t with
    | none =>
      refine q_ifT (by walk_at "etq") fun H1 e1 => ?_
      exact s_retN (K := K) (en_lst ea_nil (by decide)) fun p vs H2 hp e2 h1 h2 => kr p vs H2 (e1.free hp) (e1.trans e2) h1 h2
    | some t =>
      refine q_ifF0 (EvT.to (by walk_at "ev") (by exact T.not_non t)) fun H1 e1 => ?_
      have S1 := S0.mono e1
      cases t with
      | leaf r n =>
        refine q_ifT (by walk_at "etq") fun H2 e2 => ?_
        have S2 := S1.mono e2
        refine s_retN (es := [rowD (r, 0)]) (en_lst (ea_cons (ds := []) (d := rowD (r, 0)) (by walk_at "evq") ea_nil) (by show 1 ≤ 100000; decide)) fun p vs H3 hp e3 h1 h2 => kr p vs H3 (e1.free (e2.free hp)) ((e1.trans e2).trans e3) h1 h2
      | fork s0 b =>
        refine q_ifF0 (EvT.to (by walk_at "ev") (by exact decide_eq_false fork_leaf)) fun H2 e2 => ?_
        have S2 : Sl K H2 [some (.tup [.str tFork, .str s0, .tup (b.list.map brD)]), none, none, none] σ := by rw [← B.d_list]; exact S1.mono e2
        have hb := ht.len
        have hcnt : (b.names s0).length ≤ 1000 := ht.cnt
        have hh : (T.fork s0 b).h + 1 < N + 1 := ht.h
        have ltx : s0.length < N + 1 := ht.text
        have hk : (b.knots s0).length + b.list.length ≤ 2 * (b.names s0).length := B.kcnt s0 b ht.ok.2
        have hb2 : 2 ≤ b.list.length := ht.ok.1
        refine q_asgN S2 (es := [rowD (s0, (b.list.length : Int))]) (en_lst (ea_cons (ds := []) (d := rowD (s0, (b.list.length : Int))) (Ev.to (by walk_at "ev") (by rw [List.length_map]; rfl)) ea_nil) (by show 1 ≤ 100000; decide)) fun l ls σ3 H3 l0 e3 hl hd S3 => ?_
        refine q_forTB (xs := b.list) (enc := brD) (by walk_at "ev") (fun a _ => brD_imm a) (fun i ds es => ∃ x y, ds = [some (.tup [.str tFork, .str s0, .tup (b.list.map brD)]), some (.raw (.ref l)), x, y] ∧ es = ((s0, (b.list.length : Int)) :: knotsL s0 (b.list.take i)).map rowD) S3 ⟨none, none, rfl, by rw [List.take_zero]; rfl⟩ hl hd ?_ ?_
        · rintro i p hp ds es vs σ4 H4 N4 ⟨x, y, rfl, rfl⟩ sm4 S4 hl4 hd4 kN
          have hpm := List.mem_of_getElem? hp
          have hpl : (p.1, p.2) ∈ b.list := hpm
          have hok := B.ok_sub ht.ok.2 hpl
          have h1 : p.2.h < (T.fork s0 b).h := T.h_sub (s := s0) (b := b) (c := p.1) (t := p.2) ht.ok hpl
          have hc1 : p.2.names.length ≤ (b.names s0).length := B.cnt_mem hpl
          have tbp : Tb N (some p.2) := ⟨hok.2.1, by show p.2.h + 1 < N; omega, by show p.2.names.length ≤ 1000; omega⟩
          have lc := hok.1
          have et : b.list.take (i + 1) = b.list.take i ++ [p] := by rw [List.take_add_one, hp]; rfl
          have hlen : ((s0, (b.list.length : Int)) :: knotsL s0 (b.list.take i) ++ p.2.knots.map fun q => (s0 ++ p.1 ++ q.1, q.2)).length ≤ 2000 := by
            have h5 : (knotsL s0 (b.list.take i) ++ p.2.knots.map fun q => (s0 ++ p.1 ++ q.1, q.2)).length ≤ (b.knots s0).length := by
              have e9 : knotsL s0 (b.list.take i) ++ (p.2.knots.map fun q => (s0 ++ p.1 ++ q.1, q.2)) = knotsL s0 (b.list.take (i + 1)) := by rw [et, knotsL_app]; simp [knotsL]
              rw [e9, B.knots_flat]
              have e8 : knotsL s0 b.list = knotsL s0 (b.list.take (i + 1)) ++ knotsL s0 (b.list.drop (i + 1)) := by rw [← knotsL_app, List.take_append_drop]
              rw [e8, List.length_append]; omega
            rw [List.cons_append, List.length_cons]
            omega
          refine s_forLB (xs := p.2.knots) (enc := rowD) ((en_call (ds := [p.2.d]) (es := p.2.knots.map rowD) (by walk_at "ev") ⟨some p.2, rfl, tbp, rfl⟩).apart hl4) (fun a _ => rowD_imm a)
            (fun j ds es => ∃ y, ds = [some (.tup [.str tFork, .str s0, .tup (b.list.map brD)]), some (.raw (.ref l)), some (brD p), y] ∧ es = ((s0, (b.list.length : Int)) :: knotsL s0 (b.list.take i) ++ (p.2.knots.take j).map fun q => (s0 ++ p.1 ++ q.1, q.2)).map rowD) S4 ⟨y, rfl, by rw [List.take_zero, List.map_nil, List.append_nil]⟩ hl4 hd4 ?_ ?_
          · rintro j q hq ds es vs σ5 H5 N5 ⟨y, rfl, rfl⟩ sm5 S5 hl5 hd5 kN5
            have hqm : (q.1, q.2) ∈ p.2.knots := List.mem_of_getElem? hq
            have lq := T.klen_h p.2 q.1 q.2 hqm
            have et2 : p.2.knots.take (j + 1) = p.2.knots.take j ++ [q] := by rw [List.take_add_one, hq]; rfl
            have lj : (p.2.knots.take j).length ≤ p.2.knots.length := by rw [List.length_take]; omega
            have i1 : D.imms (b.list.map brD) = true := D.imms_map fun p _ => brD_imm p
            have S5' : Sl K H5 [some (.tup [.str tFork, .str s0, .tup (b.list.map brD)]), some (.raw (.ref l)), some (.tup [.str p.1, p.2.d]), some (.tup [.str q.1, .int q.2])] σ5 := S5
            refine s_app hl5 hd5 (D.imms_map fun p _ => rowD_imm p) (by walk_at "ev") (d := rowD (s0 ++ p.1 ++ q.1, q.2)) (by walk_at "evq") (rowD_imm _) ?_ fun ws H6 c6 hl6 hd6 => kN5 _ _ _ _ _ ⟨some (rowD q), rfl, ?_⟩ c6.sm (c6.sl (immS_of ?_) S5) hl6 hd6
            · simp only [List.length_map, List.length_append, List.length_cons] at hlen ⊢
              omega
            · rw [et2, List.map_append]
              simp only [List.map_append, List.map_cons, List.map_nil, List.append_assoc, List.cons_append]
            · have i2 := brD_imm p
              have i3 := rowD_imm q
              simp [immS, D.imm, D.imms, i1, i2, i3]
          · rintro ds es vs σ5 H5 ⟨y, rfl, rfl⟩ sm5 S5 hl5 hd5
            refine kN _ _ _ _ _ ⟨some (brD p), y, rfl, ?_⟩ sm5 S5 hl5 hd5
            rw [et, knotsL_app, List.take_of_length_le (Nat.le_refl _)]
            simp [knotsL]
        · rintro ds es vs σ4 H4 ⟨x, y, rfl, rfl⟩ sm4 S4 hl4 hd4
          rw [List.take_of_length_le (Nat.le_refl _), ← B.knots_flat] at hd4
          have e14 := sm4.same0 (e1.free (e2.free l0)) ((e1.trans e2).trans e3)
          exact s_ret (d := .raw (.ref l)) (by walk_at "ev") fun v H5 e5 hv => by
            rw [show v = .ref l from hv]
            exact kr l vs H5 (e1.free (e2.free l0)) (e14.trans e5) (e5 _ _ hl4) (Dts.mono e5 _ hd4)
end
end Rt

namespace Rt
open PySem PySem.Spec PyProof.Rows L2
section
variable {P : Program} {w : World} {K : PySem.W.Frag} {mg : Str → Option Value} {base : Heap}
theorem dts_strs {H : Hp} : ∀ {ys : List Tx} {vs : List V}, Dts K H (ys.map D.str) vs → vs = ys.map fun y => V.str (S y)
  | [], vs, h => h
  | y :: ys, vs, ⟨v, r, h1, h2, h3⟩ => by rw [h1, dts_strs h3, show v = V.str (S y) from h2]; rfl
theorem flat_strs (ys : List Tx) : (ys.map fun y => V.str (S y)).all flatV = true := by
  rw [List.all_map]; exact List.all_eq_true.mpr fun _ _ => rfl
theorem inV_strs (x : Tx) : ∀ ys : List Tx, inV (V.str (S x)) (ys.map fun y => V.str (S y)) = decide (x ∈ ys)
  | [] => rfl
  | y :: ys => by
    show (eqV (V.str (S y)) (V.str (S x)) || inV (V.str (S x)) (ys.map fun y => V.str (S y))) = _
    rw [inV_strs x ys]
    have q : eqV (V.str (S y)) (V.str (S x)) = decide (x = y) := by
      show (S y == S x) = _
      by_cases e : x = y
      · rw [decide_eq_true e, e]; exact beq_self_eq_true _
      · rw [decide_eq_false e]; exact beq_eq_false_iff_ne.mpr fun z => e (S_inj z).symm
    rw [q, ← Bool.decide_or]
    exact decide_eq_decide.mpr List.mem_cons.symm
theorem ev_inS {σ : L2.St} {H : Hp} {ta tb : TE} {x : Tx} {ys : List Tx} (ha : Ev K ta σ H (.str x)) (hb : Ev K tb σ H (.lst (ys.map D.str))) : Ev K (tOp (rIn K false) ta tb) σ H (.bl (decide (x ∈ ys))) :=
  ev_op ha hb fun v w H1 _ hv ⟨a, vs, h1, h2, h3⟩ Q q => ⟨a, vs, h1, .inl (SqL.of h2), by rw [show v = V.str (S x) from hv]; rfl, by rw [dts_strs h3]; exact flat_strs ys, q _ _ (Same.refl _) (by rw [show v = V.str (S x) from hv, dts_strs h3, inV_strs]; rfl)⟩
theorem ev_notInS {σ : L2.St} {H : Hp} {ta tb : TE} {x : Tx} {ys : List Tx} (ha : Ev K ta σ H (.str x)) (hb : Ev K tb σ H (.lst (ys.map D.str))) : Ev K (tOp (rIn K true) ta tb) σ H (.bl (!decide (x ∈ ys))) :=
  ev_op ha hb fun v w H1 _ hv ⟨a, vs, h1, h2, h3⟩ Q q => ⟨a, vs, h1, .inl (SqL.of h2), by rw [show v = V.str (S x) from hv]; rfl, by rw [dts_strs h3]; exact flat_strs ys, q _ _ (Same.refl _) (by rw [show v = V.str (S x) from hv, dts_strs h3, inV_strs]; rfl)⟩
/-- a list at a known address that is not l -/
theorem ev_rawL {σ : L2.St} {H : Hp} {te : TE} {a l : Addr} {vs : List V} {xs : List D} (h : Ev K te σ H (.raw (.ref a))) (ha : H a = some (.lst vs)) (hd : Dts K H xs vs) (ne : a ≠ l) : EvP te σ H (fun v H1 => ∃ a vs, v = .ref a ∧ a ≠ l ∧ H1 a = some (.lst vs) ∧ Dts K H1 xs vs) := fun H1 s1 Q q =>
  h H1 s1 Q fun v H2 s2 hv => q v H2 s2 ⟨a, vs, hv, ne, (s1.trans s2) _ _ ha, Dts.mono (s1.trans s2) _ hd⟩
def optS : Option Tx → D
  | none => .non
  | some x => .str x
theorem optS_non (o : Option Tx) : (optS o).isNon = o.isNone := by cases o <;> rfl
/-- a new local list; the slots stand behind as they were but for its own -/
theorem q_asgNs {σ : L2.St} {H : Hp} {te : TE} {i : Nat} {es : List D} {E : Ends} {tu : TS} (h : EvN K te σ H es) (k : ∀ p vs H', H p = none → Same H H' → H' p = some (.lst vs) → Dts K H' es vs → tu E (σ.set i (some (.ref p))) H') : tSeq (tAsg te (gName i)) tu E σ H :=
  h H (Same.refl H) _ fun p vs H1 hp e h1 h2 => k p vs H1 hp e h1 h2
theorem strs_imm (l : List Tx) : D.imms (l.map D.str) = true := D.imms_map fun _ _ => rfl
theorem q_drop {σ : L2.St} {H : Hp} {te : TE} {d : D} {E : Ends} {tv : TS} (h : Ev K te σ H d) (k : ∀ H', Same H H' → tv E σ H') : tSeq (tDrop te) tv E σ H := s_drop (E := { E with nx := tv E }) h k
theorem q_app {σ : L2.St} {H : Hp} {ta te : TE} {d : D} {E : Ends} {tv : TS} {l : Addr} {vs : List V} {es : List D} (hl : H l = some (.lst vs)) (hd : Dts K H es vs) (hi : D.imms es = true) (ha : Ev K ta σ H (.raw (.ref l))) (h : Ev K te σ H d) (hdi : d.imm = true) (hz : es.length < 100000)
    (k : ∀ ws H', Chg l H H' → H' l = some (.lst ws) → Dts K H' (es ++ [d]) ws → tv E σ H') : tSeq (tDrop (tBM K "list" rAppend ta (tCons te tNil))) tv E σ H := s_app (E := { E with nx := tv E }) hl hd hi ha h hdi hz k
end
end Rt

namespace Rt
open PySem PySem.Spec PyProof.Rows L2
section
variable {P : Program} {w : World} {K : PySem.W.Frag} {mg : Str → Option Value} {base : Heap}
/-- over range(n), a local list at l is changed -/
theorem s_forRB {σ : L2.St} {H : Hp} {E : Ends} {tu : TS} {l : Addr} {j : Nat} {ta : TA} {n : Int} (m : Nat) (h : EvA K ta σ H [.int n]) (hm : m = n.toNat) (hn : n ≤ 100000 ∧ -100000 ≤ n) (P : Nat → List (Option D) → List D → Prop) {d0 : List (Option D)} {e0 : List D} {v0 : List V} (s0 : Sl K H d0 σ) (p0 : P 0 d0 e0) (hl : H l = some (.lst v0)) (hd0 : Dts K H e0 v0)
    (step : ∀ i : Nat, i < m → TurnB K l P tu E j H i (.int (i : Int))) (done : ∀ ds es vs σ' H', P m ds es → Sm l H H' → Sl K H' ds σ' → H' l = some (.lst vs) → Dts K H' es vs → E.nx σ' H') : tFor (iRng1 ta) (gName j) tu E σ H :=
  h H (Same.refl H) _ fun vs H1 s1 ⟨v, r, e1, e2, e3⟩ => ⟨n, by rw [e1, show v = .int n from e2, show r = [] from e3], by omega, by omega, for_range (lo := 0) (n := n.toNat) (fun i σ H' => ∃ ds es ws, P i ds es ∧ Sm l H1 H' ∧ Sl K H' ds σ ∧ H' l = some (.lst ws) ∧ Dts K H' es ws) ⟨d0, e0, v0, p0, Sm.refl _ _, s0.mono s1, s1 _ _ hl, Dts.mono s1 _ hd0⟩
    (fun i σ' H' hi ⟨ds, es, ws, p, s, sl, hl', hd'⟩ => by
      have e0 : (0 : Int) + (i : Int) = (i : Int) := Int.zero_add _
      rw [e0]
      exact step i (by omega) ds es ws _ H' _ p ((Same.sm l s1).trans s) (sl.set (d := .int (i : Int)) j rfl) hl' hd' fun ds2 es2 ws2 σ2 H2 p2 s2 sl2 hl2 hd2 => ⟨ds2, es2, ws2, p2, s.trans s2, sl2, hl2, hd2⟩)
    (fun σ' H' ⟨ds, es, ws, p, s, sl, hl', hd'⟩ => by rw [← hm] at p; exact done ds es ws σ' H' p ((Same.sm l s1).trans s) sl hl' hd')⟩
theorem q_forRB {σ : L2.St} {H : Hp} {E : Ends} {tu tv : TS} {l : Addr} {j : Nat} {ta : TA} {n : Int} (m : Nat) (h : EvA K ta σ H [.int n]) (hm : m = n.toNat) (hn : n ≤ 100000 ∧ -100000 ≤ n) (P : Nat → List (Option D) → List D → Prop) {d0 : List (Option D)} {e0 : List D} {v0 : List V} (s0 : Sl K H d0 σ) (p0 : P 0 d0 e0) (hl : H l = some (.lst v0)) (hd0 : Dts K H e0 v0)
    (step : ∀ i : Nat, i < m → TurnB K l P tu { E with nx := tv E } j H i (.int (i : Int))) (done : ∀ ds es vs σ' H', P m ds es → Sm l H H' → Sl K H' ds σ' → H' l = some (.lst vs) → Dts K H' es vs → tv E σ' H') : tSeq (tFor (iRng1 ta) (gName j) tu) tv E σ H := s_forRB (E := { E with nx := tv E }) m h hm hn P s0 p0 hl hd0 step done
theorem row_eqv (p q : Tx × Int) : PyData.eqv (rowD q).py (rowD p).py = decide (p = q) := by
  show (((S q.1 == S p.1) && ((q.2 == p.2) && true)) : Bool) = _
  by_cases e : p = q
  · rw [decide_eq_true e, e]; simp
  · rw [decide_eq_false e]
    by_cases e1 : q.1 = p.1
    · have e2 : q.2 ≠ p.2 := fun z => e (Prod.ext e1.symm z.symm)
      rw [show (q.2 == p.2) = false from beq_eq_false_iff_ne.mpr e2]; simp
    · rw [show (S q.1 == S p.1) = false from beq_eq_false_iff_ne.mpr fun z => e1 (S_inj z)]; rfl
theorem any_rows (p : Tx × Int) : ∀ rows : Rows, (D.pys (rows.map rowD)).any (fun z => PyData.eqv z (rowD p).py) = decide (p ∈ rows)
  | [] => rfl
  | q :: rows => by
    show (PyData.eqv (rowD q).py (rowD p).py || (D.pys (rows.map rowD)).any (fun z => PyData.eqv z (rowD p).py)) = _
    rw [any_rows p rows, row_eqv, ← Bool.decide_or]
    exact decide_eq_decide.mpr List.mem_cons.symm
theorem row_gd {p : Tx × Int} (h : okT p.1) : (rowD p).gd 1 := fun d m => by
  rcases List.mem_cons.mp m with rfl | m
  · exact okT_cps h
  · rcases List.mem_cons.mp m with rfl | m
    · trivial
    · cases m
theorem ev_notInR {σ : L2.St} {H : Hp} {ta tb : TE} {p : Tx × Int} {rows : Rows} (ha : Ev K ta σ H (rowD p)) (hb : Ev K tb σ H (.lst (rows.map rowD))) (h1 : okT p.1) (h2 : ∀ q ∈ rows, okT q.1) : Ev K (tOp (rNotInD K) ta tb) σ H (.bl (!decide (p ∈ rows))) :=
  ev_op ha hb fun v w H1 _ hv hw Q q => ⟨_, _, gd_dp 1 _ v (row_gd h1) hv, gd_dp 2 _ w (rows_gd h2) hw, gd_shaped (row_gd h1) (by decide), gd_shaped (rows_gd h2) (by decide), q _ _ (Same.refl _) (by rw [any_rows]; rfl)⟩
theorem cutD_init (xs : List D) (d : D) : cutD (xs ++ [d]) none (some (-1)) = xs := by
  unfold cutD
  have e1 : HT.sIx (xs ++ [d]).length 0 none = 0 := HT.sIx_none ..
  have e2 : HT.sIx (xs ++ [d]).length (xs ++ [d]).length (some (-1)) = xs.length := by
    have hl : (xs ++ [d]).length = xs.length + 1 := by rw [List.length_append]; rfl
    rw [hl]
    unfold HT.sIx
    simp
    omega
  rw [e1, e2, List.drop_zero, Nat.sub_zero, List.take_left]
theorem units65 {k : Nat} {A : Around} (r : Room k A) : A.units + 65 < cLine := by have := r.un; omega
end
end Rt

namespace Rt
open PySem PySem.Spec PyProof.Rows L2
section
variable {P : Program} {w : World} {K : PySem.W.Frag} {mg : Str → Option Value} {base : Heap}
def StrSet {prog : Program} {w : World} (h : Heap) (D : Addr) (ys : List Tx) : Prop := h.SetOf (strKind prog w) D (fun z => decide (z ∈ ys.map S)) (dedF [] ys).length
theorem mem_ded : ∀ (l a : List Tx) (x : Tx), x ∈ dedF a l ↔ x ∈ a ∨ x ∈ l
  | [], a, x => ⟨.inl, fun h => h.elim id (fun z => by cases z)⟩
  | y :: l, a, x => by
    unfold dedF
    rw [mem_ded l]
    by_cases c : y ∈ a
    · rw [if_pos c, List.mem_cons]
      exact ⟨fun h => h.elim .inl (fun z => .inr (.inr z)), fun h => h.elim .inl fun z => z.elim (fun e => .inl (by rw [e]; exact c)) .inr⟩
    · rw [if_neg c, List.mem_append, List.mem_singleton, List.mem_cons, or_assoc]
theorem ded_le (l : List Tx) : (dedF [] l).length ≤ l.length := by
  have go : ∀ (l a : List Tx), (dedF a l).length ≤ a.length + l.length := fun l => by
    induction l with
    | nil => intro a; exact Nat.le_refl _
    | cons y l ih =>
      intro a
      have h := ih (if y ∈ a then a else a ++ [y])
      have : (if y ∈ a then a else a ++ [y]).length ≤ a.length + 1 := by split <;> simp
      show (dedF (if y ∈ a then a else a ++ [y]) l).length ≤ _
      rw [List.length_cons]; omega
  have := go l []
  simpa using this
theorem mem_mapS {x : Tx} {l : List Tx} : S x ∈ l.map S ↔ x ∈ l := by
  rw [List.mem_map]
  exact ⟨fun ⟨y, hy, e⟩ => by rw [← S_inj e]; exact hy, fun h => ⟨x, h, rfl⟩⟩
section
variable {prog : Program} {w : World} {A : Around}
theorem strSet_more {h : Heap} {D : Addr} {ys : List Tx} {i : Nat} {y : Tx} (hy : ys[i]? = some y) (h1 : h.SetOf (strKind prog w) D (fun z => decide (z ∈ (ys.take i).map S) || decide (z = S y)) (if decide (S y ∈ (ys.take i).map S) = true then (dedF [] (ys.take i)).length else (dedF [] (ys.take i)).length + 1)) :
    StrSet (prog := prog) (w := w) h D (ys.take (i + 1)) := by
  have e : ys.take (i + 1) = ys.take i ++ [y] := by rw [List.take_add_one, hy]; rfl
  refine SetOf_congr h1 (fun z => ?_) ?_
  · rw [e, List.map_append, List.map_cons, List.map_nil, ← Bool.decide_or]
    exact decide_eq_decide.mpr (by rw [List.mem_append, List.mem_singleton])
  · rw [e, dedF_app]
    have q : (S y ∈ (ys.take i).map S) ↔ y ∈ dedF [] (ys.take i) := by rw [mem_mapS, mem_ded]; simp
    by_cases c : y ∈ dedF [] (ys.take i)
    · rw [if_pos (decide_eq_true (q.mpr c))]
      show _ = (if y ∈ dedF [] (ys.take i) then dedF [] (ys.take i) else _ : List Tx).length
      rw [if_pos c]
    · rw [if_neg (by rw [decide_eq_true_eq]; exact fun z => c (q.mp z))]
      show _ = (if y ∈ dedF [] (ys.take i) then _ else dedF [] (ys.take i) ++ [y] : List Tx).length
      rw [if_neg c, List.length_append]; rfl
theorem strSet_kept {s s' : Shared} {wr : List Addr} {G : Array GenState → Array GenState → Prop} {D : Addr} {ys : List Tx} (m : Moved wr G s s') (nd : D ∉ wr) (h : StrSet (prog := prog) (w := w) s.heap D ys) : StrSet (prog := prog) (w := w) s'.heap D ys := by
  obtain ⟨o, es, ep, tb, ho, r⟩ := h
  exact ⟨o, es, ep, tb, m.heap D _ nd ho, r⟩
theorem loop_set {R : Result → Shared → Prop} {J : Addr} {fp wr : List Addr} {G : Array GenState → Array GenState → Prop} {n : Nat} {P : Nat → Value → Prop} {St : Nat → Shared → Prop} (W : WalksS prog w A.in1 J fp wr G n P St) (D : Addr) (nd : D ∉ fp) (ys : List Tx) (hn : ys.length = n) (hb : n < 1000)
    (hv : ∀ i v, P i v → ∃ t, v = .str (S (ys.getD i [])) t) : ∀ (k i : Nat) (u : Shared), n - i = k → i ≤ n → St i u → StrSet (prog := prog) (w := w) u.heap D (ys.take i) → (∀ u', Moved (D :: wr) G u u' → StrSet (prog := prog) (w := w) u'.heap D ys → R (.ok (.ret .none)) u') →
      codeAny (model prog w) A (.builtin "set.update.loop" ⟨[.ref D, .ref J], []⟩) R u := by
  have nw : D ∉ wr := fun z => nd (W.sub _ z)
  have more : ∀ b ∈ wr, b ∈ D :: wr := fun b z => List.mem_cons_of_mem _ z
  intro k
  induction k with
  | zero =>
    intro i u hk hi st hS hR
    have hin : i = n := by omega
    rw [List.take_of_length_le (by omega)] at hS
    rw [hin] at st
    refine codeAny_builtin PyProof.Rows.F.entry_set_update_loop ?_
    rw [Around.under_plainId PyProof.Rows.F.plain_set_update_loop _]
    show wpAny _ A.in1 (pyNext (.ref J) >>= _) _ _ u
    exact wpAny_bind (W.done u _ _ st fun u' hm => wpAny_pure (hR u' (hm.mono more) (strSet_kept hm nw hS)))
  | succ k ih =>
    intro i u hk hi st hS hR
    have hlt : i < n := by omega
    obtain ⟨y, hy⟩ : ∃ y, ys[i]? = some y := ⟨_, List.getElem?_eq_getElem (by omega)⟩
    refine codeAny_builtin PyProof.Rows.F.entry_set_update_loop ?_
    rw [Around.under_plainId PyProof.Rows.F.plain_set_update_loop _]
    show wpAny _ A.in1 (pyNext (.ref J) >>= _) _ _ u
    refine wpAny_bind (W.item i u _ _ hlt st fun v u1 hP st1 hm => ?_)
    obtain ⟨t, rfl⟩ := hv i v hP
    rw [show ys.getD i [] = y by rw [List.getD_eq_getElem?_getD, hy]; rfl]
    have hS1 := strSet_kept hm nw hS
    have hl := ded_le (ys.take i)
    have hl2 : (ys.take i).length ≤ ys.length := by rw [List.length_take]; omega
    show wpAny _ A.in1 (holding [Value.str (S y) t] (setAdd D (.str (S y) t)) >>= _) _ _ u1
    refine wpAny_bind (wpAny_holding ?_)
    unfold setAdd
    refine wpAny_holding (wpAny_bind ((strKind prog w).pyHash (k := S y) (strKind_is _ _ _ _) ?_))
    refine wpAny_setAddHashed_of (knd := strKind prog w) (s := { u1 with toks := u1.toks + 1 }) (strKind_is _ _ _ _) rfl hS1 (by unfold scanBound; omega) fun g sb hS2 => ?_
    have hS3 := strSet_more (prog := prog) (w := w) hy hS2
    refine wpAny_pure ⟨plainId_quiet PyProof.Rows.F.plain_set_update_loop _, ih (i + 1) _ (by omega) hlt (W.frame _ u1 _ _ st1 (Nat.le_succ _) fun b hb o e => (sb.2 b fun z => nd (by rw [← z]; exact hb)).trans e) hS3 fun u2 m2 hS4 => hR u2 (Moved.trans W.gtrans ((hm.mono more).then_heap (Nat.le_succ _) fun b o hb e => (sb.2 b fun z => hb (by rw [z]; exact List.mem_cons_self)).trans e) m2) hS4⟩
end
section
variable {prog : Program} {w : World} {A : Around} {E : Value → Shared → Prop} {s : Shared}
theorem strs_val {items : Array Value} {ys : List Tx} (hi : StrsAre items.toList (ys.map S)) (i : Nat) (v : Value) (hv : items[i]? = some v) : ∃ t, v = .str (S (ys.getD i [])) t := by
  obtain ⟨t, e⟩ := SS.strs_at hi i v (by rw [Array.getElem?_toList]; exact hv)
  have hlen : ys.length = items.size := by rw [← List.length_map (f := S), ← StrsAre.len_eq hi, Array.length_toList]
  have hlt : i < ys.length := by
    rw [hlen]
    exact (Array.getElem?_eq_some_iff.mp hv).1
  refine ⟨t, ?_⟩
  rw [e, List.getD_eq_getElem?_getD, List.getD_eq_getElem?_getD, List.getElem?_map, List.getElem?_eq_getElem hlt]
  rfl
set_option maxHeartbeats 4000000 in
theorem set_of_list {l : Addr} {items : Array Value} {ys : List Tx} {Q : Value → Shared → Prop} (noH : A.handled = none) (isl : s.heap.IsList l items) (hi : StrsAre items.toList (ys.map S)) (hn : ys.length < 1000)
    (fin : ∀ (g : Heap) (tk : Nat), StrSet (prog := prog) (w := w) g s.heap.objs.size ys → (∀ b o, b < s.heap.objs.size → s.heap.get? b = some o → g.get? b = some o) → Q (.ref s.heap.objs.size) { s with heap := g, toks := tk }) :
    wpAny (model prog w) A (call (.type "set") [.ref l]) Q E s := by
  have ⟨c0, tl0, m0⟩ := PySem.F.called_set.mro
  have m1 := PySem.F.called_set.made; have m2 := PySem.F.called_set.sub
  refine wpAny_call (codeAny_of_tree (?_ : wpAny _ _ (callAny (.type "set") _) _ _ _))
  refine wpAny_pure ⟨Code.quiet_builtin _ (by decide +kernel), codeAny_builtin PySem.F.entry_type_call (?_)⟩
  rw [Around.under_plain (weight_type_call_type "set" [Value.ref l] []) rfl]
  have m3 := PySem.F.called_set.notType; have m4 := PySem.F.called_set.canCreate; have m5 := PySem.F.typeCall_set_1 (.ref l)
  repeat (any_goals (first | assumption | wp_step))
  refine codeAny_mono (code_set_new_1 (.ref l) (E := E) (Q₁ := fun v u => ∃ led : Bool, v = .ref s.heap.objs.size ∧ u = { s with heap := s.heap.push { cls := .type "set", dict := none, data := .set #[] 0 (.fresh 0 0 led) } }) fun led => ⟨led, rfl, rfl⟩) (fun r u hr => ?_)
  cases r with
  | error x => exact hr
  | ok f =>
    cases f with
    | next => exact False.elim hr
    | brk => exact False.elim hr
    | cont => exact False.elim hr
    | ret v =>
      obtain ⟨led, rfl, rfl⟩ := hr
      have d0 : (s.heap.push { cls := .type "set", dict := none, data := .set #[] 0 (.fresh 0 0 led) }).get? s.heap.objs.size = some { cls := .type "set", dict := none, data := .set #[] 0 (.fresh 0 0 led) } := Heap.get?_push_size _ (rfl)
      have d1 : Shared.TypeIs { s with heap := s.heap.push { cls := .type "set", dict := none, data := .set #[] 0 (.fresh 0 0 led) } } (.ref s.heap.objs.size) "set" := ⟨_, d0, rfl⟩
      have m6 := PySem.F.called_set.init.lookup; have m7 := PySem.F.called_set.init.bind (.ref s.heap.objs.size)
      repeat (any_goals (first | assumption | wp_step))
      refine codeAny_mono (codeAny_call_builtin (R := wants (fun v u => v = .none ∧ ∃ g tk, u = { s with heap := g, toks := tk } ∧ StrSet (prog := prog) (w := w) g s.heap.objs.size ys ∧ ∀ b o, b < s.heap.objs.size → s.heap.get? b = some o → g.get? b = some o) E)
        PySem.F.called_set.init.plain PySem.F.entry_set_init (check_set_init_1 d1 ?_)) (fun r u hr => ?_)
      · obtain ⟨ob, hob, hoc, nob, hod⟩ := isl
        obtain ⟨k1, k2, k3, k4⟩ := ob
        simp only at hoc hod
        subst hoc hod
        have hob2 : (s.heap.push { cls := .type "set", dict := none, data := .set #[] 0 (.fresh 0 0 led) }).get? l = some { cls := .type "list", dict := k2, data := .seq items nob, slots := k4 } := Heap.get?_push_of_some _ hob
        have m8 := PySem.F.sub_list_set; have m9 := PySem.F.sub_list_frozenset
        have mA : (Value.type "list" == Value.type "dict") = false := by decide
        have isl2 : (s.heap.push { cls := .type "set", dict := none, data := .set #[] 0 (.fresh 0 0 led) }).IsList l items := ⟨_, hob2, rfl, nob, rfl⟩
        unfold Builtin.«set.__init__» noKeywords Builtin.Frozenset.updateFrom
        generalize hIt : pyIter = It
        wp_walk
        subst hIt
        refine wpAny_pyIter_list isl2 (wpAny_bind (wpAny_runValue ?_))
        have lt0 : l < s.heap.objs.size := Heap.lt_size hob
        have noH3 : A.in1.in1.in1.handled = none := by simp [noH]
        have ne0 : l ≠ (s.heap.push { cls := .type "set", dict := none, data := .set #[] 0 (.fresh 0 0 led) }).objs.size := by
          rw [Heap.size_push]
          exact Nat.ne_of_lt (Nat.lt_succ_of_lt lt0)
        have nd0 : s.heap.objs.size ∉ [(s.heap.push { cls := .type "set", dict := none, data := .set #[] 0 (.fresh 0 0 led) }).objs.size, l] := by
          rw [Heap.size_push]
          intro z
          rcases List.mem_cons.mp z with z | z
          · exact Nat.ne_of_lt (Nat.lt_succ_self _) z
          · exact Nat.ne_of_gt lt0 (List.mem_singleton.mp z)
        have lys : ys.length = items.size := by rw [← List.length_map (f := S), ← StrsAre.len_eq hi, Array.length_toList]
        refine loop_set ((Walks.list noH3 _ l ne0 items).toS) s.heap.objs.size nd0 ys lys (by omega) (strs_val hi) (items.size - 0) 0 _ rfl (Nat.zero_le _) ⟨⟨_, Heap.get?_push_size _ rfl, rfl, rfl⟩, isl2.push _⟩ ?_ fun u hm hS => ?_
        · have d2 : ((s.heap.push { cls := .type "set", dict := none, data := .set #[] 0 (.fresh 0 0 led) }).push { cls := .type "list_iterator", data := .fields #[.ref l, .int 0 0] }).get? s.heap.objs.size = some { cls := .type "set", dict := none, data := .set #[] 0 (.fresh 0 0 led) } := Heap.get?_push_of_some _ d0
          exact SetOf_congr ((setObjOf_fresh (knd := strKind prog w) led).setOf d2 (by unfold scanBound; omega)) (fun z => by simp) rfl
        · obtain ⟨g, q1, q2, tk, q3⟩ := u
          obtain rfl : q1 = s.gens := hm.gens
          obtain rfl : q2 = s.drawn := hm.drawn
          obtain rfl : q3 = s.os := hm.os
          show wpAny _ _ _ _ _ _
          refine wpAny_pure ?_
          show wpAny (model prog w) _ (ret Value.none) _ _ _
          refine wpAny_pure ⟨rfl, g, tk, rfl, hS, fun b o hb e => ?_⟩
          refine hm.heap b o (fun z => ?_) (Heap.get?_push_of_some _ (Heap.get?_push_of_some _ e))
          rcases List.mem_cons.mp z with z | z
          · exact Nat.ne_of_lt hb z
          · have z2 := List.mem_singleton.mp z
            rw [Heap.size_push] at z2
            exact Nat.ne_of_lt (Nat.lt_succ_of_lt hb) z2
      · cases r with
        | error x => exact hr
        | ok f =>
          cases f with
          | next => exact False.elim hr
          | brk => exact False.elim hr
          | cont => exact False.elim hr
          | ret v =>
            obtain ⟨rfl, g, tk, rfl, hS, kp⟩ := hr
            repeat (any_goals (first | assumption | wp_step))
            exact fin _ _ hS kp
end
/-- len(set(..)) of texts -/
def tLenSetT (K : PySem.W.Frag) (ta : TE) : TE := fun σ H Q => ta σ H fun x H1 => ∃ (l : Addr) (ys : List Tx), x = .ref l ∧ SqL K H1 l (ys.map fun y => V.str (S y)) ∧ ys.length < 1000 ∧ Q (.int ((dedF [] ys).length : Int)) H1
theorem pe_lenSetT {X : Cx} {a : Expr} {ta : TE} {p p2 q pos : Pos} (hc : X.calm = true) (g1 : Gl X "len") (n1 : X.mg "len" = none) (g2 : Gl X "set") (n2 : X.mg "set" = none) (ha : PE X a ta)
    (na : starEach [a] X.env = (false, eval a X.env) :: starEach [] X.env := by rfl) : PE X (.Call (.Name "len" p) [.Call (.Name "set" p2) [a] [] q] [] pos) (tLenSetT X.K ta) := ⟨fun pins s σ H Q I h => by
  refine Call_ (ld_blt I g1 n1 boot_len (PyProof.Rows.callWith_builtin1 (PyProof.Rows.args_cons (Call_ (ld_blt I g2 n2 boot_set ?_)) rfl) rfl rfl))
  refine PyProof.Rows.callWith_type1 (PyProof.Rows.args_cons (thn (ha.run pins s σ H _ I h) fun v s1 ⟨x, H1, I1, r1, q1⟩ => PyProof.Rows.args_nil ?_) na) na rfl
  obtain ⟨l, ys, rfl, sq, hz, q2⟩ := q1
  cases r1
  obtain ⟨its, r, pl, _⟩ := I1.list sq
  have r2 : Vals ((ys.map S).map V.str) its := by rw [List.map_map]; exact r
  refine set_of_list (I1.ok.hd hc) pl.isList (ys := ys) (by simpa using strsAre_of r2) hz fun g tk hS kp => PyProof.Rows.args_nil ?_
  obtain ⟨o, es, ep, t, ho, hex, hd, _, _, _, hf, hn⟩ := hS
  have I2 : Inv X pins σ H1 { s1 with heap := g, toks := tk } := I1.kept fun b o e => kp b o (Heap.lt_size e) e
  have lb := ded_le ys
  exact call_len_set ho hex hd hf (by rw [hn] <;> omega) ⟨.int (dedF [] ys).length, H1, I2.tok _, ⟨_, by rw [hn]⟩, q2⟩⟩
theorem ev_lenSet {σ : L2.St} {H : Hp} {ta : TE} {ys : List Tx} (h : Ev K ta σ H (.lst (ys.map D.str))) (hz : ys.length < 1000) : Ev K (tLenSetT K ta) σ H (.int ((dedF [] ys).length : Int)) := fun H1 a Q q =>
  h H1 a _ fun v H2 s ⟨l, vs, e1, e2, e3⟩ => ⟨l, ys, e1, by rw [← dts_strs e3]; exact SqL.of e2, hz, q _ H2 s rfl⟩
end
end Rt

namespace Rt
open PySem PySem.Spec PyProof.Rows L2
section
variable {P : Program} {w : World} {K : PySem.W.Frag} {mg : Str → Option Value} {base : Heap}
theorem cal_alike (F : Dfn K mg "_law_alike" s__law_alike ["_law_told", "_law_due"]) (BU : Bl mg) (c__law_whole : Cal P w K mg base CX0 1 "_law_whole" (Fn K Rwhole)) : ∀ N, N ≤ 290 → Cal P w K mg base CX0 (N + 1) "_law_alike" (Fn K (Ralike N))
  | 0, _ => cal_none F fun vs H Q E h => by
    obtain ⟨_, _, _, ⟨d, _, h, _⟩, _⟩ := h
    exact h.elim
  | N + 1, hN => by
    have c__law_alike := cal_alike F BU c__law_whole N (by omega)
    refine cal_fn F sc__law_alike (fun ds d h => by obtain ⟨a, rfl, _⟩ := h; rfl) fun cdv A outer s f H vs ds d hr hR S0 => ?_
    obtain ⟨d, rfl, hd, rfl⟩ := hR
    refine ⟨_, (pss_cons (ps_if (pt_cmpR op_isN (pv 1) pe_non (nomark _)) (pss_one (ps_ret (pe_cmpR op_isN (pv 0) pe_non (nomark _)))) pss_nil) (pss_cons (ps_if (pt_val (pe_callB call_isi (by rfl) BU.isinstance_ (by decide +kernel) (pa_cons (pv 1) (pa_cons (pe_bltn (v := .ty "str") (by rfl) BU.str_ (by decide +kernel) rfl) pa_nil)))) (pss_one (ps_ret (pe_and (pe_callB call_isi (by rfl) BU.isinstance_ (by decide +kernel) (pa_cons (pv 0) (pa_cons (pe_bltn (v := .ty "str") (by rfl) BU.str_ (by decide +kernel) rfl) pa_nil))) (pe_one (pe_cmpR (op_eqD hr.units) (pv 0) (pv 1) (nomark _)))))) pss_nil) (pss_cons (ps_if (pt_val (pe_callB call_isi (by rfl) BU.isinstance_ (by decide +kernel) (pa_cons (pv 1) (pa_cons (pe_bltn (v := .ty "int") (by rfl) BU.int_ (by decide +kernel) rfl) pa_nil)))) (pss_one (ps_ret (pe_and (pe_c c__law_whole hr (by omega) (by rfl) (pa_cons (pv 0) pa_nil)) (pe_one (pe_cmpR (op_eqD hr.units) (pv 0) (pv 1) (nomark _)))))) pss_nil) (pss_cons (ps_if (PW.pt (pw_and (pt_val (pe_callB call_isi (by rfl) BU.isinstance_ (by decide +kernel) (pa_cons (pv 1) (pa_cons (pe_bltn (v := .ty "tuple") (by rfl) BU.tuple_ (by decide +kernel) rfl) pa_nil)))) (pw_and1 (pt_not (pt_val (pe_callB call_isi (by rfl) BU.isinstance_ (by decide +kernel) (pa_cons (pv 0) (pa_cons (pe_bltn (v := .ty "tuple") (by rfl) BU.tuple_ (by decide +kernel) rfl) pa_nil)))))))) (pss_one (ps_ret pe_bl)) pss_nil) (pss_cons (ps_if (PW.pt (pw_and (pt_val (pe_callB call_isi (by rfl) BU.isinstance_ (by decide +kernel) (pa_cons (pv 1) (pa_cons (pe_bltn (v := .ty "list") (by rfl) BU.list_ (by decide +kernel) rfl) pa_nil)))) (pw_and1 (pt_not (pt_val (pe_callB call_isi (by rfl) BU.isinstance_ (by decide +kernel) (pa_cons (pv 0) (pa_cons (pe_bltn (v := .ty "list") (by rfl) BU.list_ (by decide +kernel) rfl) pa_nil)))))))) (pss_one (ps_ret pe_bl)) pss_nil) (pss_cons (ps_if (pt_cmpR op_ne (pe_callB call_len_seq (by rfl) BU.len_ PySem.boot_len (pa_cons (pv 0) pa_nil)) (pe_callB call_len_seq (by rfl) BU.len_ PySem.boot_len (pa_cons (pv 1) pa_nil)) (nomark _)) (pss_one (ps_ret pe_bl)) pss_nil) (pss_cons (ps_for PassesOwn.never rfl (pi_range1 (by rfl) BU.range_ (pa_cons (pe_callB call_len_seq (by rfl) BU.len_ PySem.boot_len (pa_cons (pv 1) pa_nil)) pa_nil)) (pg_name (i := 2) sc__law_alike.nd rfl (Or.inl rfl)) (pss_one (ps_if (pt_not (pt_val (pe_c c__law_alike hr (by omega) (by rfl) (pa_cons (pe_ix ix_seq (pv 0) (pv 2) (fun _ _ => rfl)) (pa_cons (pe_ix ix_seq (pv 1) (pv 2) (fun _ _ => rfl)) pa_nil))))) (pss_one (ps_ret pe_bl)) pss_nil))) (pss_one (ps_ret pe_bl))))))))), fun nx Q kn kr => ?_⟩
    try dsimp only [cxOf]
    generalize start _ vs = σ at *
    cases d with
    | non =>
      refine q_ifT (by walk_at "etq") fun H1 e1 => ?_
      have S1 := S0.mono e1
      exact s_ret (d := .bl true) (by walk_at "evq") fun v H2 e2 hv => kr v H2 (e1.trans e2) hv
    | int i =>
      refine q_ifF0 (by walk_at "etq") fun H1 e1 => ?_
      have S1 := S0.mono e1
      refine q_ifF0 (by walk_at "etq") fun H2 e2 => ?_
      have S2 := S1.mono e2
      refine q_ifT (by walk_at "etq") fun H3 e3 => ?_
      have S3 := S2.mono e3
      exact s_ret (d := .bl true) (ev_andT (ev_call (by walk_at "ev") Rwhole_mk) (ev_eqRefl (n := 0) (d := .int i) (by walk_at "ev") (by walk_at "ev") trivial (by decide))) fun v H4 e4 hv => kr v H4 (((e1.trans e2).trans e3).trans e4) hv
    | str l =>
      refine q_ifF0 (by walk_at "etq") fun H1 e1 => ?_
      have S1 := S0.mono e1
      refine q_ifT (by walk_at "etq") fun H2 e2 => ?_
      have S2 := S1.mono e2
      exact s_ret (d := .bl true) (ev_andT (by walk_at "ev") (ev_eqRefl (n := 0) (d := .str l) (by walk_at "ev") (by walk_at "ev") hd (by decide))) fun v H3 e3 hv => kr v H3 ((e1.trans e2).trans e3) hv
    | tup xs =>
      obtain ⟨hl, hx⟩ : xs.length ≤ 10000 ∧ ∀ d ∈ xs, D.al N d := hd
      refine q_ifF0 (by walk_at "etq") fun H1 e1 => ?_
      have S1 := S0.mono e1
      refine q_ifF0 (by walk_at "etq") fun H2 e2 => ?_
      have S2 := S1.mono e2
      refine q_ifF0 (by walk_at "etq") fun H3 e3 => ?_
      have S3 := S2.mono e3
      refine q_ifF0 (et_andT (by walk_at "etq") (by walk_at "etq")) fun H4 e4 => ?_
      have S4 := S3.mono e4
      refine q_ifF0 (et_andF (by walk_at "etq")) fun H5 e5 => ?_
      have S5 := S4.mono e5
      refine q_ifF0 (EvT.to (by walk_at "ev") (by simp)) fun H6 e6 => ?_
      have S6 := S5.mono e6
      refine q_forR xs.length (by walk_at "ev") (by omega) (by omega) (fun k ds => ∃ x, ds = [some (.tup xs), some (.tup xs), x]) S6 ⟨none, rfl⟩ ?_ ?_
      · rintro k hk ds σ7 H7 N2 ⟨x, rfl⟩ e7 S7 kN
        have ha : atI xs (k : Int) = some xs[k] := atI_nat (List.getElem?_eq_getElem hk)
        exact s_ifF (tu := _) (EvT.to (et_not (et_B (ev_call (by walk_at "ev") ⟨xs[k], rfl, hx _ (List.getElem_mem _), rfl⟩))) (by rfl)) fun H8 e8 => kN _ _ _ ⟨_, rfl⟩ e8 (S7.mono e8)
      · rintro ds σ7 H7 ⟨x, rfl⟩ e7 S7
        exact s_ret (K := K) ev_bl fun v H8 e8 hv => kr v H8 (((((((e1.trans e2).trans e3).trans e4).trans e5).trans e6).trans e7).trans e8) hv
    | lst xs =>
      obtain ⟨hl, hx⟩ : xs.length ≤ 10000 ∧ ∀ d ∈ xs, D.al N d := hd
      refine q_ifF0 (by walk_at "etq") fun H1 e1 => ?_
      have S1 := S0.mono e1
      refine q_ifF0 (by walk_at "etq") fun H2 e2 => ?_
      have S2 := S1.mono e2
      refine q_ifF0 (by walk_at "etq") fun H3 e3 => ?_
      have S3 := S2.mono e3
      refine q_ifF0 (et_andF (by walk_at "etq")) fun H4 e4 => ?_
      have S4 := S3.mono e4
      refine q_ifF0 (et_andT (by walk_at "etq") (by walk_at "etq")) fun H5 e5 => ?_
      have S5 := S4.mono e5
      refine q_ifF0 (EvT.to (by walk_at "ev") (by simp)) fun H6 e6 => ?_
      have S6 := S5.mono e6
      refine q_forR xs.length (by walk_at "ev") (by omega) (by omega) (fun k ds => ∃ x, ds = [some (.lst xs), some (.lst xs), x]) S6 ⟨none, rfl⟩ ?_ ?_
      · rintro k hk ds σ7 H7 N2 ⟨x, rfl⟩ e7 S7 kN
        have ha : atI xs (k : Int) = some xs[k] := atI_nat (List.getElem?_eq_getElem hk)
        exact s_ifF (tu := _) (EvT.to (et_not (et_B (ev_call (by walk_at "ev") ⟨xs[k], rfl, hx _ (List.getElem_mem _), rfl⟩))) (by rfl)) fun H8 e8 => kN _ _ _ ⟨_, rfl⟩ e8 (S7.mono e8)
      · rintro ds σ7 H7 ⟨x, rfl⟩ e7 S7
        exact s_ret (K := K) ev_bl fun v H8 e8 hv => kr v H8 (((((((e1.trans e2).trans e3).trans e4).trans e5).trans e6).trans e7).trans e8) hv
    | bl _ => exact hd.elim
    | raw _ => exact hd.elim
    | scr _ => exact hd.elim
end
end Rt

namespace Rt
open PySem PySem.Spec PyProof.Rows L2
section
variable {P : Program} {w : World} {K : PySem.W.Frag} {mg : Str → Option Value} {base : Heap}
def Rwalked (N : Nat) : List D → D → Prop := fun ds d => ∃ (t : T) (p : Tx), ds = [t.d, .str p] ∧ Tb N (some t) ∧ p.length + t.h ≤ 1000 ∧ d = .lst ((t.knots.map fun q => (p ++ q.1, q.2)).map rowD)
theorem cal_walked (F : Dfn K mg "_law_walked" s__law_walked ["_law_tree_here", "_law_start"]) (BU : Bl mg) : ∀ N, N ≤ 900 → Cal P w K mg base CX0 (N + 1) "_law_walked" (Fn K (Rwalked N))
  | 0, _ => cal_none F fun vs H Q E h => by
    obtain ⟨_, _, _, ⟨t, p, _, ht, _⟩, _⟩ := h
    exact absurd ht.h (by omega)
  | N + 1, hN => by
    have c__law_walked := cal_walked F BU N (by omega)
    refine cal_fn F sc__law_walked (fun ds d h => by obtain ⟨a, b, rfl, _⟩ := h; rfl) fun cdv A outer s f H vs ds d hr hR S0 => ?_
    obtain ⟨t, p, rfl, ht, hp, rfl⟩ := hR
    refine ⟨_, (pss_cons (ps_if (pt_cmpR op_eq (pe_ix ix_tup (pv 0) pe_int (fun _ _ => rfl)) pe_str (nomark _)) (pss_one (ps_ret (pe_lst (pa_cons (pe_tup (pa_cons (pe_op op_add_str (pv 1) (pe_ix ix_tup (pv 0) pe_int (fun _ _ => rfl))) (pa_cons pe_int pa_nil))) pa_nil)))) pss_nil) (pss_cons (ps_set (i := 2) sc__law_walked.nd rfl (Or.inl rfl) (pe_lst (pa_cons (pe_tup (pa_cons (pe_op op_add_str (pv 1) (pe_ix ix_tup (pv 0) pe_int (fun _ _ => rfl))) (pa_cons (pe_callB call_len_seq (by rfl) BU.len_ PySem.boot_len (pa_cons (pe_ix ix_tup (pv 0) pe_int (fun _ _ => rfl)) pa_nil)) pa_nil))) pa_nil))) (pss_cons (ps_for PassesOwn.never rfl (pi_tup (pe_ix ix_tup (pv 0) pe_int (fun _ _ => rfl))) (pg_name (i := 3) sc__law_walked.nd rfl (Or.inl rfl)) (pss_one (ps_set (i := 2) sc__law_walked.nd rfl (Or.inl rfl) (pe_op op_cat (pv 2) (pe_c c__law_walked hr (by omega) (by rfl) (pa_cons (pe_ix ix_tup (pv 3) pe_int (fun _ _ => rfl)) (pa_cons (pe_op op_add_str (pe_op op_add_str (pv 1) (pe_ix ix_tup (pv 0) pe_int (fun _ _ => rfl))) (pe_ix ix_tup (pv 3) pe_int (fun _ _ => rfl))) pa_nil))))))) (pss_one (ps_ret (pv 2)))))), fun nx Q kn kr => ?_⟩
    try dsimp only [cxOf]
    generalize start _ vs = σ at *
    have ltx := ht.text
    cases t with
    | leaf r n =>
      have lr : r.length < N + 1 := ltx
      have hp' : p.length + r.length ≤ 1000 := hp
      refine q_ifT (by walk_at "etq") fun H1 e1 => ?_
      have S1 := S0.mono e1
      exact s_ret (d := .lst [rowD (p ++ r, 0)]) (ev_lst (ea_cons (ds := []) (d := rowD (p ++ r, 0)) (by walk_at "evq") ea_nil) (by show 1 ≤ 100000; decide)) fun v H2 e2 hv => kr v H2 (e1.trans e2) hv
    | fork s0 b =>
      have lr : s0.length < N + 1 := ltx
      have hb := ht.len
      have hcnt : (b.names s0).length ≤ 1000 := ht.cnt
      have hh : (T.fork s0 b).h + 1 < N + 1 := ht.h
      have hp' : p.length + (s0.length + b.h) ≤ 1000 := hp
      have hk : (b.knots s0).length + b.list.length ≤ 2 * (b.names s0).length := B.kcnt s0 b ht.ok.2
      refine q_ifF0 (EvT.to (by walk_at "ev") (by exact decide_eq_false fork_leaf)) fun H1 e1 => ?_
      have S1 : Sl K H1 [some (.tup [.str tFork, .str s0, .tup (b.list.map brD)]), some (.str p), none, none] σ := by rw [← B.d_list]; exact S0.mono e1
      refine q_asg S1 (d := .lst [rowD (p ++ s0, (b.list.length : Int))]) (ev_lst (ea_cons (ds := []) (d := rowD (p ++ s0, (b.list.length : Int))) (Ev.to (by walk_at "ev") (by rw [List.length_map]; rfl)) ea_nil) (by show 1 ≤ 100000; decide)) fun σ2 H2 e2 S2 => ?_
      refine q_forT (l := b.list) (enc := brD) (by walk_at "ev") (fun i ds => ∃ z, ds = [some (.tup [.str tFork, .str s0, .tup (b.list.map brD)]), some (.str p), some (.lst ((((s0, (b.list.length : Int)) :: knotsL s0 (b.list.take i)).map fun q => (p ++ q.1, q.2)).map rowD)), z]) S2 ⟨none, by rw [List.take_zero]; rfl⟩ ?_ ?_
      · rintro i q hq ds σ3 H3 Nx ⟨z, rfl⟩ e3 S3 kN
        have qm := List.mem_of_getElem? hq
        have qml : (q.1, q.2) ∈ b.list := qm
        have hok := B.ok_sub ht.ok.2 qml
        have h1 : q.2.h < (T.fork s0 b).h := T.h_sub (s := s0) (b := b) (c := q.1) (t := q.2) ht.ok qml
        have hc1 : q.2.names.length ≤ (b.names s0).length := B.cnt_mem qml
        have hk1 := T.kcnt q.2 hok.2.1
        have tbp : Tb N (some q.2) := ⟨hok.2.1, by show q.2.h + 1 < N; omega, by show q.2.names.length ≤ 1000; omega⟩
        have lc := hok.1
        have lh : s0.length + b.h + 1 < N + 1 := hh
        have hqh := B.h_mem qml
        have S3' : Sl K H3 [some (.tup [.str tFork, .str s0, .tup (b.list.map brD)]), some (.str p), some (.lst ((((s0, (b.list.length : Int)) :: knotsL s0 (b.list.take i)).map fun q => (p ++ q.1, q.2)).map rowD)), some (.tup [.str q.1, q.2.d])] σ3 := S3
        have et : b.list.take (i + 1) = b.list.take i ++ [q] := by rw [List.take_add_one, hq]; rfl
        have hlen : (knotsL s0 (b.list.take i)).length + q.2.knots.length ≤ (b.knots s0).length := by
          have e8 : knotsL s0 b.list = knotsL s0 (b.list.take (i + 1)) ++ knotsL s0 (b.list.drop (i + 1)) := by rw [← knotsL_app, List.take_append_drop]
          rw [B.knots_flat, e8, et, knotsL_app, List.length_append, List.length_append]
          have : (knotsL s0 [q]).length = q.2.knots.length := by simp [knotsL]
          omega
        have lps : (p ++ s0).length ≤ 1000 := by rw [List.length_append]; omega
        refine s_asg S3' (d := .lst ((((s0, (b.list.length : Int)) :: knotsL s0 (b.list.take (i + 1))).map fun q => (p ++ q.1, q.2)).map rowD)) (EvN.to (en_cat (es := (q.2.knots.map fun r => (p ++ s0 ++ q.1 ++ r.1, r.2)).map rowD) (by walk_at "ev") (ev_call (ds := [q.2.d, .str (p ++ s0 ++ q.1)]) (ea_cons (by walk_at "ev") (ea_cons (by walk_at "ev") ea_nil)) ⟨q.2, p ++ s0 ++ q.1, rfl, tbp, by rw [List.length_append, List.length_append]; omega, rfl⟩) ?_) ?_).ev fun σ4 H4 e4 S4 => kN _ _ _ ⟨some (brD q), rfl⟩ e4 S4
        · simp only [List.length_map, List.length_cons]; omega
        · rw [et, knotsL_app, ← List.map_append]
          congr 1
          simp [knotsL]
      · rintro ds σ3 H3 ⟨z, rfl⟩ e3 S3
        rw [List.take_of_length_le (Nat.le_refl _), ← B.knots_flat] at S3
        exact s_ret (d := .lst ((((s0, (b.list.length : Int)) :: b.knots s0).map fun q => (p ++ q.1, q.2)).map rowD)) (by walk_at "ev") fun v H4 e4 hv => kr v H4 (((e1.trans e2).trans e3).trans e4) hv
end
end Rt

namespace Rt
open PySem PySem.Spec PyProof.Rows L2
section
variable {P : Program} {w : World} {K : PySem.W.Frag} {mg : Str → Option Value} {base : Heap}
def Rlknots : List D → List D → Prop := fun ds es => ∃ rows : Rows, ds = [.lst (rows.map rowD)] ∧ (∀ p ∈ rows, okT p.1 ∧ p.1.length ≤ 40) ∧ rows.length ≤ 200 ∧ es = (procK (cntS rows) [] (rows.map (·.1))).map rowD
theorem stK_len (c : Tx → Nat) (due : Rows) (p : Tx) : (stK c due p).length ≤ due.length + 1 := by
  unfold stK; split <;> simp
theorem preK_len (c : Tx → Nat) (due : Rows) (x : Tx) : ∀ n, (preK c due x n).length ≤ due.length + n
  | 0 => Nat.le_refl _
  | n + 1 => by
    rw [preK_succ]
    have h1 := stK_len c (preK c due x n) (x.take n)
    have h2 := preK_len c due x n
    omega
theorem preK_ok {c : Tx → Nat} {due : Rows} {x : Tx} (hx : okT x) (hd : ∀ p ∈ due, okT p.1) : ∀ n, ∀ p ∈ preK c due x n, okT p.1
  | 0, p, hp => hd p hp
  | n + 1, p, hp => by
    rw [preK_succ] at hp
    unfold stK at hp
    split at hp
    · rcases List.mem_append.mp hp with q | q
      · exact preK_ok hx hd n p q
      · rw [List.mem_singleton.mp q]; exact okT_take _ hx
    · exact preK_ok hx hd n p hp
theorem procK_snoc (c : Tx → Nat) (due : Rows) (l : List Tx) (x : Tx) : procK c due (l ++ [x]) = preK c (procK c due l) x (x.length + 1) ++ [(x, 0)] := by
  rw [procK_app]; rfl
theorem procK_inv {c : Tx → Nat} : ∀ (l : List Tx) (due : Rows), (∀ x ∈ l, okT x ∧ x.length ≤ 40) → (∀ p ∈ due, okT p.1) → (∀ p ∈ procK c due l, okT p.1) ∧ (procK c due l).length ≤ due.length + 42 * l.length
  | [], due, _, h => ⟨h, Nat.le_refl _⟩
  | x :: l, due, h, hd => by
    obtain ⟨k1, k2⟩ := h x List.mem_cons_self
    have h0 : ∀ p ∈ rowP c due x, okT p.1 := fun p hp => by
      rcases List.mem_append.mp hp with q | q
      · exact preK_ok k1 hd _ p q
      · rw [List.mem_singleton.mp q]; exact k1
    have h3 : (rowP c due x).length ≤ due.length + 42 := by
      have := preK_len c due x (x.length + 1)
      unfold rowP
      rw [List.length_append]
      show _ + 1 ≤ _
      omega
    obtain ⟨h1, h2⟩ := procK_inv l (rowP c due x) (fun y hy => h y (List.mem_cons_of_mem _ hy)) h0
    refine ⟨h1, ?_⟩
    show (procK c (rowP c due x) l).length ≤ _
    rw [List.length_cons]
    omega
theorem cal_law_knots (F : Dfn K mg "_law_knots" s__law_knots ["_law_rows"]) (BU : Bl mg) : Cal P w K mg base CX0 1 "_law_knots" (FnN K Rlknots) := by
  refine cal_fnN F sc__law_knots (fun ds d h => by obtain ⟨a, rfl, _⟩ := h; rfl) fun cdv A outer s f H vs ds es hr hR S0 => ?_
  obtain ⟨rows, rfl, hok, hcnt, rfl⟩ := hR
  refine ⟨_, (pss_cons (ps_set (i := 1) sc__law_knots.nd rfl (Or.inl rfl) (pe_lst pa_nil)) (pss_cons (ps_for PassesOwn.never rfl (pi_list (pv 0)) (pg_name (i := 2) sc__law_knots.nd rfl (Or.inl rfl)) (pss_cons (ps_for PassesOwn.never rfl (pi_range1 (by rfl) BU.range_ (pa_cons (pe_op op_add (pe_callB call_len_str (by rfl) BU.len_ PySem.boot_len (pa_cons (pe_ix ix_tup (pv 2) pe_int (fun _ _ => rfl)) pa_nil)) pe_int) pa_nil)) (pg_name (i := 3) sc__law_knots.nd rfl (Or.inr rfl)) (pss_cons (ps_set (i := 4) sc__law_knots.nd rfl (Or.inr rfl) (pe_slice sl_str (pe_ix ix_tup (pv 2) pe_int (fun _ _ => rfl)) po_none (po_some (pv 3)))) (pss_cons (ps_setLc (i := 5) (own := [("_law_other", 6)]) (g := gName 6) (by rfl) sc__law_knots.nd rfl rfl (sw_true rfl rfl rfl (by decide +kernel)) (pi_list (pv 0)) (blkOk_by (own := [("_law_other", 6)]) (N := N__law_knots) (sc := defScope s__law_knots) (by decide +kernel)) (fun _ _ _ _ _ => pg_name (i := 6) sc__law_knots.nd rfl (Or.inl rfl)) (fun _ _ _ _ _ => (pts_one (pt_cmpR op_eq (pe_slice sl_str (pe_ix (r := rIxT K) ix_tup (pv 6) pe_int (fun _ _ => rfl)) po_none (po_some (pv 3))) (pv 4) (nomark _)))) (fun _ _ _ _ _ => (pe_slice sl_str (pe_ix (r := rIxT K) ix_tup (pv 6) pe_int (fun _ _ => rfl)) (po_some (pv 3)) (po_some (pe_op op_add (pv 3) pe_int))))) (pss_one (ps_if (PW.pt (pw_and (pt_cmpR op_gt (pe_lenSetT rfl (by rfl) BU.len_ (by rfl) BU.set_ (pv 5)) pe_int (nomark _)) (pw_and1 (pt_cmpR (op_notInD (units65 hr)) (pe_tup (pa_cons (pv 4) (pa_cons (pe_lenSetT rfl (by rfl) BU.len_ (by rfl) BU.set_ (pv 5)) pa_nil))) (pv 1) rfl)))) (pss_one (ps_expr (pe_bm PySem.F.plainAttrs_list PySem.F.slot_list_append PySem.F.type_list_append mt_append (pv 1) (pa_cons (pe_tup (pa_cons (pv 4) (pa_cons (pe_lenSetT rfl (by rfl) BU.len_ (by rfl) BU.set_ (pv 5)) pa_nil))) pa_nil)))) pss_nil))))) (pss_one (ps_expr (pe_bm PySem.F.plainAttrs_list PySem.F.slot_list_append PySem.F.type_list_append mt_append (pv 1) (pa_cons (pe_tup (pa_cons (pe_ix ix_tup (pv 2) pe_int (fun _ _ => rfl)) (pa_cons pe_int pa_nil))) pa_nil)))))) (pss_one (ps_ret (pv 1))))), fun nx Q kr => ?_⟩
  try dsimp only [cxOf]
  generalize start _ vs = σ at *
  obtain ⟨a, rvs, ha, hda, S0r⟩ := S0.raw (i := 0) rfl
  refine q_asgN S0r (es := []) (by walk_at "en") fun l ls σ1 H1 l0 e1 hl hdl S1 => ?_
  have ne : a ≠ l := ne_of_none ha l0
  have ha1 := e1 _ _ ha
  have hda1 := Dts.mono e1 _ hda
  have inv : ∀ i, (∀ p ∈ procK (cntS rows) [] ((rows.take i).map (·.1)), okT p.1) ∧ (procK (cntS rows) [] ((rows.take i).map (·.1))).length ≤ 42 * 200 := fun i => by
    obtain ⟨k1, k2⟩ := procK_inv (c := cntS rows) ((rows.take i).map (·.1)) [] (fun x hx => by
      obtain ⟨p, hp, rfl⟩ := List.mem_map.mp hx
      exact hok p (List.mem_of_mem_take hp)) (fun p hp => by cases hp)
    rw [List.length_map, List.length_take, List.length_nil] at k2
    exact ⟨k1, by omega⟩
  refine q_forLB (xs := rows) (enc := rowD) (ev_rawL (ev_var S1 (by rfl)) ha1 hda1 ne) (fun p _ => rowD_imm p) (fun i ds es => ∃ z2 z3 z4 z5, ds = [some (.raw (.ref a)), some (.raw (.ref l)), z2, z3, z4, z5, none] ∧ (∀ d, z5 = some d → d.imm = true) ∧ (∀ d, z4 = some d → d.imm = true) ∧ es = (procK (cntS rows) [] ((rows.take i).map (·.1))).map rowD) S1 ⟨none, none, none, none, rfl, fun _ h => (by cases h), fun _ h => (by cases h), rfl⟩ hl hdl ?_ ?_
  · rintro i p hp ds es vs2 σ2 H2 Nx ⟨z2, z3, z4, z5, rfl, i5, i4, rfl⟩ sm2 S2 hl2 hd2 kN
    have pm := List.mem_of_getElem? hp
    obtain ⟨pok, plen⟩ := hok p pm
    have ha2 := sm2 _ _ ne ha1
    have hda2 := Dts.sm sm2 hl _ (D.imms_map fun p _ => rowD_imm p) hda1
    obtain ⟨dok, dlen⟩ := inv i
    generalize hdue : procK (cntS rows) [] ((rows.take i).map (·.1)) = due at *
    have S2' : Sl K H2 [some (.raw (.ref a)), some (.raw (.ref l)), some (.tup [.str p.1, .int p.2]), z3, z4, z5, none] σ2 := S2
    refine q_forRB (l := l) (n := (p.1.length : Int) + 1) (p.1.length + 1) (by walk_at "ev") (by omega) (by omega) (fun k ds es => ∃ z3 z4 z5, ds = [some (.raw (.ref a)), some (.raw (.ref l)), some (.tup [.str p.1, .int p.2]), z3, z4, z5, none] ∧ (∀ d, z5 = some d → d.imm = true) ∧ (∀ d, z4 = some d → d.imm = true) ∧ es = (preK (cntS rows) due p.1 k).map rowD) S2' ⟨z3, z4, z5, rfl, i5, i4, rfl⟩ hl2 hd2 ?_ ?_
    · rintro k hk ds es vs3 σ3 H3 N3 ⟨z3, z4, z5, rfl, i5, i4, rfl⟩ sm3 S3 hl3 hd3 kN3
      have ha3 := sm3 _ _ ne ha2
      have hda3 := Dts.sm sm3 hl2 _ (D.imms_map fun p _ => rowD_imm p) hda2
      have S3' : Sl K H3 [some (.raw (.ref a)), some (.raw (.ref l)), some (.tup [.str p.1, .int p.2]), some (.int (k : Int)), z4, z5, none] σ3 := S3
      have dk := preK_ok (c := cntS rows) pok dok k
      have dkl := preK_len (cntS rows) due p.1 k
      generalize hpk : preK (cntS rows) due p.1 k = dueK at *
      refine q_asg S3' (d := .str (p.1.take k)) (Ev.to (by walk_at "ev") (by rw [cutL_to])) fun σ4 H4 e4 S4 => ?_
      have ha4 := e4 _ _ ha3
      have hda4 := Dts.mono e4 _ hda3
      have hl4 := e4 _ _ hl3
      have hd4 := Dts.mono e4 _ hd3
      have ltk : (p.1.take k).length = k := by rw [List.length_take]; omega
      refine q_asgNs (i := 5) (es := ((belowR rows (p.1.take k)).map fun q => (q.1.drop k).take 1).map D.str) (EvN.to (en_lcL (enc := rowD) (es := rows) (fun q => decide (q.1.take k = p.1.take k)) (fun q => .str ((q.1.drop k).take 1)) (ev_own (ev_var S4 (by rfl)) ha4 hda4) S4 (by omega)
        (fun q hq σ' H' e S' => EvT.to (by have := (hok q hq).2; walk_at "ev") (by rw [cutL_to])) (fun q hq c σ' H' e S' => Ev.to (by have := (hok q hq).2; walk_at "ev") (by rw [cutL_one])) (fun q _ _ => rfl)) ?_) fun l2 v2 H5 l20 e5 hl5 hd5 => ?_
      · unfold belowR; rw [ltk, List.map_map]; rfl
      have S5 := (S4.mono e5).set 5 (d := .raw (.ref l2)) (v := .ref l2) rfl
      have hll5 := e5 _ _ hl4
      have hdd5 := Dts.mono e5 _ hd4
      have lbelow := belowR_len rows (p.1.take k)
      have ecnt : (dedF [] ((belowR rows (p.1.take k)).map fun q => (q.1.drop k).take 1)).length = cntS rows (p.1.take k) := by unfold cntS; rw [ltk]
      have hset : ∀ H', Same H5 H' → Ev K (tLenSetT K (tVar 5)) (σ4.set 5 (some (.ref l2))) H' (.int (cntS rows (p.1.take k) : Int)) := fun H' e => Ev.to (ev_lenSet (ys := (belowR rows (p.1.take k)).map fun q => (q.1.drop k).take 1) (ev_own (ev_var (S5.mono e) (by rfl)) (e _ _ hl5) (Dts.mono e _ hd5)) (by rw [List.length_map]; omega)) (by rw [ecnt])
      have htup : ∀ H', Same H5 H' → Ev K (tTup (tCons (tVar 4) (tCons (tLenSetT K (tVar 5)) tNil))) (σ4.set 5 (some (.ref l2))) H' (rowD (p.1.take k, (cntS rows (p.1.take k) : Int))) := fun H' e => ev_tup (ea_cons (ev_var (S5.mono e) (by rfl)) (ea_cons (hset H' e) ea_nil)) (by show 2 ≤ 100000; decide)
      refine s_if (b := decide ((1 : Int) < (cntS rows (p.1.take k) : Int)) && !decide ((p.1.take k, (cntS rows (p.1.take k) : Int)) ∈ dueK)) (et_and (et_test (ev_gt (hset H5 (Same.refl _)) ev_int)) fun _ => et_test (ev_notInR (htup H5 (Same.refl _)) (ev_own (ev_var S5 (by rfl)) hll5 hdd5) (okT_take _ pok) dk)) (fun c H6 e6 => ?_) (fun c H6 e6 => ?_)
      · rw [Bool.and_eq_true, decide_eq_true_eq] at c
        have c2 : (p.1.take k, (cntS rows (p.1.take k) : Int)) ∉ dueK := fun z => by have := c.2; rw [decide_eq_true z] at this; cases this
        refine s_app (e6 _ _ hll5) (Dts.mono e6 _ hdd5) (D.imms_map fun p _ => rowD_imm p) (ev_var (S5.mono e6) (by rfl)) (htup H6 e6) (rowD_imm _) (by rw [List.length_map]; omega) fun ws H7 c7 hl7 hd7 => kN3 _ _ _ _ _ ⟨some (.int (k : Int)), some (.str (p.1.take k)), some (.raw (.ref l2)), rfl, fun d h => (by cases h; rfl), fun d h => (by cases h; rfl), ?_⟩ ((Same.sm l ((e4.trans e5).trans e6)).trans c7.sm) (c7.sl (immS_of (by rfl)) (S5.mono e6)) hl7 hd7
        rw [preK_succ, hpk]
        unfold stK
        rw [if_pos ⟨by omega, c2⟩, List.map_append]; rfl
      · refine kN3 _ _ _ _ _ ⟨some (.int (k : Int)), some (.str (p.1.take k)), some (.raw (.ref l2)), rfl, fun d h => (by cases h; rfl), fun d h => (by cases h; rfl), ?_⟩ (Same.sm l ((e4.trans e5).trans e6)) (S5.mono e6) (e6 _ _ hll5) (Dts.mono e6 _ hdd5)
        rw [preK_succ, hpk]
        unfold stK
        rw [if_neg fun z => ?_]
        have : (decide ((1 : Int) < (cntS rows (p.1.take k) : Int)) && !decide ((p.1.take k, (cntS rows (p.1.take k) : Int)) ∈ dueK)) = true := by
          rw [decide_eq_true (by omega), decide_eq_false z.2]; rfl
        rw [this] at c; cases c
    · rintro ds es vs3 σ3 H3 ⟨z3, z4, z5, rfl, i5, i4, rfl⟩ sm3 S3 hl3 hd3
      have dk := preK_ok (c := cntS rows) pok dok (p.1.length + 1)
      have dkl := preK_len (cntS rows) due p.1 (p.1.length + 1)
      have i3 : ∀ d, some d ∈ [some (D.raw (.ref a)), some (.raw (.ref l)), some (.tup [.str p.1, .int p.2]), (none : Option D), z4, z5, none] → d.imm = true := fun d hd => by
        simp only [List.mem_cons, List.not_mem_nil, or_false, Option.some.injEq] at hd
        rcases hd with rfl | rfl | rfl | h | h | h | h
        · rfl
        · rfl
        · rfl
        · cases h
        · exact i4 d h.symm
        · exact i5 d h.symm
        · cases h
      have S3f : Sl K H3 [some (.raw (.ref a)), some (.raw (.ref l)), some (.tup [.str p.1, .int p.2]), none, z4, z5, none] σ3 := S3.fit (by cases z4 <;> cases z5 <;> (cases z3 <;> simp [Fits]))
      refine s_app hl3 hd3 (D.imms_map fun p _ => rowD_imm p) (by walk_at "ev") (d := rowD (p.1, 0)) (by walk_at "evq") (rowD_imm _) (by rw [List.length_map]; omega) fun ws H4 c4 hl4 hd4 => kN _ _ _ _ _ ⟨some (.tup [.str p.1, .int p.2]), none, z4, z5, rfl, i5, i4, ?_⟩ (sm3.trans c4.sm) (c4.sl i3 S3f) hl4 hd4
      have et : (rows.take (i + 1)).map (·.1) = (rows.take i).map (·.1) ++ [p.1] := by rw [List.take_add_one, hp, List.map_append]; rfl
      rw [et, procK_snoc, hdue, List.map_append]; rfl
  · rintro ds es vs2 σ2 H2 ⟨z2, z3, z4, z5, rfl, i5, i4, rfl⟩ sm2 S2 hl2 hd2
    rw [List.take_of_length_le (Nat.le_refl _)] at hd2
    have e12 := sm2.same0 l0 e1
    exact s_ret (d := .raw (.ref l)) (by walk_at "ev") fun v H3 e3 hv => by
      rw [show v = .ref l from hv]
      exact kr l vs2 H3 l0 (e12.trans e3) (e3 _ _ hl2) (Dts.mono e3 _ hd2)
end
end Rt

namespace Rt
open PySem PySem.Spec PyProof.Rows L2
section
variable {P : Program} {w : World} {K : PySem.W.Frag} {mg : Str → Option Value} {base : Heap}
theorem ok_law {f : Addr} {fd : FuncData} (F : L2.Fun K "law" "law" s_law f fd) (BU : Bl mg) (c__law_cell_at : Cal P w K mg base CX0 1 "_law_cell_at" (Fn K Rcell)) (c__law_rows_by : Cal P w K mg base CX0 3 "_law_rows_by" (Fn K Rrows)) (c__law_count_by : Cal P w K mg base CX0 1 "_law_count_by" (Fn K Rcount))
    (c__law_tree : ∀ N, N ≤ 300 → Cal P w K mg base CX0 (N + 1) "_law_tree" (Fn K (Rtree N))) (c__law_alike : ∀ N, N ≤ 290 → Cal P w K mg base CX0 (N + 1) "_law_alike" (Fn K (Ralike N))) (c_names : ∀ N, N ≤ 900 → Cal P w K mg base CX0 (N + 1) "names" (FnN K (Rnames N))) (c_knots : ∀ N, N ≤ 900 → Cal P w K mg base CX0 (N + 1) "knots" (FnN K (Rknots N)))
    (c__law_walked : ∀ N, N ≤ 900 → Cal P w K mg base CX0 (N + 1) "_law_walked" (Fn K (Rwalked N))) (c__law_knots : Cal P w K mg base CX0 1 "_law_knots" (FnN K Rlknots)) : FnOk P w K mg base CX0 131 f fd ["_law_script"] (Fn K Rlaw) := by
  have c__law_tree := c__law_tree 42 (by decide)
  have c__law_alike := c__law_alike 129 (by decide)
  have c_names := c_names 42 (by decide)
  have c_knots := c_knots 42 (by decide)
  have c__law_walked := c__law_walked 42 (by decide)
  refine ok_fn F sc_law (fun ds d h => by obtain ⟨a, rfl, _⟩ := h; rfl) fun cdv A outer s f H vs ds d hr hR S0 => ?_
  obtain ⟨ns, rfl, hns, rfl⟩ := hR
  refine ⟨_, (pss_cons (ps_set (i := 1) sc_law.nd rfl (Or.inl rfl) (pe_c c__law_rows_by hr (by omega) (by rfl) (pa_cons (pv 0) (pa_cons pe_int (pa_cons (pe_c c__law_count_by hr (by omega) (by rfl) (pa_cons (pe_c c__law_cell_at hr (by omega) (by rfl) (pa_cons (pv 0) (pa_cons pe_int pa_nil))) pa_nil)) pa_nil))))) (pss_cons (ps_set (i := 2) sc_law.nd rfl (Or.inl rfl) (pe_c c__law_tree hr (by omega) (by rfl) (pa_cons (pv 1) pa_nil))) (pss_cons (ps_set (i := 3) sc_law.nd rfl (Or.inl rfl) (pe_c c_names hr (by omega) (by rfl) (pa_cons (pv 2) pa_nil))) (pss_cons (ps_set (i := 4) sc_law.nd rfl (Or.inl rfl) (pe_c c_knots hr (by omega) (by rfl) (pa_cons (pv 2) pa_nil))) (pss_cons (ps_expr (pe_bm PySem.F.plainAttrs_list PySem.F.slot_list_append PySem.F.type_list_append mt_append (pv 3) (pa_cons (pe_tup (pa_cons pe_str (pa_cons pe_int pa_nil))) pa_nil))) (pss_cons (ps_expr (pe_bm PySem.F.plainAttrs_list PySem.F.slot_list_append PySem.F.type_list_append mt_append (pv 4) (pa_cons (pe_tup (pa_cons pe_str (pa_cons pe_int pa_nil))) pa_nil))) (pss_cons (ps_set (i := 5) sc_law.nd rfl (Or.inl rfl) (pe_lst (pa_cons (pv 3) (pa_cons (pv 4) pa_nil)))) (pss_cons (ps_set (i := 4) sc_law.nd rfl (Or.inl rfl) (pe_c c_knots hr (by omega) (by rfl) (pa_cons (pv 2) pa_nil))) (pss_cons (ps_if (PW.pt (pw_or (pt_cmpR op_ne (pe_op op_add (pe_callB call_len_seq (by rfl) BU.len_ PySem.boot_len (pa_cons (pe_c c_names hr (by omega) (by rfl) (pa_cons (pv 2) pa_nil)) pa_nil)) pe_int) (pe_callB call_len_seq (by rfl) BU.len_ PySem.boot_len (pa_cons (pe_ix ix_list (pv 5) pe_int (fun _ _ => rfl)) pa_nil)) (nomark _)) (pw_or (pt_cmpR op_ne (pe_op op_add (pe_callB call_len_seq (by rfl) BU.len_ PySem.boot_len (pa_cons (pv 4) pa_nil)) pe_int) (pe_callB call_len_seq (by rfl) BU.len_ PySem.boot_len (pa_cons (pe_ix ix_list (pv 5) pe_int (fun _ _ => rfl)) pa_nil)) (nomark _)) (pw_or1 (pt_cmpR (op_neD hr.units) (pe_slice sl_list (pe_ix ix_list (pv 5) pe_int (fun _ _ => rfl)) po_none (po_some (pe_un un_neg pe_int))) (pv 4) (nomark _)))))) (pss_one (ps_ret pe_bl)) pss_nil) (pss_cons (ps_if (pt_not (pt_val (pe_c c__law_alike hr (by omega) (by rfl) (pa_cons (pe_c c_names hr (by omega) (by rfl) (pa_cons (pv 2) pa_nil)) (pa_cons (pv 1) pa_nil))))) (pss_one (ps_ret pe_bl)) pss_nil) (pss_cons (ps_if (PW.pt (pw_and (pt_cmpR op_gt (pe_callB call_len_seq (by rfl) BU.len_ PySem.boot_len (pa_cons (pv 1) pa_nil)) pe_int (nomark _)) (pw_and1 (pt_not (pt_val (pe_c c__law_alike hr (by omega) (by rfl) (pa_cons (pv 4) (pa_cons (pe_c c__law_walked hr (by omega) (by rfl) (pa_cons (pv 2) (pa_cons pe_str pa_nil))) pa_nil)))))))) (pss_one (ps_ret pe_bl)) pss_nil) (pss_cons (ps_if (PW.pt (pw_and (pt_cmpR op_le (pe_callB call_len_seq (by rfl) BU.len_ PySem.boot_len (pa_cons (pv 1) pa_nil)) pe_int (nomark _)) (pw_and1 (pt_not (pt_val (pe_c c__law_alike hr (by omega) (by rfl) (pa_cons (pv 4) (pa_cons (pe_c c__law_knots hr (by omega) (by rfl) (pa_cons (pv 1) pa_nil)) pa_nil)))))))) (pss_one (ps_ret pe_bl)) pss_nil) (pss_cons (ps_for PassesOwn.never rfl (pi_list (pv 4)) (pg_name (i := 6) sc_law.nd rfl (Or.inl rfl)) (pss_one (ps_if (pt_cmpR op_eq (pe_ix ix_tup (pv 6) pe_int (fun _ _ => rfl)) pe_int (nomark _)) (pss_one (ps_ret pe_bl)) pss_nil))) (pss_one (ps_ret pe_bl))))))))))))))), fun nx Q kn kr => ?_⟩
  try dsimp only [cxOf]
  generalize start _ vs = σ at *
  have hc := countL_b (ns.getD (Int.toNat 0) 0)
  refine q_asg S0 (by walk_at "ev") fun σ1 H1 e1 S1 => ?_
  have g := rowsL_good ns 1 (countL (ns.getD (Int.toNat 0) 0)) hc.2
  generalize rowsL ns 1 (countL (ns.getD (Int.toNat 0) 0)) = rows at *
  obtain ⟨t, rep, tb, al⟩ := g.tree
  have hcnt := g.cnt
  refine q_asg S1 (d := OT.d t) (ev_call (by walk_at "ev") ⟨rows, t, rfl, rep, tb, g.ok, rfl⟩) fun σ2 H2 e2 S2 => ?_
  have kok : ∀ p ∈ OT.knots t, okT p.1 := OT.knots_ok rep.1 (by rw [rep.2]; exact g.ok)
  have kcn : (OT.knots t).length ≤ 300 := by
    have := OT.kcnt rep.1
    rw [rep.2] at this; omega
  have alK : D.al 3 (.lst ((OT.knots t).map rowD)) := rows_al kok (by omega)
  have gdK := rows_gd kok
  have callN : ∀ σ' H' te, Ev K te σ' H' (OT.d t) → EvN K (tCall (FnN K (Rnames 42)) [] E0 (tCons te tNil)) σ' H' (rows.map rowD) := fun σ' H' te h => en_call (ds := [OT.d t]) (ea_cons h ea_nil) ⟨t, rfl, tb, by rw [rep.2]⟩
  have callK : ∀ σ' H' te, Ev K te σ' H' (OT.d t) → EvN K (tCall (FnN K (Rknots 42)) [] E0 (tCons te tNil)) σ' H' ((OT.knots t).map rowD) := fun σ' H' te h => en_call (ds := [OT.d t]) (ea_cons h ea_nil) ⟨t, rfl, tb, rfl⟩
  refine q_asgNs (i := 3) (callN _ _ _ (by walk_at "ev")) fun l1 v1 H3 l10 e3 hl1 hd1 => ?_
  have S3 := (S2.mono e3).set 3 (d := .raw (.ref l1)) (v := .ref l1) rfl
  refine q_asgNs (i := 4) (callK _ _ _ (ev_var S3 (by rfl))) fun l2 v2 H4 l20 e4 hl2 hd2 => ?_
  have ne : l2 ≠ l1 := fun z => by rw [z, hl1] at l20; cases l20
  have l202 : H2 l2 = none := e3.free l20
  have S4 := (S3.mono e4).set 4 (d := .raw (.ref l2)) (v := .ref l2) rfl
  refine q_app (l := l1) (e4 _ _ hl1) (Dts.mono e4 _ hd1) (D.imms_map fun p _ => rowD_imm p) (ev_var S4 (by rfl)) (d := rowD ([], 0)) (by walk_at "evq") (rowD_imm _) (by rw [List.length_map]; omega) fun ws1 H5 c5 hl5 hd5 => ?_
  have e25 := c5.same0 l10 (e3.trans e4)
  have hl25 := c5.keep ne hl2
  have hd25 := Dts.sm c5.sm (e4 _ _ hl1) _ (D.imms_map fun p _ => rowD_imm p) hd2
  have S5 := ((S2.mono e25).set 3 (d := .raw (.ref l1)) (v := .ref l1) rfl).set 4 (d := .raw (.ref l2)) (v := .ref l2) rfl
  refine q_app (l := l2) hl25 hd25 (D.imms_map fun p _ => rowD_imm p) (ev_var S5 (by rfl)) (d := rowD ([], 0)) (by walk_at "evq") (rowD_imm _) (by rw [List.length_map]; omega) fun ws2 H6 c6 hl6 hd6 => ?_
  have e26 := c6.same0 l202 e25
  have hl16 := c6.keep (Ne.symm ne) hl5
  have hd16 := Dts.sm c6.sm hl25 _ (D.imms_app (D.imms_map fun p _ => rowD_imm p) (by rfl)) hd5
  have S6 := ((S2.mono e26).set 3 (d := .raw (.ref l1)) (v := .ref l1) rfl).set 4 (d := .raw (.ref l2)) (v := .ref l2) rfl
  have e16 := (e1.trans e2).trans e26
  refine q_asg S6 (d := .lst [.lst (rows.map rowD ++ [rowD ([], 0)]), .lst ((OT.knots t).map rowD ++ [rowD ([], 0)])]) (ev_lst (ea_cons (ev_own (ev_var S6 (by rfl)) hl16 hd16) (ea_cons (ev_own (ev_var S6 (by rfl)) hl6 hd6) ea_nil)) (by show 2 ≤ 100000; decide)) fun σ7 H7 e7 S7 => ?_
  refine q_asg S7 (d := .lst ((OT.knots t).map rowD)) (callK _ _ _ (ev_var S7 (by rfl))).ev fun σ8 H8 e8 S8 => ?_
  have S8' : Sl K H8 [some (.scr ns), some (.lst (rows.map rowD)), some (OT.d t), none, some (.lst ((OT.knots t).map rowD)), some (.lst [.lst (rows.map rowD ++ [rowD ([], 0)]), .lst ((OT.knots t).map rowD ++ [rowD ([], 0)])]), none] σ8 := S8.fit (by exact ⟨rfl, rfl, rfl, rfl, rfl, trivial⟩)
  have e18 := (e16.trans e7).trans e8
  have h0 : ∀ σ' H', Sl K H' [some (.scr ns), some (.lst (rows.map rowD)), some (OT.d t), none, some (.lst ((OT.knots t).map rowD)), some (.lst [.lst (rows.map rowD ++ [rowD ([], 0)]), .lst ((OT.knots t).map rowD ++ [rowD ([], 0)])]), none] σ' → Ev K (tOp (rIxL K) (tVar 5) (tC (.int 0))) σ' H' (.lst (rows.map rowD ++ [rowD ([], 0)])) := fun σ' H' S => ev_ixL (ev_var S (by rfl)) ev_int rfl
  have h1 : ∀ σ' H', Sl K H' [some (.scr ns), some (.lst (rows.map rowD)), some (OT.d t), none, some (.lst ((OT.knots t).map rowD)), some (.lst [.lst (rows.map rowD ++ [rowD ([], 0)]), .lst ((OT.knots t).map rowD ++ [rowD ([], 0)])]), none] σ' → Ev K (tOp (rIxL K) (tVar 5) (tC (.int 1))) σ' H' (.lst ((OT.knots t).map rowD ++ [rowD ([], 0)])) := fun σ' H' S => ev_ixL (ev_var S (by rfl)) ev_int rfl
  refine q_ifF0 (et_orF (EvT.to (et_test (ev_neI (ev_add (ev_lenL (callN _ _ _ (ev_var S8' (by rfl))).ev) ev_int) (ev_lenL (h0 _ _ S8')))) ?_) (et_orF (EvT.to (et_test (ev_neI (ev_add (ev_lenL (ev_var S8' (by rfl))) ev_int) (ev_lenL (h1 _ _ S8')))) ?_)
    (EvT.to (et_test (ev_neD (b := true) (d := .lst ((OT.knots t).map rowD)) (EvN.to (en_slL (h1 _ _ S8') eo_none (eo_some (ev_neg ev_int))) (cutD_init _ _)).ev (ev_var S8' (by rfl)) gdK gdK (by decide) (by decide) (SeqAt.eqv_refl _ (gd_lay 2 _ gdK).1))) rfl))) fun H9 e9 => ?_
  · rw [decide_eq_true]
    · rfl
    · rw [List.length_append]; rfl
  · rw [decide_eq_true]
    · rfl
    · rw [List.length_append]; rfl
  have S9 := S8'.mono e9
  refine q_ifF0 (EvT.to (et_not (et_B (ev_call (ea_cons (callN _ _ _ (ev_var S9 (by rfl))).ev (ea_cons (ev_var S9 (by rfl)) ea_nil)) (Ralike.of (rows_al g.ok (by omega)) (by decide))))) rfl) fun H10 e10 => ?_
  have S10 := S9.mono e10
  have e110 := (e18.trans e9).trans e10
  refine q_ifF0 (EvT.to (et_and (a := decide ((16 : Int) < ((rows.map rowD).length : Int))) (b := false) (by walk_at "ev") fun c => EvT.to (et_not (et_B (ev_call (d := .bl true) (ds := [.lst ((OT.knots t).map rowD), .lst ((OT.knots t).map rowD)]) (ea_cons (ev_var S10 (by rfl)) (ea_cons ?_ ea_nil)) (Ralike.of alK (by decide))))) rfl) (by rw [Bool.and_false])) fun H11 e11 => ?_
  · rw [decide_eq_true_eq, List.length_map] at c
    cases t with
    | none => rw [← rep.2] at c; exact absurd c (by simp [OT.names])
    | some t =>
      have hh : t.h + 1 < 42 := tb.h
      refine Ev.to (ev_call (ds := [t.d, .str []]) (ea_cons (ev_var S10 (by rfl)) (ea_cons (Ev.to ev_str rfl) ea_nil)) ⟨t, [], rfl, tb, by rw [List.length_nil]; omega, rfl⟩) ?_
      have e : (fun q : Tx × Int => (([] : Tx) ++ q.1, q.2)) = fun q => q := by funext q; simp
      rw [e, List.map_id']; rfl
  have S11 := S10.mono e11
  refine q_ifF0 (EvT.to (et_and (a := decide (((rows.map rowD).length : Int) ≤ 16)) (b := false) (by walk_at "ev") fun c => EvT.to (et_not (et_B (ev_call (d := .bl true) (ds := [.lst ((OT.knots t).map rowD), .lst ((OT.knots t).map rowD)]) (ea_cons (ev_var S11 (by rfl)) (ea_cons (EvN.to (en_call (ds := [.lst (rows.map rowD)]) (by walk_at "ev") ⟨rows, rfl, fun p hp => ⟨g.ok p hp, g.len p hp⟩, by omega, rfl⟩) (by rw [knots_law rep])).ev ea_nil)) (Ralike.of alK (by decide))))) rfl) (by rw [Bool.and_false])) fun H12 e12 => ?_
  have S12 := S11.mono e12
  have e112 := (e110.trans e11).trans e12
  refine q_forL (l := OT.knots t) (enc := rowD) (by walk_at "ev") (fun i ds => ∃ z, ds = [some (.scr ns), some (.lst (rows.map rowD)), some (OT.d t), none, some (.lst ((OT.knots t).map rowD)), some (.lst [.lst (rows.map rowD ++ [rowD ([], 0)]), .lst ((OT.knots t).map rowD ++ [rowD ([], 0)])]), z]) S12 ⟨none, rfl⟩ ?_ ?_
  · rintro i p hp ds σ13 H13 Nx ⟨z, rfl⟩ e13 S13 kN
    have hn := OT.knot_ne1 rep.1 p (List.mem_of_getElem? hp)
    refine s_ifF (EvT.to (by walk_at "ev") (by exact decide_eq_false hn)) fun H14 e14 => kN _ _ _ ⟨_, rfl⟩ e14 (S13.mono e14)
  · rintro ds σ13 H13 ⟨z, rfl⟩ e13 S13
    exact s_ret (K := K) ev_bl fun v H14 e14 hv => kr v H14 ((e112.trans e13).trans e14) hv
end
end Rt

namespace Rt
open PySem PySem.Spec PyProof.Rows L2
theorem dfn_mk {K : PySem.W.Frag} {h : Heap} {mg : Str → Option Value} {x : Str} {st : Stmt} {ps : List Str} {f : Addr} {oc : Value} {od an : Option Addr} {osl : Array (Option Value)} {kV doc pm cdv ct : Value} (X : K.In h) (G : h.Ns mainGlobals mg)
    (a : PySem.W.nsIn K mainGlobals x = some (some (.ref f))) (l : K.lookup f = some ⟨oc, od, .func (PySem.W.fnOf x x (defArgs st) (defBody st) (defScope st) .none kV doc pm an cdv ct), osl⟩) (c : PySem.W.codeIn K cdv x = true) (k : PySem.W.keepIn K (.ref f) = true)
    (hb : ∀ (kV doc pm : Value) (an : Option Addr) (cdv ct : Value) (us : List Value), us.length = ps.length → bindArgs (PySem.W.fnOf x x (defArgs st) (defBody st) (defScope st) .none kV doc pm an cdv ct) ⟨us, []⟩ = pure (ps.zip us)) : Dfn K mg x st ps :=
  ⟨f, _, fun_mk (st := st) l c k, PySem.W.mg_of X G a, (fun_mk (st := st) l c k).binds hb⟩
theorem all_mk {l : PySem.W.OpenLaw} {w : World} {K : PySem.W.Frag} {h : Heap} {mg : Str → Option Value} {fa : Addr} (X : K.In h) (G : h.Ns mainGlobals mg) (hfa : mg "law" = some (.ref fa))
    {od1 an1 : Option Addr} {sl1 : Array (Option Value)} {oc1 kV1 dc1 pm1 cd1 ct1 : Value} {f1 : Addr}
    {od2 an2 : Option Addr} {sl2 : Array (Option Value)} {oc2 kV2 dc2 pm2 cd2 ct2 : Value} {f2 : Addr}
    {od3 an3 : Option Addr} {sl3 : Array (Option Value)} {oc3 kV3 dc3 pm3 cd3 ct3 : Value} {f3 : Addr}
    {od4 an4 : Option Addr} {sl4 : Array (Option Value)} {oc4 kV4 dc4 pm4 cd4 ct4 : Value} {f4 : Addr}
    {od5 an5 : Option Addr} {sl5 : Array (Option Value)} {oc5 kV5 dc5 pm5 cd5 ct5 : Value} {f5 : Addr}
    {od6 an6 : Option Addr} {sl6 : Array (Option Value)} {oc6 kV6 dc6 pm6 cd6 ct6 : Value} {f6 : Addr}
    {od7 an7 : Option Addr} {sl7 : Array (Option Value)} {oc7 kV7 dc7 pm7 cd7 ct7 : Value} {f7 : Addr}
    {od8 an8 : Option Addr} {sl8 : Array (Option Value)} {oc8 kV8 dc8 pm8 cd8 ct8 : Value} {f8 : Addr}
    {od9 an9 : Option Addr} {sl9 : Array (Option Value)} {oc9 kV9 dc9 pm9 cd9 ct9 : Value} {f9 : Addr}
    {od10 an10 : Option Addr} {sl10 : Array (Option Value)} {oc10 kV10 dc10 pm10 cd10 ct10 : Value} {f10 : Addr}
    {od11 an11 : Option Addr} {sl11 : Array (Option Value)} {oc11 kV11 dc11 pm11 cd11 ct11 : Value} {f11 : Addr}
    {od12 an12 : Option Addr} {sl12 : Array (Option Value)} {oc12 kV12 dc12 pm12 cd12 ct12 : Value} {f12 : Addr}
    {od13 an13 : Option Addr} {sl13 : Array (Option Value)} {oc13 kV13 dc13 pm13 cd13 ct13 : Value} {f13 : Addr}
    {od14 an14 : Option Addr} {sl14 : Array (Option Value)} {oc14 kV14 dc14 pm14 cd14 ct14 : Value} {f14 : Addr}
    (a1 : PySem.W.nsIn K mainGlobals "names" = some (some (.ref f1))) (l1 : K.lookup f1 = some ⟨oc1, od1, .func (PySem.W.fnOf "names" "names" (defArgs s_names) (defBody s_names) (defScope s_names) .none kV1 dc1 pm1 an1 cd1 ct1), sl1⟩) (c1 : PySem.W.codeIn K cd1 "names" = true) (k1 : PySem.W.keepIn K (.ref f1) = true)
    (a2 : PySem.W.nsIn K mainGlobals "knots" = some (some (.ref f2))) (l2 : K.lookup f2 = some ⟨oc2, od2, .func (PySem.W.fnOf "knots" "knots" (defArgs s_knots) (defBody s_knots) (defScope s_knots) .none kV2 dc2 pm2 an2 cd2 ct2), sl2⟩) (c2 : PySem.W.codeIn K cd2 "knots" = true) (k2 : PySem.W.keepIn K (.ref f2) = true)
    (a3 : PySem.W.nsIn K mainGlobals "_law_cell_at" = some (some (.ref f3))) (l3 : K.lookup f3 = some ⟨oc3, od3, .func (PySem.W.fnOf "_law_cell_at" "_law_cell_at" (defArgs s__law_cell_at) (defBody s__law_cell_at) (defScope s__law_cell_at) .none kV3 dc3 pm3 an3 cd3 ct3), sl3⟩) (c3 : PySem.W.codeIn K cd3 "_law_cell_at" = true) (k3 : PySem.W.keepIn K (.ref f3) = true)
    (a4 : PySem.W.nsIn K mainGlobals "_law_whole" = some (some (.ref f4))) (l4 : K.lookup f4 = some ⟨oc4, od4, .func (PySem.W.fnOf "_law_whole" "_law_whole" (defArgs s__law_whole) (defBody s__law_whole) (defScope s__law_whole) .none kV4 dc4 pm4 an4 cd4 ct4), sl4⟩) (c4 : PySem.W.codeIn K cd4 "_law_whole" = true) (k4 : PySem.W.keepIn K (.ref f4) = true)
    (a5 : PySem.W.nsIn K mainGlobals "_law_sign_by" = some (some (.ref f5))) (l5 : K.lookup f5 = some ⟨oc5, od5, .func (PySem.W.fnOf "_law_sign_by" "_law_sign_by" (defArgs s__law_sign_by) (defBody s__law_sign_by) (defScope s__law_sign_by) .none kV5 dc5 pm5 an5 cd5 ct5), sl5⟩) (c5 : PySem.W.codeIn K cd5 "_law_sign_by" = true) (k5 : PySem.W.keepIn K (.ref f5) = true)
    (a6 : PySem.W.nsIn K mainGlobals "_law_word_by" = some (some (.ref f6))) (l6 : K.lookup f6 = some ⟨oc6, od6, .func (PySem.W.fnOf "_law_word_by" "_law_word_by" (defArgs s__law_word_by) (defBody s__law_word_by) (defScope s__law_word_by) .none kV6 dc6 pm6 an6 cd6 ct6), sl6⟩) (c6 : PySem.W.codeIn K cd6 "_law_word_by" = true) (k6 : PySem.W.keepIn K (.ref f6) = true)
    (a7 : PySem.W.nsIn K mainGlobals "_law_number_by" = some (some (.ref f7))) (l7 : K.lookup f7 = some ⟨oc7, od7, .func (PySem.W.fnOf "_law_number_by" "_law_number_by" (defArgs s__law_number_by) (defBody s__law_number_by) (defScope s__law_number_by) .none kV7 dc7 pm7 an7 cd7 ct7), sl7⟩) (c7 : PySem.W.codeIn K cd7 "_law_number_by" = true) (k7 : PySem.W.keepIn K (.ref f7) = true)
    (a8 : PySem.W.nsIn K mainGlobals "_law_rows_by" = some (some (.ref f8))) (l8 : K.lookup f8 = some ⟨oc8, od8, .func (PySem.W.fnOf "_law_rows_by" "_law_rows_by" (defArgs s__law_rows_by) (defBody s__law_rows_by) (defScope s__law_rows_by) .none kV8 dc8 pm8 an8 cd8 ct8), sl8⟩) (c8 : PySem.W.codeIn K cd8 "_law_rows_by" = true) (k8 : PySem.W.keepIn K (.ref f8) = true)
    (a9 : PySem.W.nsIn K mainGlobals "_law_count_by" = some (some (.ref f9))) (l9 : K.lookup f9 = some ⟨oc9, od9, .func (PySem.W.fnOf "_law_count_by" "_law_count_by" (defArgs s__law_count_by) (defBody s__law_count_by) (defScope s__law_count_by) .none kV9 dc9 pm9 an9 cd9 ct9), sl9⟩) (c9 : PySem.W.codeIn K cd9 "_law_count_by" = true) (k9 : PySem.W.keepIn K (.ref f9) = true)
    (a10 : PySem.W.nsIn K mainGlobals "_law_tree" = some (some (.ref f10))) (l10 : K.lookup f10 = some ⟨oc10, od10, .func (PySem.W.fnOf "_law_tree" "_law_tree" (defArgs s__law_tree) (defBody s__law_tree) (defScope s__law_tree) .none kV10 dc10 pm10 an10 cd10 ct10), sl10⟩) (c10 : PySem.W.codeIn K cd10 "_law_tree" = true) (k10 : PySem.W.keepIn K (.ref f10) = true)
    (a11 : PySem.W.nsIn K mainGlobals "_law_alike" = some (some (.ref f11))) (l11 : K.lookup f11 = some ⟨oc11, od11, .func (PySem.W.fnOf "_law_alike" "_law_alike" (defArgs s__law_alike) (defBody s__law_alike) (defScope s__law_alike) .none kV11 dc11 pm11 an11 cd11 ct11), sl11⟩) (c11 : PySem.W.codeIn K cd11 "_law_alike" = true) (k11 : PySem.W.keepIn K (.ref f11) = true)
    (a12 : PySem.W.nsIn K mainGlobals "_law_knots" = some (some (.ref f12))) (l12 : K.lookup f12 = some ⟨oc12, od12, .func (PySem.W.fnOf "_law_knots" "_law_knots" (defArgs s__law_knots) (defBody s__law_knots) (defScope s__law_knots) .none kV12 dc12 pm12 an12 cd12 ct12), sl12⟩) (c12 : PySem.W.codeIn K cd12 "_law_knots" = true) (k12 : PySem.W.keepIn K (.ref f12) = true)
    (a13 : PySem.W.nsIn K mainGlobals "_law_walked" = some (some (.ref f13))) (l13 : K.lookup f13 = some ⟨oc13, od13, .func (PySem.W.fnOf "_law_walked" "_law_walked" (defArgs s__law_walked) (defBody s__law_walked) (defScope s__law_walked) .none kV13 dc13 pm13 an13 cd13 ct13), sl13⟩) (c13 : PySem.W.codeIn K cd13 "_law_walked" = true) (k13 : PySem.W.keepIn K (.ref f13) = true)
    (a14 : PySem.W.nsIn K mainGlobals "law" = some (some (.ref f14))) (l14 : K.lookup f14 = some ⟨oc14, od14, .func (PySem.W.fnOf "law" "law" (defArgs s_law) (defBody s_law) (defScope s_law) .none kV14 dc14 pm14 an14 cd14 ct14), sl14⟩) (c14 : PySem.W.codeIn K cd14 "law" = true) (k14 : PySem.W.keepIn K (.ref f14) = true)
    (z_len : PySem.W.nsIn K mainGlobals "len" = some none)
    (z_range : PySem.W.nsIn K mainGlobals "range" = some none)
    (z_tuple : PySem.W.nsIn K mainGlobals "tuple" = some none)
    (z_sorted : PySem.W.nsIn K mainGlobals "sorted" = some none)
    (z_isinstance : PySem.W.nsIn K mainGlobals "isinstance" = some none)
    (z_str : PySem.W.nsIn K mainGlobals "str" = some none)
    (z_int : PySem.W.nsIn K mainGlobals "int" = some none)
    (z_bool : PySem.W.nsIn K mainGlobals "bool" = some none)
    (z_list : PySem.W.nsIn K mainGlobals "list" = some none)
    (z_min : PySem.W.nsIn K mainGlobals "min" = some none)
    (z_max : PySem.W.nsIn K mainGlobals "max" = some none)
    (z_set : PySem.W.nsIn K mainGlobals "set" = some none)
    (z_dict : PySem.W.nsIn K mainGlobals "dict" = some none)
    (z_ord : PySem.W.nsIn K mainGlobals "ord" = some none)
    (z_enumerate : PySem.W.nsIn K mainGlobals "enumerate" = some none)
    (z_ValueError : PySem.W.nsIn K mainGlobals "ValueError" = some none)
    : ∃ fd : FuncData, (∀ (s : Shared) (v : Value), BindsTo s fd ⟨[v], []⟩ [("_law_script", v)]) ∧ ∀ base : Heap, K.In base → base.Ns mainGlobals mg → FnOk l.prog w K mg base CX0 131 fa fd ["_law_script"] (Fn K Rlaw) := by
  have e := hfa.symm.trans (PySem.W.mg_of X G a14)
  cases e
  have d_names : Dfn K mg "names" s_names ["tree"] := dfn_mk (st := s_names) X G a1 l1 c1 k1 fun _ _ _ _ _ _ us hl => match us, hl with | [_], _ => rfl
  have d_knots : Dfn K mg "knots" s_knots ["tree"] := dfn_mk (st := s_knots) X G a2 l2 c2 k2 fun _ _ _ _ _ _ us hl => match us, hl with | [_], _ => rfl
  have d__law_cell_at : Dfn K mg "_law_cell_at" s__law_cell_at ["_law_script", "_law_k"] := dfn_mk (st := s__law_cell_at) X G a3 l3 c3 k3 fun _ _ _ _ _ _ us hl => match us, hl with | [_, _], _ => rfl
  have d__law_whole : Dfn K mg "_law_whole" s__law_whole ["_law_told"] := dfn_mk (st := s__law_whole) X G a4 l4 c4 k4 fun _ _ _ _ _ _ us hl => match us, hl with | [_], _ => rfl
  have d__law_sign_by : Dfn K mg "_law_sign_by" s__law_sign_by ["_law_cell"] := dfn_mk (st := s__law_sign_by) X G a5 l5 c5 k5 fun _ _ _ _ _ _ us hl => match us, hl with | [_], _ => rfl
  have d__law_word_by : Dfn K mg "_law_word_by" s__law_word_by ["_law_cell", "_law_size"] := dfn_mk (st := s__law_word_by) X G a6 l6 c6 k6 fun _ _ _ _ _ _ us hl => match us, hl with | [_, _], _ => rfl
  have d__law_number_by : Dfn K mg "_law_number_by" s__law_number_by ["_law_cell"] := dfn_mk (st := s__law_number_by) X G a7 l7 c7 k7 fun _ _ _ _ _ _ us hl => match us, hl with | [_], _ => rfl
  have d__law_rows_by : Dfn K mg "_law_rows_by" s__law_rows_by ["_law_script", "_law_first", "_law_count"] := dfn_mk (st := s__law_rows_by) X G a8 l8 c8 k8 fun _ _ _ _ _ _ us hl => match us, hl with | [_, _, _], _ => rfl
  have d__law_count_by : Dfn K mg "_law_count_by" s__law_count_by ["_law_cell"] := dfn_mk (st := s__law_count_by) X G a9 l9 c9 k9 fun _ _ _ _ _ _ us hl => match us, hl with | [_], _ => rfl
  have d__law_tree : Dfn K mg "_law_tree" s__law_tree ["_law_rows"] := dfn_mk (st := s__law_tree) X G a10 l10 c10 k10 fun _ _ _ _ _ _ us hl => match us, hl with | [_], _ => rfl
  have d__law_alike : Dfn K mg "_law_alike" s__law_alike ["_law_told", "_law_due"] := dfn_mk (st := s__law_alike) X G a11 l11 c11 k11 fun _ _ _ _ _ _ us hl => match us, hl with | [_, _], _ => rfl
  have d__law_knots : Dfn K mg "_law_knots" s__law_knots ["_law_rows"] := dfn_mk (st := s__law_knots) X G a12 l12 c12 k12 fun _ _ _ _ _ _ us hl => match us, hl with | [_], _ => rfl
  have d__law_walked : Dfn K mg "_law_walked" s__law_walked ["_law_tree_here", "_law_start"] := dfn_mk (st := s__law_walked) X G a13 l13 c13 k13 fun _ _ _ _ _ _ us hl => match us, hl with | [_, _], _ => rfl
  have BU : Bl mg := ⟨PySem.W.mg_none_of X G z_len, PySem.W.mg_none_of X G z_range, PySem.W.mg_none_of X G z_tuple, PySem.W.mg_none_of X G z_sorted, PySem.W.mg_none_of X G z_isinstance, PySem.W.mg_none_of X G z_str, PySem.W.mg_none_of X G z_int, PySem.W.mg_none_of X G z_bool, PySem.W.mg_none_of X G z_list, PySem.W.mg_none_of X G z_min, PySem.W.mg_none_of X G z_max, PySem.W.mg_none_of X G z_set, PySem.W.mg_none_of X G z_dict, PySem.W.mg_none_of X G z_ord, PySem.W.mg_none_of X G z_enumerate, PySem.W.mg_none_of X G z_ValueError⟩
  have F14 := fun_mk (st := s_law) l14 c14 k14
  refine ⟨PySem.W.fnOf "law" "law" (defArgs s_law) (defBody s_law) (defScope s_law) .none kV14 dc14 pm14 an14 cd14 ct14, fun s v => .of_eq rfl, fun base _ _ => ?_⟩
  have c__law_whole := cal_whole (P := l.prog) (w := w) (base := base) d__law_whole BU
  have c__law_number_by := cal_number_by (P := l.prog) (w := w) (base := base) d__law_number_by BU
  have c__law_count_by := cal_count_by (P := l.prog) (w := w) (base := base) d__law_count_by BU
  have c__law_sign_by := cal_sign_by (P := l.prog) (w := w) (base := base) d__law_sign_by BU
  have c__law_word_by := cal_word_by (P := l.prog) (w := w) (base := base) d__law_word_by BU c__law_sign_by
  have c__law_cell_at := cal_cell_at (P := l.prog) (w := w) (base := base) d__law_cell_at BU
  have c__law_rows_by := cal_rows_by (P := l.prog) (w := w) (base := base) d__law_rows_by BU c__law_cell_at c__law_sign_by c__law_word_by c__law_number_by
  have c__law_tree := cal_law_tree (P := l.prog) (w := w) (base := base) d__law_tree BU
  have c_names := cal_names (P := l.prog) (w := w) (base := base) d_names BU
  have c_knots := cal_knots (P := l.prog) (w := w) (base := base) d_knots BU
  have c__law_alike := cal_alike (P := l.prog) (w := w) (base := base) d__law_alike BU c__law_whole
  have c__law_walked := cal_walked (P := l.prog) (w := w) (base := base) d__law_walked BU
  have c__law_knots := cal_law_knots (P := l.prog) (w := w) (base := base) d__law_knots BU
  exact ok_law (P := l.prog) (w := w) (base := base) F14 BU c__law_cell_at c__law_rows_by c__law_count_by c__law_tree c__law_alike c_names c_knots c__law_walked c__law_knots
theorem walk {l : PySem.W.OpenLaw} {q : Program} {loose : List Str} {XP : (Str → Option Value) → Heap → Prop} {YP : World → Heap → Prop} {d : DefRec} {K : Params → PySem.W.Frag} (hn : l.most = some 63) (hdf : d.params.defaults = [])
    (hY : ∀ (w : World) (h : Heap), YP w h → (K w.params).In h)
    (F : ∀ (w : World) (mg : Str → Option Value) (fa : Addr) (h : Heap), (K w.params).In h → h.Ns mainGlobals mg → mg d.name = some (.ref fa) →
      ∃ fd : FuncData, (∀ (s : Shared) (u : Value), BindsTo s fd ⟨[u], []⟩ [("_law_script", u)]) ∧ ∀ base : Heap, (K w.params).In base → base.Ns mainGlobals mg → FnOk l.prog w (K w.params) mg base CX0 131 fa fd ["_law_script"] (Fn (K w.params) Rlaw)) :
    PySem.W.WalkO q loose XP YP l.row.toRowW d [] (fun f vs => PySem.call f vs) :=
  L2.walk_of (n := 63) (k := 131) (x := "_law_script") (CX := fun _ => CX0) (sp := fun w => Fn (K w.params) Rlaw) hn (by decide) hdf ⟨rfl, by decide, by decide⟩ hY F
    (fun _ _ a ns hl hO hS => ⟨[.scr ns], .bl true, ⟨.ref a, [], rfl, ⟨a, rfl, Fz.of hS hO⟩, rfl⟩, ⟨ns, rfl, hl, rfl⟩, fun v H' _ hv => hv⟩) fun _ _ _ _ _ z => z
end Rt
open PySem PySem.W PyProof.Rows in
set_option maxRecDepth 100000 in
set_option maxHeartbeats 0 in
theorem PySem.Challenge.cw_radixtrail_k06_all_knots_holds : PySem.Challenge.rw_radixtrail_k06_all_knots.Holds := by
  w_on; o_law; k_head; (case hw => w_witness2)
  k_fill
  refine Rt.walk (l := PySem.Challenge.rw_radixtrail_k06_all_knots) rfl rfl (fun w h Y => PySem.W.kIn_of Y) ?F
  case F =>
    intro w mg fa h KX G hmg
    refine' Rt.all_mk KX G hmg ?a1 ?l1 ?c1 ?k1 ?a2 ?l2 ?c2 ?k2 ?a3 ?l3 ?c3 ?k3 ?a4 ?l4 ?c4 ?k4 ?a5 ?l5 ?c5 ?k5 ?a6 ?l6 ?c6 ?k6 ?a7 ?l7 ?c7 ?k7 ?a8 ?l8 ?c8 ?k8 ?a9 ?l9 ?c9 ?k9 ?a10 ?l10 ?c10 ?k10 ?a11 ?l11 ?c11 ?k11 ?a12 ?l12 ?c12 ?k12 ?a13 ?l13 ?c13 ?k13 ?a14 ?l14 ?c14 ?k14 ?z_len ?z_range ?z_tuple ?z_sorted ?z_isinstance ?z_str ?z_int ?z_bool ?z_list ?z_min ?z_max ?z_set ?z_dict ?z_ord ?z_enumerate ?z_ValueError
    (case a1 => k_is)
    (case l1 => k_is)
    (case c1 => k_is)
    (case k1 => k_is)
    (case a2 => k_is)
    (case l2 => k_is)
    (case c2 => k_is)
    (case k2 => k_is)
    (case a3 => k_is)
    (case l3 => k_is)
    (case c3 => k_is)
    (case k3 => k_is)
    (case a4 => k_is)
    (case l4 => k_is)
    (case c4 => k_is)
    (case k4 => k_is)
    (case a5 => k_is)
    (case l5 => k_is)
    (case c5 => k_is)
    (case k5 => k_is)
    (case a6 => k_is)
    (case l6 => k_is)
    (case c6 => k_is)
    (case k6 => k_is)
    (case a7 => k_is)
    (case l7 => k_is)
    (case c7 => k_is)
    (case k7 => k_is)
    (case a8 => k_is)
    (case l8 => k_is)
    (case c8 => k_is)
    (case k8 => k_is)
    (case a9 => k_is)
    (case l9 => k_is)
    (case c9 => k_is)
    (case k9 => k_is)
    (case a10 => k_is)
    (case l10 => k_is)
    (case c10 => k_is)
    (case k10 => k_is)
    (case a11 => k_is)
    (case l11 => k_is)
    (case c11 => k_is)
    (case k11 => k_is)
    (case a12 => k_is)
    (case l12 => k_is)
    (case c12 => k_is)
    (case k12 => k_is)
    (case a13 => k_is)
    (case l13 => k_is)
    (case c13 => k_is)
    (case k13 => k_is)
    (case a14 => k_is)
    (case l14 => k_is)
    (case c14 => k_is)
    (case k14 => k_is)
    (case z_len => k_is)
    (case z_range => k_is)
    (case z_tuple => k_is)
    (case z_sorted => k_is)
    (case z_isinstance => k_is)
    (case z_str => k_is)
    (case z_int => k_is)
    (case z_bool => k_is)
    (case z_list => k_is)
    (case z_min => k_is)
    (case z_max => k_is)
    (case z_set => k_is)
    (case z_dict => k_is)
    (case z_ord => k_is)
    (case z_enumerate => k_is)
    (case z_ValueError => k_is)
