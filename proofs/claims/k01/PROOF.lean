import PyProof.Rows.All
import Wide.All
import OpenK.AllK
import Wide.FinOn
import HandS.ForMost
import HandS.ForExc
import HandS.Codes
import HandS.IsInst
import PySem.Challenge.RW_radixtrail_k01_words_in_common
set_option Elab.async false
set_option linter.all false
set_option maxRecDepth 100000
set_option maxHeartbeats 4000000
namespace Rt
open PySem L2

/-! ### texts as lists of signs -/
abbrev Tx := List Nat
def S (l : Tx) : Str := ⟨l.toArray⟩
theorem S_cps (l : Tx) : (S l).cps.toList = l := by simp [S]
theorem S_of (x : Str) : S x.cps.toList = x := by cases x; simp [S]
theorem S_inj {a b : Tx} (h : S a = S b) : a = b := by
  have := congrArg (fun z : Str => z.cps.toList) h
  simpa [S_cps] using this
theorem S_eq {a b : Tx} : (S a = S b) ↔ a = b := ⟨S_inj, fun h => by rw [h]⟩
theorem S_len (l : Tx) : (S l).length = l.length := by simp [S, Str.length]
theorem S_app (a b : Tx) : S a ++ S b = S (a ++ b) := by
  show (⟨(S a).cps ++ (S b).cps⟩ : Str) = _
  simp [S]
def tx (s : String) : Tx := (Str.ofString s).cps.toList
theorem S_tx (s : String) : S (tx s) = Str.ofString s := S_of _
def cutL (l : Tx) (lo hi : Option Int) : Tx := (l.drop (HT.sIx l.length 0 lo)).take (HT.sIx l.length l.length hi - HT.sIx l.length 0 lo)
theorem S_cut (l : Tx) (lo hi : Option Int) : cutS (S l) lo hi = S (cutL l lo hi) := by
  show (⟨(((S l).cps.toList.drop (HT.sIx (S l).length 0 lo)).take (HT.sIx (S l).length (S l).length hi - HT.sIx (S l).length 0 lo)).toArray⟩ : Str) = _
  rw [S_cps, S_len]; rfl
theorem cutL_nn (l : Tx) (i j : Nat) : cutL l (some (i : Int)) (some (j : Int)) = (l.drop i).take (j - i) := by
  unfold cutL
  rw [HT.sIx_nat, HT.sIx_nat]
  by_cases h : i ≤ l.length
  · rw [Nat.min_eq_left h]
    by_cases h2 : j ≤ l.length
    · rw [Nat.min_eq_left h2]
    · rw [Nat.min_eq_right (by omega)]
      rw [List.take_of_length_le (by rw [List.length_drop]; omega), List.take_of_length_le (by rw [List.length_drop]; omega)]
  · rw [Nat.min_eq_right (by omega : l.length ≤ i), List.drop_eq_nil_of_le (Nat.le_refl _), List.drop_eq_nil_of_le (by omega : l.length ≤ i)]
    simp
theorem cutL_to (l : Tx) (j : Nat) : cutL l none (some (j : Int)) = l.take j := by
  have h := cutL_nn l 0 j
  rw [List.drop_zero, Nat.sub_zero] at h
  rw [← h]
  unfold cutL
  rw [HT.sIx_nat, HT.sIx_none, HT.sIx_nat]; simp
theorem cutL_from (l : Tx) (i : Nat) : cutL l (some (i : Int)) none = l.drop i := by
  unfold cutL
  rw [HT.sIx_nat, HT.sIx_none]
  by_cases h : i ≤ l.length
  · rw [Nat.min_eq_left h, List.take_of_length_le (by rw [List.length_drop]; omega)]
  · rw [Nat.min_eq_right (by omega), List.drop_eq_nil_of_le (Nat.le_refl _), List.drop_eq_nil_of_le (by omega : l.length ≤ i)]; simp

/-! ### data -/
inductive D where
  | non | bl (b : Bool) | int (i : Int) | str (l : Tx) | tup (ds : List D) | lst (ds : List D) | raw (v : V) | scr (ns : List Int)
mutual
def D.imm : D → Bool
  | .tup ds => D.imms ds
  | .lst _ => false
  | _ => true
def D.imms : List D → Bool
  | [] => true
  | d :: ds => d.imm && D.imms ds
end
theorem D.imms_mem : ∀ {ds : List D}, D.imms ds = true → ∀ d ∈ ds, d.imm = true
  | [], _, d, h => by cases h
  | e :: ds, h, d, hd => by
    have h' : (e.imm && D.imms ds) = true := h
    rw [Bool.and_eq_true] at h'
    rcases List.mem_cons.mp hd with rfl | hd
    · exact h'.1
    · exact D.imms_mem h'.2 d hd
theorem D.imms_of : ∀ {ds : List D}, (∀ d ∈ ds, d.imm = true) → D.imms ds = true
  | [], _ => rfl
  | e :: ds, h => by
    show (e.imm && D.imms ds) = true
    rw [h e List.mem_cons_self, D.imms_of fun d hd => h d (List.mem_cons_of_mem _ hd)]; rfl
theorem D.imms_app {a b : List D} (ha : D.imms a = true) (hb : D.imms b = true) : D.imms (a ++ b) = true :=
  D.imms_of fun d hd => (List.mem_append.mp hd).elim (D.imms_mem ha d) (D.imms_mem hb d)
theorem D.imms_map {α : Type} {f : α → D} {l : List α} (h : ∀ x ∈ l, (f x).imm = true) : D.imms (l.map f) = true :=
  D.imms_of fun d hd => by
    obtain ⟨x, hx, rfl⟩ := List.mem_map.mp hd
    exact h x hx
theorem D.imm_tup {ds : List D} (h : D.imms ds = true) : (D.tup ds).imm = true := h

section
variable {K : PySem.W.Frag} {H H' : Hp}
/-- a list that nobody changes: the script -/
def Fz (K : PySem.W.Frag) (H : Hp) (a : Addr) (xs : List V) : Prop :=
  (∃ o, H a = some (.frz o (.lst xs))) ∨ ∃ (o : Obj) (its : Array Value) (n : Nat), K.lookup a = some o ∧ o.cls = .type "list" ∧ o.dict = none ∧ o.data = .seq its n ∧ its.size ≤ sizeLine ∧ Vals xs its.toList
theorem Fz.sql {a : Addr} {xs : List V} (h : Fz K H a xs) : SqL K H a xs := by
  rcases h with ⟨o, h⟩ | h
  · exact .inl (.inr ⟨o, h⟩)
  · exact .inr h
theorem Fz.of {a : Addr} {xs : List V} (h : SqL K H a xs) (ho : Only H) : Fz K H a xs := by
  rcases h with (h | ⟨o, h⟩) | h
  · rcases ho a with q | ⟨o, ys, q⟩
    · rw [h] at q; cases q
    · rw [h] at q; cases q
  · exact .inl ⟨o, h⟩
  · exact .inr h
theorem Fz.mono {a : Addr} {xs : List V} (e : Same H H') (h : Fz K H a xs) : Fz K H' a xs := by
  rcases h with ⟨o, h⟩ | h
  · exact .inl ⟨o, e _ _ h⟩
  · exact .inr h
theorem Fz.put {a l : Addr} {xs ys : List V} {o : HO} (hl : H l = some (.lst ys)) (h : Fz K H a xs) : Fz K (upd H l o) a xs := by
  rcases h with ⟨u, h⟩ | h
  · exact .inl ⟨u, by rw [upd_ne (ne_of h hl (by intro q; cases q))]; exact h⟩
  · exact .inr h
mutual
def Dt (K : PySem.W.Frag) (H : Hp) : D → V → Prop
  | .non, v => v = .non
  | .bl b, v => v = .bl b
  | .int i, v => v = .int i
  | .str l, v => v = .str (S l)
  | .raw w, v => v = w
  | .scr ns, v => ∃ a, v = .ref a ∧ Fz K H a (ns.map V.int)
  | .tup ds, v => ∃ a vs, v = .ref a ∧ H a = some (.tup vs) ∧ Dts K H ds vs
  | .lst ds, v => ∃ a vs, v = .ref a ∧ H a = some (.lst vs) ∧ Dts K H ds vs
def Dts (K : PySem.W.Frag) (H : Hp) : List D → List V → Prop
  | [], vs => vs = []
  | d :: ds, vs => ∃ v r, vs = v :: r ∧ Dt K H d v ∧ Dts K H ds r
end
theorem Same.rd {a : Addr} {u : HO} (e : Same H H') (h : Rd H a u) : Rd H' a u := by
  rcases h with h | ⟨o, h⟩
  · exact .inl (e a _ h)
  · exact .inr ⟨o, e a _ h⟩
theorem Same.sqt {a : Addr} {xs : List V} (e : Same H H') (h : SqT K H a xs) : SqT K H' a xs := by
  rcases h with h | h
  · exact .inl (Same.rd e h)
  · exact .inr h
theorem Same.sql {a : Addr} {xs : List V} (e : Same H H') (h : SqL K H a xs) : SqL K H' a xs := e.seq h
theorem Same.new {p : Addr} {o : HO} (h : H p = none) : Same H (upd H p o) := fun a u e => by
  rw [upd_ne (ne_of_none e h)]
  exact e
theorem Same.mut {p : Addr} {o : HO} (e : Same H H') (h : H p = none) : Same H (upd H' p o) := fun a u ha => by
  rw [upd_ne (ne_of_none ha h)]
  exact e a u ha
mutual
theorem Dt.mono (e : Same H H') : ∀ (d : D) {v : V}, Dt K H d v → Dt K H' d v
  | .non, _, h => h
  | .bl _, _, h => h
  | .int _, _, h => h
  | .str _, _, h => h
  | .raw _, _, h => h
  | .scr _, _, ⟨a, h1, h2⟩ => ⟨a, h1, Fz.mono e h2⟩
  | .tup ds, _, ⟨a, vs, h1, h2, h3⟩ => ⟨a, vs, h1, e _ _ h2, Dts.mono e ds h3⟩
  | .lst ds, _, ⟨a, vs, h1, h2, h3⟩ => ⟨a, vs, h1, e _ _ h2, Dts.mono e ds h3⟩
theorem Dts.mono (e : Same H H') : ∀ (ds : List D) {vs : List V}, Dts K H ds vs → Dts K H' ds vs
  | [], _, h => h
  | d :: ds, _, ⟨v, r, h1, h2, h3⟩ => ⟨v, r, h1, Dt.mono e d h2, Dts.mono e ds h3⟩
end
mutual
theorem Dt.put {l : Addr} {xs : List V} {o : HO} (hl : H l = some (.lst xs)) : ∀ (d : D) {v : V}, d.imm = true → Dt K H d v → Dt K (upd H l o) d v
  | .non, _, _, h => h
  | .bl _, _, _, h => h
  | .int _, _, _, h => h
  | .str _, _, _, h => h
  | .raw _, _, _, h => h
  | .scr _, _, _, ⟨a, h1, h2⟩ => ⟨a, h1, Fz.put hl h2⟩
  | .tup ds, _, i, ⟨a, vs, h1, h2, h3⟩ => ⟨a, vs, h1, by rw [upd_ne (ne_of h2 hl (by intro q; cases q))]; exact h2, Dts.put hl ds i h3⟩
  | .lst ds, _, i, _ => by cases i
theorem Dts.put {l : Addr} {xs : List V} {o : HO} (hl : H l = some (.lst xs)) : ∀ (ds : List D) {vs : List V}, D.imms ds = true → Dts K H ds vs → Dts K (upd H l o) ds vs
  | [], _, _, h => h
  | d :: ds, _, i, ⟨v, r, h1, h2, h3⟩ => by
    have i' : (d.imm && D.imms ds) = true := i
    rw [Bool.and_eq_true] at i'
    exact ⟨v, r, h1, Dt.put hl d i'.1 h2, Dts.put hl ds i'.2 h3⟩
end
theorem Dts.len : ∀ {ds : List D} {vs : List V}, Dts K H ds vs → vs.length = ds.length
  | [], _, h => by rw [show _ = [] from h]; rfl
  | d :: ds, _, ⟨v, r, h1, h2, h3⟩ => by rw [h1, List.length_cons, List.length_cons, Dts.len h3]
theorem Dts.get : ∀ {ds : List D} {vs : List V} {i : Nat} {d : D}, Dts K H ds vs → ds[i]? = some d → ∃ v, vs[i]? = some v ∧ Dt K H d v
  | [], _, _, _, _, e => by simp at e
  | d :: ds, _, 0, e, ⟨v, r, h1, h2, h3⟩, he => by
    simp at he; subst he
    exact ⟨v, by rw [h1]; rfl, h2⟩
  | d :: ds, _, i + 1, e, ⟨v, r, h1, h2, h3⟩, he => by
    obtain ⟨w, q1, q2⟩ := Dts.get (i := i) (d := e) h3 (by simpa using he)
    exact ⟨w, by rw [h1]; simpa using q1, q2⟩
theorem Dts.getv : ∀ {ds : List D} {vs : List V} {i : Nat} {v : V}, Dts K H ds vs → vs[i]? = some v → ∃ d, ds[i]? = some d ∧ Dt K H d v
  | [], _, _, _, h, e => by rw [show _ = [] from h] at e; simp at e
  | d :: ds, _, 0, e, ⟨v, r, h1, h2, h3⟩, he => by
    rw [h1] at he; simp at he; subst he
    exact ⟨d, rfl, h2⟩
  | d :: ds, _, i + 1, e, ⟨v, r, h1, h2, h3⟩, he => by
    rw [h1] at he
    obtain ⟨w, q1, q2⟩ := Dts.getv (i := i) (v := e) h3 (by simpa using he)
    exact ⟨w, by simpa using q1, q2⟩
theorem Dts.snoc : ∀ {ds : List D} {vs : List V} {d : D} {v : V}, Dts K H ds vs → Dt K H d v → Dts K H (ds ++ [d]) (vs ++ [v])
  | [], _, d, v, h, q => by rw [show _ = [] from h]; exact ⟨v, [], rfl, q, rfl⟩
  | e :: ds, _, d, v, ⟨w, r, h1, h2, h3⟩, q => by rw [h1]; exact ⟨w, r ++ [v], rfl, h2, Dts.snoc h3 q⟩
theorem Dts.app : ∀ {ds es : List D} {vs ws : List V}, Dts K H ds vs → Dts K H es ws → Dts K H (ds ++ es) (vs ++ ws)
  | [], _, _, _, h, q => by rw [show _ = [] from h]; exact q
  | e :: ds, _, _, _, ⟨w, r, h1, h2, h3⟩, q => by rw [h1]; exact ⟨w, _, rfl, h2, Dts.app h3 q⟩
theorem Dts.drop : ∀ (n : Nat) {ds : List D} {vs : List V}, Dts K H ds vs → Dts K H (ds.drop n) (vs.drop n)
  | 0, _, _, h => h
  | n + 1, [], _, h => by rw [show _ = [] from h]; exact rfl
  | n + 1, e :: ds, _, ⟨w, r, h1, h2, h3⟩ => by rw [h1]; exact Dts.drop n h3
theorem Dts.take : ∀ (n : Nat) {ds : List D} {vs : List V}, Dts K H ds vs → Dts K H (ds.take n) (vs.take n)
  | 0, _, _, h => by rw [List.take_zero, List.take_zero]; exact rfl
  | n + 1, [], _, h => by rw [show _ = [] from h]; exact rfl
  | n + 1, e :: ds, _, ⟨w, r, h1, h2, h3⟩ => by rw [h1]; exact ⟨w, _, rfl, h2, Dts.take n h3⟩

/-! ### slots -/
def Sl (K : PySem.W.Frag) (H : Hp) : List (Option D) → St → Prop
  | [], σ => σ = []
  | none :: ds, σ => ∃ x r, σ = x :: r ∧ Sl K H ds r
  | some d :: ds, σ => ∃ v r, σ = some v :: r ∧ Dt K H d v ∧ Sl K H ds r
theorem Sl.get : ∀ {ds : List (Option D)} {σ : St} {i : Nat} {d : D}, Sl K H ds σ → ds[i]? = some (some d) → ∃ v, σ[i]? = some (some v) ∧ Dt K H d v
  | [], _, _, _, _, e => by simp at e
  | none :: ds, _, 0, _, _, e => by simp at e
  | some d :: ds, _, 0, e, ⟨v, r, h1, h2, h3⟩, he => by
    simp at he; subst he
    exact ⟨v, by rw [h1]; rfl, h2⟩
  | none :: ds, _, i + 1, e, ⟨v, r, h1, h3⟩, he => by
    obtain ⟨w, q1, q2⟩ := Sl.get (i := i) (d := e) h3 (by simpa using he)
    exact ⟨w, by rw [h1]; simpa using q1, q2⟩
  | some d :: ds, _, i + 1, e, ⟨v, r, h1, h2, h3⟩, he => by
    obtain ⟨w, q1, q2⟩ := Sl.get (i := i) (d := e) h3 (by simpa using he)
    exact ⟨w, by rw [h1]; simpa using q1, q2⟩
theorem Sl.set : ∀ {ds : List (Option D)} {σ : St} (i : Nat) {d : D} {v : V}, Sl K H ds σ → Dt K H d v → Sl K H (ds.set i (some d)) (σ.set i (some v))
  | [], _, _, _, _, h, _ => by rw [show _ = [] from h]; exact rfl
  | none :: ds, _, 0, d, v, ⟨x, r, h1, h2⟩, q => by rw [h1]; exact ⟨v, r, rfl, q, h2⟩
  | some d :: ds, _, 0, e, v, ⟨x, r, h1, h2, h3⟩, q => by rw [h1]; exact ⟨v, r, rfl, q, h3⟩
  | none :: ds, _, i + 1, d, v, ⟨x, r, h1, h2⟩, q => by rw [h1]; exact ⟨x, _, rfl, Sl.set i h2 q⟩
  | some d :: ds, _, i + 1, e, v, ⟨x, r, h1, h2, h3⟩, q => by rw [h1]; exact ⟨x, _, rfl, h2, Sl.set i h3 q⟩
theorem Sl.unset : ∀ {ds : List (Option D)} {σ : St} (i : Nat) (x : Option V), Sl K H ds σ → Sl K H (ds.set i none) (σ.set i x)
  | [], _, _, _, h => by rw [show _ = [] from h]; exact rfl
  | none :: ds, _, 0, v, ⟨x, r, h1, h2⟩ => by rw [h1]; exact ⟨v, r, rfl, h2⟩
  | some d :: ds, _, 0, v, ⟨x, r, h1, h2, h3⟩ => by rw [h1]; exact ⟨v, r, rfl, h3⟩
  | none :: ds, _, i + 1, v, ⟨x, r, h1, h2⟩ => by rw [h1]; exact ⟨x, _, rfl, Sl.unset i v h2⟩
  | some d :: ds, _, i + 1, v, ⟨x, r, h1, h2, h3⟩ => by rw [h1]; exact ⟨x, _, rfl, h2, Sl.unset i v h3⟩
theorem Sl.mono (e : Same H H') : ∀ {ds : List (Option D)} {σ : St}, Sl K H ds σ → Sl K H' ds σ
  | [], _, h => h
  | none :: ds, _, ⟨x, r, h1, h2⟩ => ⟨x, r, h1, Sl.mono e h2⟩
  | some d :: ds, _, ⟨v, r, h1, h2, h3⟩ => ⟨v, r, h1, Dt.mono e d h2, Sl.mono e h3⟩
/-- forgetting: each told slot is told alike -/
def Fits : List (Option D) → List (Option D) → Prop
  | [], [] => True
  | none :: r, _ :: s => Fits r s
  | some d :: r, some e :: s => d = e ∧ Fits r s
  | _, _ => False
theorem Sl.fit : ∀ {ds es : List (Option D)} {σ : St}, Fits es ds → Sl K H ds σ → Sl K H es σ
  | [], [], _, _, h => h
  | [], none :: _, _, f, _ => f.elim
  | [], some _ :: _, _, f, _ => f.elim
  | none :: _, [], _, f, _ => f.elim
  | some _ :: _, [], _, f, _ => f.elim
  | none :: ds, none :: es, _, f, ⟨x, r, h1, h2⟩ => ⟨x, r, h1, Sl.fit f h2⟩
  | some d :: ds, none :: es, _, f, ⟨v, r, h1, h2, h3⟩ => ⟨_, r, h1, Sl.fit f h3⟩
  | none :: ds, some e :: es, _, f, _ => f.elim
  | some d :: ds, some e :: es, _, ⟨f1, f2⟩, ⟨v, r, h1, h2, h3⟩ => ⟨v, r, h1, by rw [f1]; exact h2, Sl.fit f2 h3⟩
def wipeD (ds : List (Option D)) : List Nat → List (Option D)
  | [] => ds
  | v :: vs => (wipeD ds vs).set v none
theorem Sl.wipe {ds : List (Option D)} {σ : St} (h : Sl K H ds σ) : ∀ vs : List Nat, Sl K H (wipeD ds vs) (L2.wipe σ vs)
  | [] => h
  | v :: vs => by
    show Sl K H ((wipeD ds vs).set v none) ((L2.wipe σ vs).set v none)
    exact Sl.unset v none (Sl.wipe h vs)
theorem Sl.put {l : Addr} {xs : List V} {o : HO} (hl : H l = some (.lst xs)) : ∀ {ds : List (Option D)} {σ : St}, (∀ d, some d ∈ ds → d.imm = true) → Sl K H ds σ → Sl K (upd H l o) ds σ
  | [], _, _, h => h
  | none :: ds, _, i, ⟨x, r, h1, h2⟩ => ⟨x, r, h1, Sl.put hl (fun d hd => i d (List.mem_cons_of_mem _ hd)) h2⟩
  | some d :: ds, _, i, ⟨v, r, h1, h2, h3⟩ => ⟨v, r, h1, Dt.put hl d (i d List.mem_cons_self) h2, Sl.put hl (fun d hd => i d (List.mem_cons_of_mem _ hd)) h3⟩
theorem Sl.start {N : List Str} : ∀ {ds : List D} {vs : List V}, Dts K H ds vs → Sl K H (ds.map some ++ List.replicate (N.length - ds.length) none) (L2.start N vs) := by
  intro ds vs h
  have e := h.len
  unfold L2.start
  rw [e]
  have rep : ∀ n : Nat, Sl K H (List.replicate n none) (List.replicate n none) := by
    intro n
    induction n with
    | zero => exact rfl
    | succ n ih => exact ⟨none, _, rfl, ih⟩
  have go : ∀ (n : Nat) (ds : List D) (vs : List V), Dts K H ds vs → Sl K H (ds.map some ++ List.replicate n none) (vs.map some ++ List.replicate n none) := by
    intro n ds
    induction ds with
    | nil => intro vs h; rw [show vs = [] from h]; exact rep n
    | cons d ds ih =>
      rintro vs ⟨v, r, h1, h2, h3⟩
      rw [h1]
      exact ⟨v, _, rfl, h2, ih r h3⟩
  exact go _ ds vs h
end
end Rt
namespace Rt
open PySem L2

theorem small {n : Nat} (h : n ≤ 100000) : n ≤ sizeLine := Nat.le_trans h (by decide)
theorem smallLt {n : Nat} (h : n < 100000) : n < sizeLine := Nat.lt_of_lt_of_le h (by decide)
theorem free_back {H H' : Hp} {p : Addr} (e : Same H H') (h : H' p = none) : H p = none := e.free h

/-! ### what evaluates to what -/
def EvP (te : TE) (σ : St) (H : Hp) (P : V → Hp → Prop) : Prop := ∀ H1, Same H H1 → ∀ Q : VK, (∀ v H2, Same H1 H2 → P v H2 → Q v H2) → te σ H1 Q
def Ev (K : PySem.W.Frag) (te : TE) (σ : St) (H : Hp) (d : D) : Prop := ∀ H1, Same H H1 → ∀ Q : VK, (∀ v H2, Same H1 H2 → Dt K H2 d v → Q v H2) → te σ H1 Q
/-- a new list of these -/
def EvN (K : PySem.W.Frag) (te : TE) (σ : St) (H : Hp) (ds : List D) : Prop := ∀ H1, Same H H1 → ∀ Q : VK, (∀ p vs H2, H1 p = none → Same H1 H2 → H2 p = some (.lst vs) → Dts K H2 ds vs → Q (.ref p) H2) → te σ H1 Q
def EvT (K : PySem.W.Frag) (tt : TT) (σ : St) (H : Hp) (b : Bool) : Prop := ∀ H1, Same H H1 → ∀ Q : Bool → Hp → Prop, (∀ H2, Same H1 H2 → Q b H2) → tt σ H1 Q
def EvA (K : PySem.W.Frag) (ta : TA) (σ : St) (H : Hp) (ds : List D) : Prop := ∀ H1, Same H H1 → ∀ Q : List V → Hp → Prop, (∀ vs H2, Same H1 H2 → Dts K H2 ds vs → Q vs H2) → ta σ H1 Q
def EvO (K : PySem.W.Frag) (to : TO) (σ : St) (H : Hp) (o : Option Int) : Prop := ∀ H1, Same H H1 → ∀ Q : Option Int → Hp → Prop, (∀ H2, Same H1 H2 → Q o H2) → to σ H1 Q

section
variable {K : PySem.W.Frag} {σ : St} {H H' : Hp} {ta tb te tx : TE} {t u : TT} {d e : D}

theorem Ev.mono (s : Same H H') (h : Ev K te σ H d) : Ev K te σ H' d := fun H1 a Q q => h H1 (s.trans a) Q q
theorem EvN.mono {ds : List D} (s : Same H H') (h : EvN K te σ H ds) : EvN K te σ H' ds := fun H1 a Q q => h H1 (s.trans a) Q q
theorem EvT.mono {b : Bool} (s : Same H H') (h : EvT K t σ H b) : EvT K t σ H' b := fun H1 a Q q => h H1 (s.trans a) Q q
theorem EvA.mono {t : TA} {ds : List D} (s : Same H H') (h : EvA K t σ H ds) : EvA K t σ H' ds := fun H1 a Q q => h H1 (s.trans a) Q q
theorem EvN.ev {ds : List D} (h : EvN K te σ H ds) : Ev K te σ H (.lst ds) := fun H1 a Q q => h H1 a Q fun p vs H2 _ s hp hd => q _ _ s ⟨p, vs, rfl, hp, hd⟩
theorem Ev.to (h : Ev K te σ H d) (q : d = e) : Ev K te σ H e := by rw [← q]; exact h
theorem EvN.to {ds es : List D} (h : EvN K te σ H ds) (q : ds = es) : EvN K te σ H es := by rw [← q]; exact h
theorem EvT.to {a b : Bool} (h : EvT K t σ H a) (q : a = b) : EvT K t σ H b := by rw [← q]; exact h
theorem EvA.to {t : TA} {ds es : List D} (h : EvA K t σ H ds) (q : ds = es) : EvA K t σ H es := by rw [← q]; exact h

/-! ### names, constants -/
theorem ev_var {ds : List (Option D)} {i : Nat} (s : Sl K H ds σ) (h : ds[i]? = some (some d)) : Ev K (tVar i) σ H d := fun H1 a Q q => by
  obtain ⟨v, h1, h2⟩ := (s.mono a).get h
  exact ⟨v, h1, q v H1 (Same.refl H1) h2⟩
theorem ev_int {i : Int} : Ev K (tC (.int i)) σ H (.int i) := fun H1 _ Q q => q _ H1 (Same.refl H1) rfl
theorem ev_bl {b : Bool} : Ev K (tC (.bl b)) σ H (.bl b) := fun H1 _ Q q => q _ H1 (Same.refl H1) rfl
theorem ev_non : Ev K (tC .non) σ H .non := fun H1 _ Q q => q _ H1 (Same.refl H1) rfl
theorem ev_str {x : Str} : Ev K (tC (.str x)) σ H (.str x.cps.toList) := fun H1 _ Q q => q _ H1 (Same.refl H1) (by show V.str x = .str (S x.cps.toList); rw [S_of])
theorem ev_c {v : V} : Ev K (tC v) σ H (.raw v) := fun H1 _ Q q => q _ H1 (Same.refl H1) rfl
/-- a local list whose address is known -/
theorem ev_own {l : Addr} {vs : List V} {ds : List D} (h : Ev K te σ H (.raw (.ref l))) (hl : H l = some (.lst vs)) (hd : Dts K H ds vs) : Ev K te σ H (.lst ds) := fun H1 a Q q =>
  h H1 a Q fun v H2 s hv => q v H2 s ⟨l, vs, hv, (a.trans s) _ _ hl, Dts.mono (a.trans s) ds hd⟩

/-! ### arguments, displays -/
theorem ea_nil : EvA K tNil σ H [] := fun H1 _ Q q => q [] H1 (Same.refl H1) rfl
theorem ea_cons {tr : TA} {ds : List D} (h : Ev K ta σ H d) (hr : EvA K tr σ H ds) : EvA K (tCons ta tr) σ H (d :: ds) := fun H1 a Q q =>
  h H1 a _ fun v H2 s2 hv => hr H2 (a.trans s2) _ fun vs H3 s3 hvs => q _ H3 (s2.trans s3) ⟨v, vs, rfl, Dt.mono s3 d hv, hvs⟩
theorem ev_tup {t : TA} {ds : List D} (h : EvA K t σ H ds) (hz : ds.length ≤ 100000) : Ev K (tTup t) σ H (.tup ds) := fun H1 a Q q =>
  h H1 a _ fun vs H2 s2 hvs => ⟨small (by rw [hvs.len]; exact hz), fun p hp => q _ _ (s2.trans (Same.new hp)) ⟨p, vs, rfl, upd_same, Dts.mono (Same.new hp) ds hvs⟩⟩
theorem en_lst {t : TA} {ds : List D} (h : EvA K t σ H ds) (hz : ds.length ≤ 100000) : EvN K (tLst t) σ H ds := fun H1 a Q q =>
  h H1 a _ fun vs H2 s2 hvs => ⟨small (by rw [hvs.len]; exact hz), fun p hp => q p vs _ (s2.free hp) (s2.trans (Same.new hp)) upd_same (Dts.mono (Same.new hp) ds hvs)⟩
theorem ev_lst {t : TA} {ds : List D} (h : EvA K t σ H ds) (hz : ds.length ≤ 100000) : Ev K (tLst t) σ H (.lst ds) := (en_lst h hz).ev

/-! ### two-place operations -/
theorem ev_op {r : R2} {z : D} (ha : Ev K ta σ H d) (hb : Ev K tb σ H e) (hr : ∀ v w H1, Same H H1 → Dt K H1 d v → Dt K H1 e w → ∀ Q : VK, (∀ x H2, Same H1 H2 → Dt K H2 z x → Q x H2) → r v w H1 Q) : Ev K (tOp r ta tb) σ H z := fun H1 a Q q =>
  ha H1 a _ fun v H2 s2 hv => hb H2 (a.trans s2) _ fun w H3 s3 hw => hr v w H3 ((a.trans s2).trans s3) (Dt.mono s3 d hv) hw Q fun x H4 s4 hx => q x H4 ((s2.trans s3).trans s4) hx
theorem ev_I0 {i j : Int} {z : D} {g : Int → Int → V} (ha : Ev K ta σ H (.int i)) (hb : Ev K tb σ H (.int j)) (hz : ∀ H, Dt K H z (g i j)) : Ev K (tOp (rI0 g) ta tb) σ H z :=
  ev_op ha hb fun v w H1 _ hv hw Q q => ⟨i, j, hv, hw, q _ _ (Same.refl _) (hz _)⟩
theorem ev_I {i j : Int} {z : D} {C : Int → Int → Prop} {g : Int → Int → V} (ha : Ev K ta σ H (.int i)) (hb : Ev K tb σ H (.int j)) (hc : C i j) (hz : ∀ H, Dt K H z (g i j)) : Ev K (tOp (rI C g) ta tb) σ H z :=
  ev_op ha hb fun v w H1 _ hv hw Q q => ⟨i, j, hv, hw, hc, q _ _ (Same.refl _) (hz _)⟩
theorem ev_add {i j : Int} (ha : Ev K ta σ H (.int i)) (hb : Ev K tb σ H (.int j)) : Ev K (tOp (rI0 fun i j => .int (i + j)) ta tb) σ H (.int (i + j)) := ev_I0 ha hb fun _ => rfl
theorem ev_sub {i j : Int} (ha : Ev K ta σ H (.int i)) (hb : Ev K tb σ H (.int j)) : Ev K (tOp (rI0 fun i j => .int (i - j)) ta tb) σ H (.int (i - j)) := ev_I0 ha hb fun _ => rfl
theorem ev_lt {i j : Int} (ha : Ev K ta σ H (.int i)) (hb : Ev K tb σ H (.int j)) : Ev K (tOp (rI0 fun i j => .bl (decide (i < j))) ta tb) σ H (.bl (decide (i < j))) := ev_I0 ha hb fun _ => rfl
theorem ev_le {i j : Int} (ha : Ev K ta σ H (.int i)) (hb : Ev K tb σ H (.int j)) : Ev K (tOp (rI0 fun i j => .bl (decide (i ≤ j))) ta tb) σ H (.bl (decide (i ≤ j))) := ev_I0 ha hb fun _ => rfl
theorem ev_gt {i j : Int} (ha : Ev K ta σ H (.int i)) (hb : Ev K tb σ H (.int j)) : Ev K (tOp (rI0 fun i j => .bl (decide (j < i))) ta tb) σ H (.bl (decide (j < i))) := ev_I0 ha hb fun _ => rfl
theorem ev_ge {i j : Int} (ha : Ev K ta σ H (.int i)) (hb : Ev K tb σ H (.int j)) : Ev K (tOp (rI0 fun i j => .bl (decide (j ≤ i))) ta tb) σ H (.bl (decide (j ≤ i))) := ev_I0 ha hb fun _ => rfl
theorem ev_mul {i j : Int} (ha : Ev K ta σ H (.int i)) (hb : Ev K tb σ H (.int j)) (hc : CMul i j) : Ev K (tOp (rI CMul fun i j => .int (i * j)) ta tb) σ H (.int (i * j)) := ev_I ha hb hc fun _ => rfl
theorem ev_fdiv {i j : Int} (ha : Ev K ta σ H (.int i)) (hb : Ev K tb σ H (.int j)) (hc : CDiv i j) : Ev K (tOp (rI CDiv fun i j => .int (i / j)) ta tb) σ H (.int (i / j)) := ev_I ha hb hc fun _ => rfl
theorem ev_mod {i j : Int} (ha : Ev K ta σ H (.int i)) (hb : Ev K tb σ H (.int j)) (hc : 0 < j) : Ev K (tOp (rI (fun _ j => 0 < j) fun i j => .int (i % j)) ta tb) σ H (.int (i % j)) := ev_I (C := fun _ j => 0 < j) ha hb hc fun _ => rfl
theorem ev_addS {a b : Tx} (ha : Ev K ta σ H (.str a)) (hb : Ev K tb σ H (.str b)) (hz : a.length + b.length ≤ 100000) : Ev K (tOp (fun x y H Q => ∃ i j, x = .str i ∧ y = .str j ∧ i.length + j.length ≤ sizeLine ∧ Q (.str (i ++ j)) H) ta tb) σ H (.str (a ++ b)) :=
  ev_op ha hb fun v w H1 _ hv hw Q q => ⟨S a, S b, hv, hw, by rw [S_len, S_len]; exact small hz, q _ _ (Same.refl _) (by show V.str (S a ++ S b) = .str (S (a ++ b)); rw [S_app])⟩
theorem ev_eqS {a b : Tx} (ha : Ev K ta σ H (.str a)) (hb : Ev K tb σ H (.str b)) : Ev K (tOp rEq ta tb) σ H (.bl (decide (a = b))) :=
  ev_op ha hb fun v w H1 _ hv hw Q q => by
    rw [show v = .str (S a) from hv, show w = .str (S b) from hw]
    refine ⟨rfl, q _ _ (Same.refl _) ?_⟩
    show V.bl _ = V.bl _
    congr 1
    exact decide_eq_decide.mpr ⟨fun h => S_inj (V.str.inj h), fun h => by rw [h]⟩
theorem ev_neS {a b : Tx} (ha : Ev K ta σ H (.str a)) (hb : Ev K tb σ H (.str b)) : Ev K (tOp rNe ta tb) σ H (.bl (!decide (a = b))) :=
  ev_op ha hb fun v w H1 _ hv hw Q q => by
    rw [show v = .str (S a) from hv, show w = .str (S b) from hw]
    refine ⟨rfl, q _ _ (Same.refl _) ?_⟩
    show V.bl _ = V.bl _
    congr 2
    exact decide_eq_decide.mpr ⟨fun h => S_inj (V.str.inj h), fun h => by rw [h]⟩
theorem ev_eqI {a b : Int} (ha : Ev K ta σ H (.int a)) (hb : Ev K tb σ H (.int b)) : Ev K (tOp rEq ta tb) σ H (.bl (decide (a = b))) :=
  ev_op ha hb fun v w H1 _ hv hw Q q => by
    rw [show v = .int a from hv, show w = .int b from hw]
    refine ⟨rfl, q _ _ (Same.refl _) ?_⟩
    show V.bl _ = V.bl _
    congr 1
    exact decide_eq_decide.mpr ⟨fun h => V.int.inj h, fun h => by rw [h]⟩
theorem ev_neI {a b : Int} (ha : Ev K ta σ H (.int a)) (hb : Ev K tb σ H (.int b)) : Ev K (tOp rNe ta tb) σ H (.bl (!decide (a = b))) :=
  ev_op ha hb fun v w H1 _ hv hw Q q => by
    rw [show v = .int a from hv, show w = .int b from hw]
    refine ⟨rfl, q _ _ (Same.refl _) ?_⟩
    show V.bl _ = V.bl _
    congr 2
    exact decide_eq_decide.mpr ⟨fun h => V.int.inj h, fun h => by rw [h]⟩
theorem ev_neB {a b : Bool} (ha : Ev K ta σ H (.bl a)) (hb : Ev K tb σ H (.bl b)) : Ev K (tOp rNe ta tb) σ H (.bl (!decide (a = b))) :=
  ev_op ha hb fun v w H1 _ hv hw Q q => by
    rw [show v = .bl a from hv, show w = .bl b from hw]
    refine ⟨rfl, q _ _ (Same.refl _) ?_⟩
    show V.bl _ = V.bl _
    congr 2
    exact decide_eq_decide.mpr ⟨fun h => V.bl.inj h, fun h => by rw [h]⟩
theorem ev_eqB {a b : Bool} (ha : Ev K ta σ H (.bl a)) (hb : Ev K tb σ H (.bl b)) : Ev K (tOp rEq ta tb) σ H (.bl (decide (a = b))) :=
  ev_op ha hb fun v w H1 _ hv hw Q q => by
    rw [show v = .bl a from hv, show w = .bl b from hw]
    refine ⟨rfl, q _ _ (Same.refl _) ?_⟩
    show V.bl _ = V.bl _
    congr 1
    exact decide_eq_decide.mpr ⟨fun h => V.bl.inj h, fun h => by rw [h]⟩
theorem ev_ltS {a b : Tx} (ha : Ev K ta σ H (.str a)) (hb : Ev K tb σ H (.str b)) : Ev K (tOp (fun x y H Q => ∃ i j, x = .str i ∧ y = .str j ∧ Q (.bl (decide (i.cps.toList < j.cps.toList))) H) ta tb) σ H (.bl (decide (a < b))) :=
  ev_op ha hb fun v w H1 _ hv hw Q q => ⟨S a, S b, hv, hw, q _ _ (Same.refl _) (by show V.bl _ = V.bl _; simp only [S_cps])⟩
theorem ev_leS {a b : Tx} (ha : Ev K ta σ H (.str a)) (hb : Ev K tb σ H (.str b)) : Ev K (tOp (fun x y H Q => ∃ i j, x = .str i ∧ y = .str j ∧ Q (.bl (!decide (j.cps.toList < i.cps.toList))) H) ta tb) σ H (.bl (!decide (b < a))) :=
  ev_op ha hb fun v w H1 _ hv hw Q q => ⟨S a, S b, hv, hw, q _ _ (Same.refl _) (by show V.bl _ = V.bl _; simp only [S_cps])⟩
theorem ev_gtS {a b : Tx} (ha : Ev K ta σ H (.str a)) (hb : Ev K tb σ H (.str b)) : Ev K (tOp (fun x y H Q => ∃ i j, x = .str i ∧ y = .str j ∧ Q (.bl (decide (j.cps.toList < i.cps.toList))) H) ta tb) σ H (.bl (decide (b < a))) :=
  ev_op ha hb fun v w H1 _ hv hw Q q => ⟨S a, S b, hv, hw, q _ _ (Same.refl _) (by show V.bl _ = V.bl _; simp only [S_cps])⟩
theorem ev_geS {a b : Tx} (ha : Ev K ta σ H (.str a)) (hb : Ev K tb σ H (.str b)) : Ev K (tOp (fun x y H Q => ∃ i j, x = .str i ∧ y = .str j ∧ Q (.bl (!decide (i.cps.toList < j.cps.toList))) H) ta tb) σ H (.bl (!decide (a < b))) :=
  ev_op ha hb fun v w H1 _ hv hw Q q => ⟨S a, S b, hv, hw, q _ _ (Same.refl _) (by show V.bl _ = V.bl _; simp only [S_cps])⟩
/-- is None -/
def D.isNon : D → Bool
  | .non => true
  | .raw v => decide (v = .non)
  | _ => false
theorem Dt.isNon : ∀ {d : D} {v : V}, Dt K H d v → decide (v = .non) = d.isNon
  | .non, _, h => by rw [show _ = V.non from h]; rfl
  | .bl _, _, h => by rw [show _ = V.bl _ from h]; rfl
  | .int _, _, h => by rw [show _ = V.int _ from h]; rfl
  | .str _, _, h => by rw [show _ = V.str _ from h]; rfl
  | .raw _, _, h => by rw [show _ = _ from h]; rfl
  | .tup _, _, ⟨_, _, h, _⟩ => by rw [h]; rfl
  | .lst _, _, ⟨_, _, h, _⟩ => by rw [h]; rfl
  | .scr _, _, ⟨_, h, _⟩ => by rw [h]; rfl
theorem ev_isN (ha : Ev K ta σ H d) : Ev K (tOp (fun x y H Q => y = .non ∧ Q (.bl (decide (x = .non))) H) ta (tC .non)) σ H (.bl d.isNon) :=
  ev_op ha ev_non fun v w H1 _ hv hw Q q => ⟨hw, q _ _ (Same.refl _) (by rw [hv.isNon]; rfl)⟩
theorem ev_notN (ha : Ev K ta σ H d) : Ev K (tOp (fun x y H Q => y = .non ∧ Q (.bl (!decide (x = .non))) H) ta (tC .non)) σ H (.bl (!d.isNon)) :=
  ev_op ha ev_non fun v w H1 _ hv hw Q q => ⟨hw, q _ _ (Same.refl _) (by rw [hv.isNon]; rfl)⟩

/-! ### items, slices, len -/
theorem atI_dts {ds : List D} {vs : List V} {i : Int} (h : Dts K H ds vs) (e : atI ds i = some d) : ∃ v, atI vs i = some v ∧ Dt K H d v := by
  unfold atI at e ⊢
  rw [h.len]
  cases hx : ixN ds.length i with
  | none => rw [hx] at e; cases e
  | some j => rw [hx] at e; exact h.get e
theorem ev_ixT {ds : List D} {i : Int} (ha : Ev K ta σ H (.tup ds)) (hb : Ev K tb σ H (.int i)) (h : atI ds i = some d) : Ev K (tOp (rIxT K) ta tb) σ H d :=
  ev_op ha hb fun v w H1 _ ⟨a, vs, h1, h2, h3⟩ hw Q q => by
    obtain ⟨x, h4, h5⟩ := atI_dts h3 h
    exact ⟨a, vs, i, x, h1, hw, SqT.of h2, h4, q _ _ (Same.refl _) h5⟩
theorem ev_ixL {ds : List D} {i : Int} (ha : Ev K ta σ H (.lst ds)) (hb : Ev K tb σ H (.int i)) (h : atI ds i = some d) : Ev K (tOp (rIxL K) ta tb) σ H d :=
  ev_op ha hb fun v w H1 _ ⟨a, vs, h1, h2, h3⟩ hw Q q => by
    obtain ⟨x, h4, h5⟩ := atI_dts h3 h
    exact ⟨a, vs, i, x, h1, hw, SqL.of h2, h4, q _ _ (Same.refl _) h5⟩
theorem ev_ixS {l : Tx} {i : Int} {c : Nat} (ha : Ev K ta σ H (.str l)) (hb : Ev K tb σ H (.int i)) (hz : l.length ≤ 100000) (h : atI l i = some c) : Ev K (tOp rIxS ta tb) σ H (.str [c]) :=
  ev_op ha hb fun v w H1 _ hv hw Q q => ⟨S l, i, c, hv, hw, by rw [S_len]; exact small hz, by rw [S_cps]; exact h, q _ _ (Same.refl _) rfl⟩
theorem ev_ixR {ns : List Int} {i z : Int} (ha : Ev K ta σ H (.scr ns)) (hb : Ev K tb σ H (.int i)) (h : atI ns i = some z) : Ev K (tOp (rIxL K) ta tb) σ H (.int z) :=
  ev_op ha hb fun v w H1 _ ⟨a, h1, h2⟩ hw Q q => by
    refine ⟨a, ns.map V.int, i, .int z, h1, hw, h2.sql, ?_, q _ _ (Same.refl _) rfl⟩
    unfold atI at h ⊢
    rw [List.length_map]
    cases hx : ixN ns.length i with
    | none => rw [hx] at h; cases h
    | some j =>
      rw [hx] at h
      show (ns.map V.int)[j]? = some (.int z)
      rw [List.getElem?_map, show ns[j]? = some z from h]; rfl
theorem eo_none : EvO K tNoPart σ H none := fun H1 _ _ q => q H1 (Same.refl H1)
theorem eo_some {i : Int} (h : Ev K te σ H (.int i)) : EvO K (tPart te) σ H (some i) := fun H1 a _ q => h H1 a _ fun v H2 s hv => ⟨i, hv, q H2 s⟩
theorem ev_slS {l : Tx} {tl th : TO} {lo hi : Option Int} (h : Ev K te σ H (.str l)) (h1 : EvO K tl σ H lo) (h2 : EvO K th σ H hi) (hz : l.length ≤ 100000) : Ev K (tSl rSlS te tl th) σ H (.str (cutL l lo hi)) := fun H1 a Q q =>
  h H1 a _ fun v H2 s2 hv => h1 H2 (a.trans s2) _ fun H3 s3 => h2 H3 ((a.trans s2).trans s3) _ fun H4 s4 =>
    ⟨S l, hv, by rw [S_len]; exact small hz, q _ H4 ((s2.trans s3).trans s4) (by show V.str (cutS (S l) lo hi) = _; rw [S_cut])⟩
theorem ev_slTo {l : Tx} {i : Int} (n : Nat) (h : Ev K te σ H (.str l)) (h2 : Ev K tb σ H (.int i)) (e : i = (n : Int)) (hz : l.length ≤ 100000) : Ev K (tSl rSlS te tNoPart (tPart tb)) σ H (.str (l.take n)) := by
  have q := ev_slS h eo_none (eo_some h2) hz
  rw [e, cutL_to] at q
  exact q
theorem ev_slFrom {l : Tx} {i : Int} (n : Nat) (h : Ev K te σ H (.str l)) (h2 : Ev K tb σ H (.int i)) (e : i = (n : Int)) (hz : l.length ≤ 100000) : Ev K (tSl rSlS te (tPart tb) tNoPart) σ H (.str (l.drop n)) := by
  have q := ev_slS h (eo_some h2) eo_none hz
  rw [e, cutL_from] at q
  exact q
theorem ev_slNN {l : Tx} {i j : Int} (n m : Nat) (h : Ev K te σ H (.str l)) (h1 : Ev K ta σ H (.int i)) (h2 : Ev K tb σ H (.int j)) (e1 : i = (n : Int)) (e2 : j = ((n + m : Nat) : Int)) (hz : l.length ≤ 100000) : Ev K (tSl rSlS te (tPart ta) (tPart tb)) σ H (.str ((l.drop n).take m)) := by
  have q := ev_slS h (eo_some h1) (eo_some h2) hz
  rw [e1, e2, cutL_nn, Nat.add_sub_cancel_left] at q
  exact q
def cutD (ds : List D) (lo hi : Option Int) : List D := (ds.drop (HT.sIx ds.length 0 lo)).take (HT.sIx ds.length ds.length hi - HT.sIx ds.length 0 lo)
theorem cut_dts {ds : List D} {vs : List V} (h : Dts K H ds vs) (lo hi : Option Int) : Dts K H (cutD ds lo hi) (cutV vs lo hi) := by
  unfold cutD cutV
  rw [h.len]
  exact Dts.take _ (Dts.drop _ h)
theorem en_slL {ds : List D} {tl th : TO} {lo hi : Option Int} (h : Ev K te σ H (.lst ds)) (h1 : EvO K tl σ H lo) (h2 : EvO K th σ H hi) : EvN K (tSl (rSlL K) te tl th) σ H (cutD ds lo hi) := fun H1 a Q q =>
  h H1 a _ fun v H2 s2 ⟨b, vs, e1, e2, e3⟩ => h1 H2 (a.trans s2) _ fun H3 s3 => h2 H3 ((a.trans s2).trans s3) _ fun H4 s4 =>
    ⟨b, vs, e1, SqL.of ((s3.trans s4) _ _ e2), fun p hp => q p _ _ (((s2.trans s3).trans s4).free hp) (((s2.trans s3).trans s4).trans (Same.new hp)) upd_same
      (Dts.mono ((s3.trans s4).trans (Same.new hp)) _ (cut_dts e3 lo hi))⟩
theorem ev_cb {r : List V → Hp → VK → Prop} {t : TA} {ds : List D} {z : D} (h : EvA K t σ H ds) (hr : ∀ vs H1, Same H H1 → Dts K H1 ds vs → ∀ Q : VK, (∀ x H2, Same H1 H2 → Dt K H2 z x → Q x H2) → r vs H1 Q) : Ev K (tCB r t) σ H z := fun H1 a Q q =>
  h H1 a _ fun vs H2 s2 hvs => hr vs H2 (a.trans s2) hvs Q fun x H3 s3 hx => q x H3 (s2.trans s3) hx
theorem en_cb {r : List V → Hp → VK → Prop} {t : TA} {ds : List D} {zs : List D} (h : EvA K t σ H ds) (hr : ∀ vs H1, Same H H1 → Dts K H1 ds vs → ∀ Q : VK, (∀ p ws H2, H1 p = none → Same H1 H2 → H2 p = some (.lst ws) → Dts K H2 zs ws → Q (.ref p) H2) → r vs H1 Q) : EvN K (tCB r t) σ H zs := fun H1 a Q q =>
  h H1 a _ fun vs H2 s2 hvs => hr vs H2 (a.trans s2) hvs Q fun p ws H3 hp s3 h1 h2 => q p ws H3 (s2.free hp) (s2.trans s3) h1 h2
theorem ev_lenS {l : Tx} (ha : Ev K ta σ H (.str l)) (hz : l.length ≤ 100000) : Ev K (tCB (fun xs H Q => ∃ z, xs = [.str z] ∧ z.length ≤ sizeLine ∧ Q (.int z.length) H) (tCons ta tNil)) σ H (.int (l.length : Int)) :=
  ev_cb (ea_cons ha ea_nil) fun vs H1 _ ⟨v, r, h1, h2, h3⟩ Q q => ⟨S l, by rw [h1, show v = .str (S l) from h2, show r = [] from h3], by rw [S_len]; exact small hz, q _ _ (Same.refl _) (by rw [S_len]; rfl)⟩
theorem ev_lenL {ds : List D} (ha : Ev K ta σ H (.lst ds)) : Ev K (tCB (fun xs H Q => ∃ p ys, xs = [.ref p] ∧ (SqL K H p ys ∨ SqT K H p ys) ∧ Q (.int ys.length) H) (tCons ta tNil)) σ H (.int (ds.length : Int)) :=
  ev_cb (ea_cons ha ea_nil) fun vs H1 _ ⟨v, r, h1, ⟨a, ws, e1, e2, e3⟩, h3⟩ Q q => ⟨a, ws, by rw [h1, e1, show r = [] from h3], .inl (SqL.of e2), q _ _ (Same.refl _) (by rw [e3.len]; rfl)⟩
theorem ev_lenT {ds : List D} (ha : Ev K ta σ H (.tup ds)) : Ev K (tCB (fun xs H Q => ∃ p ys, xs = [.ref p] ∧ (SqL K H p ys ∨ SqT K H p ys) ∧ Q (.int ys.length) H) (tCons ta tNil)) σ H (.int (ds.length : Int)) :=
  ev_cb (ea_cons ha ea_nil) fun vs H1 _ ⟨v, r, h1, ⟨a, ws, e1, e2, e3⟩, h3⟩ Q q => ⟨a, ws, by rw [h1, e1, show r = [] from h3], .inr (SqT.of e2), q _ _ (Same.refl _) (by rw [e3.len]; rfl)⟩
theorem ev_lenR {ns : List Int} (ha : Ev K ta σ H (.scr ns)) : Ev K (tCB (fun xs H Q => ∃ p ys, xs = [.ref p] ∧ (SqL K H p ys ∨ SqT K H p ys) ∧ Q (.int ys.length) H) (tCons ta tNil)) σ H (.int (ns.length : Int)) :=
  ev_cb (ea_cons ha ea_nil) fun vs H1 _ ⟨v, r, h1, ⟨a, e1, e2⟩, h3⟩ Q q => ⟨a, _, by rw [h1, e1, show r = [] from h3], .inl e2.sql, q _ _ (Same.refl _) (by rw [List.length_map]; rfl)⟩
theorem ev_tuple {ds : List D} (ha : Ev K ta σ H (.lst ds)) : Ev K (tCB (fun xs H Q => ∃ p ys, xs = [.ref p] ∧ ((SqL K H p ys ∧ ∀ l, H l = none → Q (.ref l) (upd H l (.tup ys))) ∨ (SqT K H p ys ∧ Q (.ref p) H))) (tCons ta tNil)) σ H (.tup ds) :=
  ev_cb (ea_cons ha ea_nil) fun vs H1 _ ⟨v, r, h1, ⟨a, ws, e1, e2, e3⟩, h3⟩ Q q => ⟨a, ws, by rw [h1, e1, show r = [] from h3], .inl ⟨SqL.of e2, fun l hl => q _ _ (Same.new hl) ⟨l, ws, rfl, upd_same, Dts.mono (Same.new hl) ds e3⟩⟩⟩
theorem en_cat {ds es : List D} (ha : Ev K ta σ H (.lst ds)) (hb : Ev K tb σ H (.lst es)) (hz : ds.length + es.length ≤ 100000) : EvN K (tOp rCat ta tb) σ H (ds ++ es) := fun H1 a Q q =>
  ha H1 a _ fun v H2 s2 ⟨b, vs, e1, e2, e3⟩ => hb H2 (a.trans s2) _ fun w H3 s3 ⟨c, ws, f1, f2, f3⟩ =>
    ⟨b, c, vs, ws, e1, f1, s3 _ _ e2, f2, by rw [e3.len, f3.len]; exact small hz, fun p hp => q p _ _ ((s2.trans s3).free hp) ((s2.trans s3).trans (Same.new hp)) upd_same
      (Dts.app (Dts.mono (s3.trans (Same.new hp)) _ e3) (Dts.mono (Same.new hp) _ f3))⟩

/-! ### isinstance -/
def D.ty : D → Option String
  | .non => some "NoneType"
  | .bl _ => some "bool"
  | .int _ => some "int"
  | .str _ => some "str"
  | .tup _ => some "tuple"
  | .lst _ => some "list"
  | _ => none
theorem Dt.tyx {d : D} {v : V} {n : String} (h : Dt K H d v) (e : d.ty = some n) : TyX K H v (.type n) := by
  cases d with
  | non => rw [show v = V.non from h, ← Option.some.inj e]; exact .base .non
  | bl b => rw [show v = V.bl b from h, ← Option.some.inj e]; exact .base (.bl _)
  | int b => rw [show v = V.int b from h, ← Option.some.inj e]; exact .base (.int _)
  | str b => rw [show v = V.str (S b) from h, ← Option.some.inj e]; exact .base (.str _)
  | tup ds => obtain ⟨a, vs, h1, h2, _⟩ := h; rw [h1, ← Option.some.inj e]; exact .base (.tup h2)
  | lst ds => obtain ⟨a, vs, h1, h2, _⟩ := h; rw [h1, ← Option.some.inj e]; exact .base (.lst h2)
  | raw w => exact absurd e (by intro q; cases q)
  | scr ns => exact absurd e (by intro q; cases q)
theorem ev_isi {m n : String} {b : Bool} (ha : Ev K ta σ H d) (h : d.ty = some n) (hb : kitB n m = some b) : Ev K (tCB (rIsi K) (tCons ta (tCons (tC (.ty m)) tNil))) σ H (.bl b) :=
  ev_cb (ea_cons ha (ea_cons ev_c ea_nil)) fun vs H1 _ ⟨v, r, h1, hv, w, r2, h3, hw, h5⟩ Q q =>
    ⟨v, .ty m, .type n, .type m, b, by rw [h1, h3, show w = .ty m from hw, show r2 = [] from h5], .ty m, hv.tyx h, kit_ty hb, q _ _ (Same.refl _) rfl⟩

/-! the answers of isinstance -/
theorem kit_NoneType_str : kitB "NoneType" "str" = some false := by decide +kernel
theorem kit_NoneType_int : kitB "NoneType" "int" = some false := by decide +kernel
theorem kit_NoneType_bool : kitB "NoneType" "bool" = some false := by decide +kernel
theorem kit_NoneType_tuple : kitB "NoneType" "tuple" = some false := by decide +kernel
theorem kit_NoneType_list : kitB "NoneType" "list" = some false := by decide +kernel
theorem kit_bool_str : kitB "bool" "str" = some false := by decide +kernel
theorem kit_bool_int : kitB "bool" "int" = some true := by decide +kernel
theorem kit_bool_bool : kitB "bool" "bool" = some true := by decide +kernel
theorem kit_bool_tuple : kitB "bool" "tuple" = some false := by decide +kernel
theorem kit_bool_list : kitB "bool" "list" = some false := by decide +kernel
theorem kit_int_str : kitB "int" "str" = some false := by decide +kernel
theorem kit_int_int : kitB "int" "int" = some true := by decide +kernel
theorem kit_int_bool : kitB "int" "bool" = some false := by decide +kernel
theorem kit_int_tuple : kitB "int" "tuple" = some false := by decide +kernel
theorem kit_int_list : kitB "int" "list" = some false := by decide +kernel
theorem kit_str_str : kitB "str" "str" = some true := by decide +kernel
theorem kit_str_int : kitB "str" "int" = some false := by decide +kernel
theorem kit_str_bool : kitB "str" "bool" = some false := by decide +kernel
theorem kit_str_tuple : kitB "str" "tuple" = some false := by decide +kernel
theorem kit_str_list : kitB "str" "list" = some false := by decide +kernel
theorem kit_tuple_str : kitB "tuple" "str" = some false := by decide +kernel
theorem kit_tuple_int : kitB "tuple" "int" = some false := by decide +kernel
theorem kit_tuple_bool : kitB "tuple" "bool" = some false := by decide +kernel
theorem kit_tuple_tuple : kitB "tuple" "tuple" = some true := by decide +kernel
theorem kit_tuple_list : kitB "tuple" "list" = some false := by decide +kernel
theorem kit_list_str : kitB "list" "str" = some false := by decide +kernel
theorem kit_list_int : kitB "list" "int" = some false := by decide +kernel
theorem kit_list_bool : kitB "list" "bool" = some false := by decide +kernel
theorem kit_list_tuple : kitB "list" "tuple" = some false := by decide +kernel
theorem kit_list_list : kitB "list" "list" = some true := by decide +kernel

/-! ### tests -/
theorem et_test {b : Bool} (h : Ev K te σ H (.bl b)) : EvT K (tTest te) σ H b := fun H1 a _ q => h H1 a _ fun v H2 s hv => ⟨b, hv, q H2 s⟩
theorem et_B {b : Bool} (h : Ev K te σ H (.bl b)) : EvT K (tB te) σ H b := fun H1 a _ q => h H1 a _ fun v H2 s hv => ⟨b, hv, q H2 s⟩
theorem et_and {a b : Bool} (h1 : EvT K t σ H a) (h2 : a = true → EvT K u σ H b) : EvT K (tAnd t u) σ H (a && b) := fun H1 e Q q => h1 H1 e _ fun H2 e2 => by
  cases a with
  | true => show u σ H2 Q; exact h2 rfl H2 (e.trans e2) Q fun H3 e3 => q H3 (e2.trans e3)
  | false => show Q false H2; exact q H2 e2
theorem et_or {a b : Bool} (h1 : EvT K t σ H a) (h2 : a = false → EvT K u σ H b) : EvT K (tOr t u) σ H (a || b) := fun H1 e Q q => h1 H1 e _ fun H2 e2 => by
  cases a with
  | true => show Q true H2; exact q H2 e2
  | false => show u σ H2 Q; exact h2 rfl H2 (e.trans e2) Q fun H3 e3 => q H3 (e2.trans e3)
theorem et_not {a : Bool} (h1 : EvT K t σ H a) : EvT K (tNot t) σ H (!a) := fun H1 e _ q => h1 H1 e _ fun H2 e2 => q H2 e2
theorem et_orT (h1 : EvT K t σ H true) : EvT K (tOr t u) σ H true := fun H1 e Q q => h1 H1 e _ fun H2 e2 => by
  show Q true H2; exact q H2 e2
theorem et_orF {b : Bool} (h1 : EvT K t σ H false) (h2 : EvT K u σ H b) : EvT K (tOr t u) σ H b := fun H1 e Q q => h1 H1 e _ fun H2 e2 => by
  show u σ H2 Q; exact h2 H2 (e.trans e2) Q fun H3 e3 => q H3 (e2.trans e3)
theorem et_andT {b : Bool} (h1 : EvT K t σ H true) (h2 : EvT K u σ H b) : EvT K (tAnd t u) σ H b := fun H1 e Q q => h1 H1 e _ fun H2 e2 => by
  show u σ H2 Q; exact h2 H2 (e.trans e2) Q fun H3 e3 => q H3 (e2.trans e3)
theorem et_andF (h1 : EvT K t σ H false) : EvT K (tAnd t u) σ H false := fun H1 e Q q => h1 H1 e _ fun H2 e2 => by
  show Q false H2; exact q H2 e2
theorem ev_andT (h1 : Ev K ta σ H (.bl true)) (h2 : Ev K tb σ H d) : Ev K (tAndV ta tb) σ H d := fun H1 e Q q => h1 H1 e _ fun v H2 e2 hv => ⟨true, hv, by
  show tb σ H2 Q; exact h2 H2 (e.trans e2) Q fun w H3 e3 hw => q w H3 (e2.trans e3) hw⟩
theorem ev_andF (h1 : Ev K ta σ H (.bl false)) : Ev K (tAndV ta tb) σ H (.bl false) := fun H1 e Q q => h1 H1 e _ fun v H2 e2 hv => ⟨false, hv, by
  show Q (.bl false) H2; exact q _ H2 e2 rfl⟩
theorem ev_orT (h1 : Ev K ta σ H (.bl true)) : Ev K (tOrV ta tb) σ H (.bl true) := fun H1 e Q q => h1 H1 e _ fun v H2 e2 hv => ⟨true, hv, by
  show Q (.bl true) H2; exact q _ H2 e2 rfl⟩
theorem ev_orF (h1 : Ev K ta σ H (.bl false)) (h2 : Ev K tb σ H d) : Ev K (tOrV ta tb) σ H d := fun H1 e Q q => h1 H1 e _ fun v H2 e2 hv => ⟨false, hv, by
  show tb σ H2 Q; exact h2 H2 (e.trans e2) Q fun w H3 e3 hw => q w H3 (e2.trans e3) hw⟩
theorem ev_andV {a b : Bool} (h1 : Ev K ta σ H (.bl a)) (h2 : a = true → Ev K tb σ H (.bl b)) : Ev K (tAndV ta tb) σ H (.bl (a && b)) := by
  cases a with
  | true => exact ev_andT h1 (h2 rfl)
  | false => exact ev_andF h1
theorem ev_orV {a b : Bool} (h1 : Ev K ta σ H (.bl a)) (h2 : a = false → Ev K tb σ H (.bl b)) : Ev K (tOrV ta tb) σ H (.bl (a || b)) := by
  cases a with
  | false => exact ev_orF h1 (h2 rfl)
  | true => exact ev_orT h1
theorem ev_notV {a : Bool} (h1 : Ev K ta σ H (.bl a)) : Ev K (tNotV ta) σ H (.bl (!a)) := fun H1 e _ q => h1 H1 e _ fun v H2 e2 hv => ⟨a, hv, q _ H2 e2 rfl⟩

/-! ### defs -/
/-- a def that answers data and leaves what was tracked -/
def Fn (K : PySem.W.Frag) (R : List D → D → Prop) : Sp := fun vs H Q _ => ∃ ds d, Dts K H ds vs ∧ R ds d ∧ ∀ v H', Same H H' → Dt K H' d v → Q v H'
/-- .. a new list -/
def FnN (K : PySem.W.Frag) (R : List D → List D → Prop) : Sp := fun vs H Q _ => ∃ ds es, Dts K H ds vs ∧ R ds es ∧ ∀ p ws H', H p = none → Same H H' → H' p = some (.lst ws) → Dts K H' es ws → Q (.ref p) H'
theorem ev_call {R : List D → D → Prop} {t : TA} {ds : List D} {E : XK} (h : EvA K t σ H ds) (hR : R ds d) : Ev K (tCall (Fn K R) [] E t) σ H d := fun H1 a Q q =>
  h H1 a _ fun vs H2 s2 hvs => ⟨ds, d, by rw [List.append_nil]; exact hvs, hR, fun v H3 s3 hv => q v H3 (s2.trans s3) hv⟩
theorem en_call {R : List D → List D → Prop} {t : TA} {ds es : List D} {E : XK} (h : EvA K t σ H ds) (hR : R ds es) : EvN K (tCall (FnN K R) [] E t) σ H es := fun H1 a Q q =>
  h H1 a _ fun vs H2 s2 hvs => ⟨ds, es, by rw [List.append_nil]; exact hvs, hR, fun p ws H3 hp s3 h1 h2 => q p ws H3 (s2.free hp) (s2.trans s3) h1 h2⟩
theorem ev_callN {R : List D → List D → Prop} {t : TA} {ds es : List D} {E : XK} (h : EvA K t σ H ds) (hR : R ds es) : Ev K (tCall (FnN K R) [] E t) σ H (.lst es) := (en_call h hR).ev

/-! ### statements -/
variable {ds : List (Option D)} {E : Ends} {tu tw : TS}
theorem s_asg {i : Nat} (s : Sl K H ds σ) (h : Ev K te σ H d) (k : ∀ σ' H', Same H H' → Sl K H' (ds.set i (some d)) σ' → E.nx σ' H') : tAsg te (gName i) E σ H :=
  h H (Same.refl H) _ fun v H1 e hv => k _ H1 e ((s.mono e).set i hv)
theorem q_asg {i : Nat} (s : Sl K H ds σ) (h : Ev K te σ H d) (k : ∀ σ' H', Same H H' → Sl K H' (ds.set i (some d)) σ' → tu E σ' H') : tSeq (tAsg te (gName i)) tu E σ H := s_asg (E := { E with nx := tu E }) s h k
/-- a text, an int is given a name -/
theorem q_asgW {i : Nat} {w : Tx} (s : Sl K H ds σ) (h : Ev K te σ H (.str w)) (k : ∀ w' σ' H', w' = w → Same H H' → Sl K H' (ds.set i (some (.str w'))) σ' → tu E σ' H') : tSeq (tAsg te (gName i)) tu E σ H := q_asg s h fun σ' H' e s' => k w σ' H' rfl e s'
theorem q_asgI {i : Nat} {w : Int} (s : Sl K H ds σ) (h : Ev K te σ H (.int w)) (k : ∀ w' σ' H', w' = w → Same H H' → Sl K H' (ds.set i (some (.int w'))) σ' → tu E σ' H') : tSeq (tAsg te (gName i)) tu E σ H := q_asg s h fun σ' H' e s' => k w σ' H' rfl e s'
/-- a new local list, at its address -/
theorem s_asgN {i : Nat} {es : List D} (s : Sl K H ds σ) (h : EvN K te σ H es) (k : ∀ p vs σ' H', H p = none → Same H H' → H' p = some (.lst vs) → Dts K H' es vs → Sl K H' (ds.set i (some (.raw (.ref p)))) σ' → E.nx σ' H') : tAsg te (gName i) E σ H :=
  h H (Same.refl H) _ fun p vs H1 hp e h1 h2 => k p vs _ H1 hp e h1 h2 ((s.mono e).set i rfl)
theorem q_asgN {i : Nat} {es : List D} (s : Sl K H ds σ) (h : EvN K te σ H es) (k : ∀ p vs σ' H', H p = none → Same H H' → H' p = some (.lst vs) → Dts K H' es vs → Sl K H' (ds.set i (some (.raw (.ref p)))) σ' → tu E σ' H') : tSeq (tAsg te (gName i)) tu E σ H := s_asgN (E := { E with nx := tu E }) s h k
theorem s_ret (h : Ev K te σ H d) (k : ∀ v H', Same H H' → Dt K H' d v → E.rt v H') : tRet te E σ H := h H (Same.refl H) _ k
theorem s_retN {es : List D} (h : EvN K te σ H es) (k : ∀ p vs H', H p = none → Same H H' → H' p = some (.lst vs) → Dts K H' es vs → E.rt (.ref p) H') : tRet te E σ H := h H (Same.refl H) _ k
theorem s_if {b : Bool} (h : EvT K t σ H b) (h1 : b = true → ∀ H', Same H H' → tu E σ H') (h2 : b = false → ∀ H', Same H H' → tw E σ H') : tIfS t tu tw E σ H := h H (Same.refl H) _ fun H1 e => by
  cases b with
  | true => show tu E σ H1; exact h1 rfl H1 e
  | false => show tw E σ H1; exact h2 rfl H1 e
theorem q_if {b : Bool} {tv : TS} (h : EvT K t σ H b) (h1 : b = true → ∀ H', Same H H' → tu { E with nx := tv E } σ H') (h2 : b = false → ∀ H', Same H H' → tw { E with nx := tv E } σ H') : tSeq (tIfS t tu tw) tv E σ H := s_if (E := { E with nx := tv E }) h h1 h2
theorem s_ifT (h : EvT K t σ H true) (h1 : ∀ H', Same H H' → tu E σ H') : tIfS t tu tw E σ H := s_if h (fun _ => h1) (fun q => by cases q)
theorem s_ifF (h : EvT K t σ H false) (h1 : ∀ H', Same H H' → tw E σ H') : tIfS t tu tw E σ H := s_if h (fun q => by cases q) (fun _ => h1)
theorem q_ifT {tv : TS} (h : EvT K t σ H true) (h1 : ∀ H', Same H H' → tu { E with nx := tv E } σ H') : tSeq (tIfS t tu tw) tv E σ H := s_ifT (E := { E with nx := tv E }) h h1
theorem q_ifF {tv : TS} (h : EvT K t σ H false) (h1 : ∀ H', Same H H' → tw { E with nx := tv E } σ H') : tSeq (tIfS t tu tw) tv E σ H := s_ifF (E := { E with nx := tv E }) h h1
/-- an if without else whose test is false: straight on -/
theorem q_ifF0 {tv : TS} (h : EvT K t σ H false) (h1 : ∀ H', Same H H' → tv E σ H') : tSeq (tIfS t tu tNext) tv E σ H := q_ifF h h1
theorem q_if0 {b : Bool} {tv : TS} (h : EvT K t σ H b) (h1 : b = true → ∀ H', Same H H' → tu { E with nx := tv E } σ H') (h2 : b = false → ∀ H', Same H H' → tv E σ H') : tSeq (tIfS t tu tNext) tv E σ H := q_if h h1 h2
/-- an if behind which the ways meet: P, what holds of the slots -/
theorem q_ifJ {b : Bool} {tv : TS} (P : List (Option D) → Prop) (h : EvT K t σ H b)
    (h1 : b = true → ∀ H' (N : St → Hp → Prop), Same H H' → (∀ ds2 σ2 H2, P ds2 → Same H' H2 → Sl K H2 ds2 σ2 → N σ2 H2) → tu { E with nx := N } σ H')
    (h2 : b = false → ∀ H' (N : St → Hp → Prop), Same H H' → (∀ ds2 σ2 H2, P ds2 → Same H' H2 → Sl K H2 ds2 σ2 → N σ2 H2) → tw { E with nx := N } σ H')
    (k : ∀ ds2 σ2 H2, P ds2 → Same H H2 → Sl K H2 ds2 σ2 → tv E σ2 H2) : tSeq (tIfS t tu tw) tv E σ H :=
  q_if h (fun c H' e => h1 c H' (tv E) e fun ds2 σ2 H2 p e2 s2 => k ds2 σ2 H2 p (e.trans e2) s2) (fun c H' e => h2 c H' (tv E) e fun ds2 σ2 H2 p e2 s2 => k ds2 σ2 H2 p (e.trans e2) s2)
/-- .. without else -/
theorem q_ifJ0 {b : Bool} {tv : TS} (P : List (Option D) → Prop) {d0 : List (Option D)} (s0 : Sl K H d0 σ) (h : EvT K t σ H b)
    (h1 : b = true → ∀ H' (N : St → Hp → Prop), Same H H' → (∀ ds2 σ2 H2, P ds2 → Same H' H2 → Sl K H2 ds2 σ2 → N σ2 H2) → tu { E with nx := N } σ H')
    (h2 : b = false → P d0) (k : ∀ ds2 σ2 H2, P ds2 → Same H H2 → Sl K H2 ds2 σ2 → tv E σ2 H2) : tSeq (tIfS t tu tNext) tv E σ H :=
  q_ifJ P h h1 (fun c H' N e n => n d0 σ H' (h2 c) (Same.refl _) (s0.mono e)) k
theorem s_drop (h : Ev K te σ H d) (k : ∀ H', Same H H' → E.nx σ H') : tDrop te E σ H := h H (Same.refl H) _ fun _ H1 e _ => k H1 e
theorem s_seq {tv : TS} (h : tu { E with nx := tv E } σ H) : tSeq tu tv E σ H := h

/-- the list at l is another one behind, all else stands -/
structure Chg (l : Addr) (H H' : Hp) : Prop where
  ex : ∃ H2 xs o, Same H H2 ∧ H l = some (.lst xs) ∧ H' = upd H2 l o
theorem Chg.same0 {l : Addr} {H0 : Hp} (c : Chg l H H') (h0 : H0 l = none) (s : Same H0 H) : Same H0 H' := by
  obtain ⟨H2, xs, o, s2, _, rfl⟩ := c.ex
  exact Same.mut (s.trans s2) h0
theorem Chg.dt {l : Addr} {v : V} (c : Chg l H H') (i : d.imm = true) (h : Dt K H d v) : Dt K H' d v := by
  obtain ⟨H2, xs, o, s2, e, rfl⟩ := c.ex
  exact Dt.put (s2 _ _ e) d i (Dt.mono s2 d h)
theorem Chg.sl {l : Addr} (c : Chg l H H') (i : ∀ d, some d ∈ ds → d.imm = true) (h : Sl K H ds σ) : Sl K H' ds σ := by
  obtain ⟨H2, xs, o, s2, e, rfl⟩ := c.ex
  exact Sl.put (s2 _ _ e) i (h.mono s2)
theorem Chg.keep {l b : Addr} {o : HO} (c : Chg l H H') (n : b ≠ l) (h : H b = some o) : H' b = some o := by
  obtain ⟨H2, xs, u, s2, e, rfl⟩ := c.ex
  rw [upd_ne n]; exact s2 _ _ h
/-- xs.append(e), xs a local list at l -/
theorem s_app {l : Addr} {vs : List V} {es : List D} {j : Nat} (hl : H l = some (.lst vs)) (hd : Dts K H es vs) (hi : D.imms es = true) (ha : Ev K ta σ H (.raw (.ref l))) (h : Ev K te σ H d) (hdi : d.imm = true) (hz : es.length < 100000)
    (k : ∀ ws H', Chg l H H' → H' l = some (.lst ws) → Dts K H' (es ++ [d]) ws → E.nx σ H') : tDrop (tBM K "list" rAppend ta (tCons te tNil)) E σ H :=
  ha H (Same.refl H) _ fun x H1 e1 hx => by
    rw [show x = .ref l from hx]
    refine ⟨Or.inl ⟨rfl, vs, SqL.of (e1 _ _ hl)⟩, h H1 e1 _ fun v H2 e2 hv => ⟨l, vs, v, rfl, rfl, e2 _ _ (e1 _ _ hl), smallLt (by rw [hd.len]; exact hz), ?_⟩⟩
    have e12 := e1.trans e2
    exact k _ _ ⟨H2, vs, _, e12, hl, rfl⟩ upd_same (Dts.put (e12 _ _ hl) _ (D.imms_app hi (D.imms_of (by intro d' hd'; rw [List.mem_singleton.mp hd']; exact hdi))) (Dts.snoc (Dts.mono e12 _ hd) hv))
end
end Rt
namespace Rt
open PySem L2

/-- all but l stands -/
def Sm (l : Addr) (H H' : Hp) : Prop := ∀ b o, b ≠ l → H b = some o → H' b = some o
theorem Sm.refl (l : Addr) (H : Hp) : Sm l H H := fun _ _ _ h => h
theorem Same.sm {H H' : Hp} (l : Addr) (s : Same H H') : Sm l H H' := fun b o _ h => s b o h
theorem Sm.trans {l : Addr} {H H1 H2 : Hp} (a : Sm l H H1) (b : Sm l H1 H2) : Sm l H H2 := fun c o n h => b c o n (a c o n h)
theorem Chg.sm {l : Addr} {H H' : Hp} (c : Chg l H H') : Sm l H H' := fun b o n h => c.keep n h
theorem Sm.same0 {l : Addr} {H0 H H' : Hp} (c : Sm l H H') (h0 : H0 l = none) (s : Same H0 H) : Same H0 H' := fun b o h => c b o (ne_of_none h h0) (s b o h)

section
variable {K : PySem.W.Frag} {σ : St} {H H' : Hp} {ta tb te tl : TE} {t u : TT} {d e : D} {ds : List (Option D)} {E : Ends} {tu tw : TS}

/-! ### for, nothing of the heap changes -/
/-- a turn: from the heap H (turn i) to the next one -/
def Turn (K : PySem.W.Frag) (P : Nat → List (Option D) → Prop) (tu : TS) (E : Ends) (j : Nat) (H : Hp) (i : Nat) (d : D) : Prop :=
  ∀ ds σ' H' (N : St → Hp → Prop), P i ds → Same H H' → Sl K H' (ds.set j (some d)) σ' → (∀ ds2 σ2 H2, P (i + 1) ds2 → Same H' H2 → Sl K H2 ds2 σ2 → N σ2 H2) → tu { E with nx := N, ct := N, bk := E.nx } σ' H'
theorem s_forT {es : List D} {j : Nat} (h : Ev K tl σ H (.tup es)) (P : Nat → List (Option D) → Prop) {d0 : List (Option D)} (s0 : Sl K H d0 σ) (p0 : P 0 d0)
    (step : ∀ i d, es[i]? = some d → Turn K P tu E j H i d) (done : ∀ ds σ' H', P es.length ds → Same H H' → Sl K H' ds σ' → E.nx σ' H') : tFor (iTup K tl) (gName j) tu E σ H :=
  h H (Same.refl H) _ fun v H1 s1 ⟨a, vs, e1, e2, e3⟩ => ⟨a, e1, ⟨vs, SqT.of e2⟩, for_tup (xs := vs) (fun i σ H' => ∃ ds, P i ds ∧ Same H1 H' ∧ Sl K H' ds σ) ⟨d0, p0, Same.refl _, s0.mono s1⟩
    (fun i σ' H' _ ⟨ds, p, s, sl⟩ => SqT.of (s _ _ e2))
    (fun i x σ' H' hx ⟨ds, p, s, sl⟩ => by
      obtain ⟨d, hd, hv⟩ := (Dts.mono s es e3).getv hx
      exact step i d hd ds _ H' _ p (s1.trans s) (sl.set j hv) fun ds2 σ2 H2 p2 s2 sl2 => ⟨ds2, p2, s.trans s2, sl2⟩)
    (fun σ' H' ⟨ds, p, s, sl⟩ => by rw [e3.len] at p; exact done ds σ' H' p (s1.trans s) sl)⟩
theorem s_forL {es : List D} {j : Nat} (h : Ev K tl σ H (.lst es)) (P : Nat → List (Option D) → Prop) {d0 : List (Option D)} (s0 : Sl K H d0 σ) (p0 : P 0 d0)
    (step : ∀ i d, es[i]? = some d → Turn K P tu E j H i d) (done : ∀ ds σ' H', P es.length ds → Same H H' → Sl K H' ds σ' → E.nx σ' H') : tFor (iList K tl) (gName j) tu E σ H :=
  h H (Same.refl H) _ fun v H1 s1 ⟨a, vs, e1, e2, e3⟩ => ⟨a, e1, ⟨vs, SqL.of e2⟩, for_list (xs := vs) (fun i σ H' => ∃ ds, P i ds ∧ Same H1 H' ∧ Sl K H' ds σ) ⟨d0, p0, Same.refl _, s0.mono s1⟩
    (fun i σ' H' _ ⟨ds, p, s, sl⟩ => SqL.of (s _ _ e2))
    (fun i x σ' H' hx ⟨ds, p, s, sl⟩ => by
      obtain ⟨d, hd, hv⟩ := (Dts.mono s es e3).getv hx
      exact step i d hd ds _ H' _ p (s1.trans s) (sl.set j hv) fun ds2 σ2 H2 p2 s2 sl2 => ⟨ds2, p2, s.trans s2, sl2⟩)
    (fun σ' H' ⟨ds, p, s, sl⟩ => by rw [e3.len] at p; exact done ds σ' H' p (s1.trans s) sl)⟩
theorem s_forR {j : Nat} {ta : TA} {n : Int} (m : Nat) (h : EvA K ta σ H [.int n]) (hm : m = n.toNat) (hn : n ≤ 100000 ∧ -100000 ≤ n) (P : Nat → List (Option D) → Prop) {d0 : List (Option D)} (s0 : Sl K H d0 σ) (p0 : P 0 d0)
    (step : ∀ i : Nat, i < m → Turn K P tu E j H i (.int (i : Int))) (done : ∀ ds σ' H', P m ds → Same H H' → Sl K H' ds σ' → E.nx σ' H') : tFor (iRng1 ta) (gName j) tu E σ H :=
  h H (Same.refl H) _ fun vs H1 s1 ⟨v, r, e1, e2, e3⟩ => ⟨n, by rw [e1, show v = .int n from e2, show r = [] from e3], by omega, by omega, for_range (lo := 0) (n := n.toNat) (fun i σ H' => ∃ ds, P i ds ∧ Same H1 H' ∧ Sl K H' ds σ) ⟨d0, p0, Same.refl _, s0.mono s1⟩
    (fun i σ' H' hi ⟨ds, p, s, sl⟩ => by
      have e0 : (0 : Int) + (i : Int) = (i : Int) := Int.zero_add _
      rw [e0]
      exact step i (by omega) ds _ H' _ p (s1.trans s) (sl.set (d := .int (i : Int)) j rfl) fun ds2 σ2 H2 p2 s2 sl2 => ⟨ds2, p2, s.trans s2, sl2⟩)
    (fun σ' H' ⟨ds, p, s, sl⟩ => by rw [← hm] at p; exact done ds σ' H' p (s1.trans s) sl)⟩
theorem s_forR2 {j : Nat} {ta : TA} {lo n : Int} (m : Nat) (h : EvA K ta σ H [.int lo, .int n]) (hm : m = (n - lo).toNat) (hn : n ≤ 100000 ∧ -100000 ≤ n ∧ lo ≤ 100000 ∧ -100000 ≤ lo) (P : Nat → List (Option D) → Prop) {d0 : List (Option D)} (s0 : Sl K H d0 σ) (p0 : P 0 d0)
    (step : ∀ i : Nat, i < m → Turn K P tu E j H i (.int (lo + (i : Int)))) (done : ∀ ds σ' H', P m ds → Same H H' → Sl K H' ds σ' → E.nx σ' H') : tFor (iRng2 ta) (gName j) tu E σ H :=
  h H (Same.refl H) _ fun vs H1 s1 ⟨v, r, e1, e2, w, r2, f1, f2, f3⟩ => ⟨lo, n, by rw [e1, show v = .int lo from e2, f1, show w = .int n from f2, show r2 = [] from f3], ⟨by omega, by omega, by omega, by omega⟩, for_range (lo := lo) (n := (n - lo).toNat) (fun i σ H' => ∃ ds, P i ds ∧ Same H1 H' ∧ Sl K H' ds σ) ⟨d0, p0, Same.refl _, s0.mono s1⟩
    (fun i σ' H' hi ⟨ds, p, s, sl⟩ => step i (by omega) ds _ H' _ p (s1.trans s) (sl.set (d := .int (lo + (i : Int))) j rfl) fun ds2 σ2 H2 p2 s2 sl2 => ⟨ds2, p2, s.trans s2, sl2⟩)
    (fun σ' H' ⟨ds, p, s, sl⟩ => by rw [← hm] at p; exact done ds σ' H' p (s1.trans s) sl)⟩
theorem s_while (W : Nat → List (Option D) → Prop) {d0 : List (Option D)} (m0 : Nat) (s0 : Sl K H d0 σ) (w0 : W m0 d0)
    (step : ∀ m ds σ' H', W m ds → Same H H' → Sl K H' ds σ' → ∃ b, EvT K t σ' H' b ∧ (b = true → ∀ H1 (N : St → Hp → Prop), Same H' H1 → (∀ m2 ds2 σ2 H2, m2 < m → W m2 ds2 → Same H1 H2 → Sl K H2 ds2 σ2 → N σ2 H2) → tu { E with nx := N, ct := N, bk := E.nx } σ' H1) ∧ (b = false → ∀ H1, Same H' H1 → E.nx σ' H1)) : tWhile t tu E σ H :=
  ⟨fun m σ' H' => ∃ ds, W m ds ∧ Same H H' ∧ Sl K H' ds σ', ⟨m0, d0, w0, Same.refl _, s0⟩, fun m σ' H' ⟨ds, w, s, sl⟩ => by
    obtain ⟨b, hb, h1, h2⟩ := step m ds σ' H' w s sl
    refine hb H' (Same.refl H') _ fun H1 e => ?_
    cases b with
    | true => exact ⟨fun σ2 H2 => ∃ m', m' < m ∧ ∃ ds, W m' ds ∧ Same H H2 ∧ Sl K H2 ds σ2, fun σ2 H2 ⟨m', l, z⟩ => ⟨m', l, z⟩, h1 rfl H1 _ e fun m2 ds2 σ2 H2 l w2 s2 sl2 => ⟨m2, l, ds2, w2, (s.trans e).trans s2, sl2⟩⟩
    | false => exact h2 rfl H1 e⟩
theorem q_forT {tv : TS} {es : List D} {j : Nat} (h : Ev K tl σ H (.tup es)) (P : Nat → List (Option D) → Prop) {d0 : List (Option D)} (s0 : Sl K H d0 σ) (p0 : P 0 d0)
    (step : ∀ i d, es[i]? = some d → Turn K P tu { E with nx := tv E } j H i d) (done : ∀ ds σ' H', P es.length ds → Same H H' → Sl K H' ds σ' → tv E σ' H') : tSeq (tFor (iTup K tl) (gName j) tu) tv E σ H := s_forT (E := { E with nx := tv E }) h P s0 p0 step done
theorem q_forL {tv : TS} {es : List D} {j : Nat} (h : Ev K tl σ H (.lst es)) (P : Nat → List (Option D) → Prop) {d0 : List (Option D)} (s0 : Sl K H d0 σ) (p0 : P 0 d0)
    (step : ∀ i d, es[i]? = some d → Turn K P tu { E with nx := tv E } j H i d) (done : ∀ ds σ' H', P es.length ds → Same H H' → Sl K H' ds σ' → tv E σ' H') : tSeq (tFor (iList K tl) (gName j) tu) tv E σ H := s_forL (E := { E with nx := tv E }) h P s0 p0 step done
theorem q_forR {tv : TS} {j : Nat} {ta : TA} {n : Int} (m : Nat) (h : EvA K ta σ H [.int n]) (hm : m = n.toNat) (hn : n ≤ 100000 ∧ -100000 ≤ n) (P : Nat → List (Option D) → Prop) {d0 : List (Option D)} (s0 : Sl K H d0 σ) (p0 : P 0 d0)
    (step : ∀ i : Nat, i < m → Turn K P tu { E with nx := tv E } j H i (.int (i : Int))) (done : ∀ ds σ' H', P m ds → Same H H' → Sl K H' ds σ' → tv E σ' H') : tSeq (tFor (iRng1 ta) (gName j) tu) tv E σ H := s_forR (E := { E with nx := tv E }) m h hm hn P s0 p0 step done
theorem q_while {tv : TS} (W : Nat → List (Option D) → Prop) {d0 : List (Option D)} (m0 : Nat) (s0 : Sl K H d0 σ) (w0 : W m0 d0)
    (step : ∀ m ds σ' H', W m ds → Same H H' → Sl K H' ds σ' → ∃ b, EvT K t σ' H' b ∧ (b = true → ∀ H1 (N : St → Hp → Prop), Same H' H1 → (∀ m2 ds2 σ2 H2, m2 < m → W m2 ds2 → Same H1 H2 → Sl K H2 ds2 σ2 → N σ2 H2) → tu { E with nx := N, ct := N, bk := tv E } σ' H1) ∧ (b = false → ∀ H1, Same H' H1 → tv E σ' H1)) : tSeq (tWhile t tu) tv E σ H := s_while (E := { E with nx := tv E }) W m0 s0 w0 step

/-! ### for, a local list at l is changed; P: the turn, the slots, the list's items -/
def TurnB (K : PySem.W.Frag) (l : Addr) (P : Nat → List (Option D) → List D → Prop) (tu : TS) (E : Ends) (j : Nat) (H : Hp) (i : Nat) (d : D) : Prop :=
  ∀ ds es vs σ' H' (N : St → Hp → Prop), P i ds es → Sm l H H' → Sl K H' (ds.set j (some d)) σ' → H' l = some (.lst vs) → Dts K H' es vs →
    (∀ ds2 es2 vs2 σ2 H2, P (i + 1) ds2 es2 → Sm l H' H2 → Sl K H2 ds2 σ2 → H2 l = some (.lst vs2) → Dts K H2 es2 vs2 → N σ2 H2) → tu { E with nx := N, ct := N, bk := E.nx } σ' H'
theorem s_forTB {l : Addr} {xs : List D} {j : Nat} (h : Ev K tl σ H (.tup xs)) (hi : D.imms xs = true) (P : Nat → List (Option D) → List D → Prop) {d0 : List (Option D)} {e0 : List D} {v0 : List V} (s0 : Sl K H d0 σ) (p0 : P 0 d0 e0) (hl : H l = some (.lst v0)) (hd0 : Dts K H e0 v0)
    (step : ∀ i d, xs[i]? = some d → TurnB K l P tu E j H i d) (done : ∀ ds es vs σ' H', P xs.length ds es → Sm l H H' → Sl K H' ds σ' → H' l = some (.lst vs) → Dts K H' es vs → E.nx σ' H')
    (tr : ∀ H' H2, Sm l H' H2 → (∃ ws, H' l = some (.lst ws)) → ∀ d, d ∈ xs → ∀ v, Dt K H' d v → Dt K H2 d v) : tFor (iTup K tl) (gName j) tu E σ H :=
  h H (Same.refl H) _ fun v H1 s1 ⟨a, vs, e1, e2, e3⟩ => by
    have nal : a ≠ l := ne_of e2 (s1 _ _ hl) (by intro q; cases q)
    refine ⟨a, e1, ⟨vs, SqT.of e2⟩, for_tup (xs := vs) (fun i σ H' => ∃ ds es ws, P i ds es ∧ Sm l H1 H' ∧ Sl K H' ds σ ∧ H' l = some (.lst ws) ∧ Dts K H' es ws) ⟨d0, e0, v0, p0, Sm.refl _ _, s0.mono s1, s1 _ _ hl, Dts.mono s1 _ hd0⟩
      (fun i σ' H' _ ⟨ds, es, ws, p, s, sl, hl', hd'⟩ => SqT.of (s _ _ nal e2))
      (fun i x σ' H' hx ⟨ds, es, ws, p, s, sl, hl', hd'⟩ => ?_)
      (fun σ' H' ⟨ds, es, ws, p, s, sl, hl', hd'⟩ => by rw [e3.len] at p; exact done ds es ws σ' H' p ((Same.sm l s1).trans s) sl hl' hd')⟩
    obtain ⟨d, hd, hv⟩ := e3.getv hx
    exact step i d hd ds es ws _ H' _ p ((Same.sm l s1).trans s) (sl.set j (tr H1 H' s ⟨v0, s1 _ _ hl⟩ d (List.mem_of_getElem? hd) x hv)) hl' hd' fun ds2 es2 ws2 σ2 H2 p2 s2 sl2 hl2 hd2 => ⟨ds2, es2, ws2, p2, s.trans s2, sl2, hl2, hd2⟩
theorem Fz.sm {a l : Addr} {xs ys : List V} (s : Sm l H H') (hl : H l = some (.lst ys)) (h : Fz K H a xs) : Fz K H' a xs := by
  rcases h with ⟨u, h⟩ | h
  · exact .inl ⟨u, s _ _ (ne_of h hl (by intro q; cases q)) h⟩
  · exact .inr h
mutual
theorem Dt.sm {l : Addr} {xs : List V} (s : Sm l H H') (hl : H l = some (.lst xs)) : ∀ (d : D) {v : V}, d.imm = true → Dt K H d v → Dt K H' d v
  | .non, _, _, h => h
  | .bl _, _, _, h => h
  | .int _, _, _, h => h
  | .str _, _, _, h => h
  | .raw _, _, _, h => h
  | .scr _, _, _, ⟨a, h1, h2⟩ => ⟨a, h1, Fz.sm s hl h2⟩
  | .tup ds, _, i, ⟨a, vs, h1, h2, h3⟩ => ⟨a, vs, h1, s _ _ (ne_of h2 hl (by intro q; cases q)) h2, Dts.sm s hl ds i h3⟩
  | .lst ds, _, i, _ => by cases i
theorem Dts.sm {l : Addr} {xs : List V} (s : Sm l H H') (hl : H l = some (.lst xs)) : ∀ (ds : List D) {vs : List V}, D.imms ds = true → Dts K H ds vs → Dts K H' ds vs
  | [], _, _, h => h
  | d :: ds, _, i, ⟨v, r, h1, h2, h3⟩ => by
    have i' : (d.imm && D.imms ds) = true := i
    rw [Bool.and_eq_true] at i'
    exact ⟨v, r, h1, Dt.sm s hl d i'.1 h2, Dts.sm s hl ds i'.2 h3⟩
end
theorem Sl.sm {l : Addr} {xs : List V} (s : Sm l H H') (hl : H l = some (.lst xs)) : ∀ {ds : List (Option D)} {σ : St}, (∀ d, some d ∈ ds → d.imm = true) → Sl K H ds σ → Sl K H' ds σ
  | [], _, _, h => h
  | none :: ds, _, i, ⟨x, r, h1, h2⟩ => ⟨x, r, h1, Sl.sm s hl (fun d hd => i d (List.mem_cons_of_mem _ hd)) h2⟩
  | some d :: ds, _, i, ⟨v, r, h1, h2, h3⟩ => ⟨v, r, h1, Dt.sm s hl d (i d List.mem_cons_self) h2, Sl.sm s hl (fun d hd => i d (List.mem_cons_of_mem _ hd)) h3⟩
/-- over a tuple of immutable data -/
theorem q_forTB {tv : TS} {l : Addr} {xs : List D} {j : Nat} (h : Ev K tl σ H (.tup xs)) (hi : D.imms xs = true) (P : Nat → List (Option D) → List D → Prop) {d0 : List (Option D)} {e0 : List D} {v0 : List V} (s0 : Sl K H d0 σ) (p0 : P 0 d0 e0) (hl : H l = some (.lst v0)) (hd0 : Dts K H e0 v0)
    (step : ∀ i d, xs[i]? = some d → TurnB K l P tu { E with nx := tv E } j H i d) (done : ∀ ds es vs σ' H', P xs.length ds es → Sm l H H' → Sl K H' ds σ' → H' l = some (.lst vs) → Dts K H' es vs → tv E σ' H') : tSeq (tFor (iTup K tl) (gName j) tu) tv E σ H :=
  s_forTB (E := { E with nx := tv E }) h hi P s0 p0 hl hd0 step done fun H' H2 s ⟨ws, hw⟩ d hd v hv => Dt.sm s hw d (D.imms_mem hi d hd) hv
/-- over a list (of immutable data) that does not stand at l -/
theorem s_forLB {l : Addr} {xs : List D} {j : Nat} (h : EvP tl σ H (fun v H1 => ∃ a vs, v = .ref a ∧ a ≠ l ∧ H1 a = some (.lst vs) ∧ Dts K H1 xs vs)) (hi : D.imms xs = true) (P : Nat → List (Option D) → List D → Prop) {d0 : List (Option D)} {e0 : List D} {v0 : List V} (s0 : Sl K H d0 σ) (p0 : P 0 d0 e0) (hl : H l = some (.lst v0)) (hd0 : Dts K H e0 v0)
    (step : ∀ i d, xs[i]? = some d → TurnB K l P tu E j H i d) (done : ∀ ds es vs σ' H', P xs.length ds es → Sm l H H' → Sl K H' ds σ' → H' l = some (.lst vs) → Dts K H' es vs → E.nx σ' H') : tFor (iList K tl) (gName j) tu E σ H :=
  h H (Same.refl H) _ fun v H1 s1 ⟨a, vs, e1, nal, e2, e3⟩ => by
    refine ⟨a, e1, ⟨vs, SqL.of e2⟩, for_list (xs := vs) (fun i σ H' => ∃ ds es ws, P i ds es ∧ Sm l H1 H' ∧ Sl K H' ds σ ∧ H' l = some (.lst ws) ∧ Dts K H' es ws) ⟨d0, e0, v0, p0, Sm.refl _ _, s0.mono s1, s1 _ _ hl, Dts.mono s1 _ hd0⟩
      (fun i σ' H' _ ⟨ds, es, ws, p, s, sl, hl', hd'⟩ => SqL.of (s _ _ nal e2))
      (fun i x σ' H' hx ⟨ds, es, ws, p, s, sl, hl', hd'⟩ => ?_)
      (fun σ' H' ⟨ds, es, ws, p, s, sl, hl', hd'⟩ => by rw [e3.len] at p; exact done ds es ws σ' H' p ((Same.sm l s1).trans s) sl hl' hd')⟩
    obtain ⟨d, hd, hv⟩ := e3.getv hx
    exact step i d hd ds es ws _ H' _ p ((Same.sm l s1).trans s) (sl.set j (Dt.sm s (s1 _ _ hl) d (D.imms_mem hi d (List.mem_of_getElem? hd)) hv)) hl' hd' fun ds2 es2 ws2 σ2 H2 p2 s2 sl2 hl2 hd2 => ⟨ds2, es2, ws2, p2, s.trans s2, sl2, hl2, hd2⟩
theorem q_forLB {tv : TS} {l : Addr} {xs : List D} {j : Nat} (h : EvP tl σ H (fun v H1 => ∃ a vs, v = .ref a ∧ a ≠ l ∧ H1 a = some (.lst vs) ∧ Dts K H1 xs vs)) (hi : D.imms xs = true) (P : Nat → List (Option D) → List D → Prop) {d0 : List (Option D)} {e0 : List D} {v0 : List V} (s0 : Sl K H d0 σ) (p0 : P 0 d0 e0) (hl : H l = some (.lst v0)) (hd0 : Dts K H e0 v0)
    (step : ∀ i d, xs[i]? = some d → TurnB K l P tu { E with nx := tv E } j H i d) (done : ∀ ds es vs σ' H', P xs.length ds es → Sm l H H' → Sl K H' ds σ' → H' l = some (.lst vs) → Dts K H' es vs → tv E σ' H') : tSeq (tFor (iList K tl) (gName j) tu) tv E σ H := s_forLB (E := { E with nx := tv E }) h hi P s0 p0 hl hd0 step done
/-- what a fresh list is good for -/
theorem EvN.apart {l : Addr} {xs : List D} {v0 : List V} (h : EvN K te σ H xs) (hl : H l = some (.lst v0)) : EvP te σ H (fun v H1 => ∃ a vs, v = .ref a ∧ a ≠ l ∧ H1 a = some (.lst vs) ∧ Dts K H1 xs vs) := fun H1 s1 Q q =>
  h H1 s1 Q fun p vs H2 hp s2 h1 h2 => q (.ref p) H2 s2 ⟨p, vs, rfl, fun z => (by rw [z, s1 _ _ hl] at hp; cases hp), h1, h2⟩
/-- a list that stood ahead of l -/
theorem ev_apart {l : Addr} {xs : List D} {H0 : Hp} {i : Nat} (s0 : Sl K H0 ds σ) (hi : ds[i]? = some (some (.lst xs))) (h0 : H0 l = none) (s : Same H0 H) : EvP (tVar i) σ H (fun v H1 => ∃ a vs, v = .ref a ∧ a ≠ l ∧ H1 a = some (.lst vs) ∧ Dts K H1 xs vs) := fun H1 s1 Q q => by
  obtain ⟨v, h1, a, vs, h2, h3, h4⟩ := s0.get hi
  exact ⟨v, h1, q v H1 (Same.refl _) ⟨a, vs, h2, ne_of_none h3 h0, (s.trans s1) _ _ h3, Dts.mono (s.trans s1) _ h4⟩⟩

/-! ### comprehensions -/
theorem wipe1 {σ : St} {j : Nat} (x : V) : L2.wipe ((L2.wipe σ [j]).set j (some x)) [j] = L2.wipe σ [j] := by
  show (((σ.set j none).set j (some x)).set j none) = σ.set j none
  rw [List.set_set, List.set_set]
def Cw (K : PySem.W.Frag) (H : Hp) (l : Addr) (zs : List D) (H' : Hp) : Prop := H l = none ∧ Same H H' ∧ ∃ acc, H' l = some (.lst acc) ∧ Dts K H' zs acc
theorem cw_turn {l : Addr} {zs : List D} {b : Bool} {z : D} {σ2 : St} {Px : Hp → Prop} (w : Cw K H l zs H') (hz : zs.length < 100000) (ht : EvT K t σ2 H' b) (he : b = true → Ev K te σ2 H' z ∧ z.imm = true) (hi : D.imms zs = true)
    (next : ∀ H2, Cw K H l (if b then zs ++ [z] else zs) H2 → Px H2) :
    t σ2 H' fun b H3 => if b = true then te σ2 H3 fun y H4 => ∃ acc, H4 l = some (.lst acc) ∧ acc.length < sizeLine ∧ Px (upd H4 l (.lst (acc ++ [y]))) else Px H3 := by
  obtain ⟨h0, s, acc, h1, h2⟩ := w
  refine ht H' (Same.refl _) _ fun H3 s3 => ?_
  cases b with
  | true =>
    show te σ2 H3 fun y H4 => ∃ acc, H4 l = some (.lst acc) ∧ acc.length < sizeLine ∧ Px (upd H4 l (.lst (acc ++ [y])))
    obtain ⟨hz1, hz2⟩ := he rfl
    refine hz1 H3 s3 _ fun y H4 s4 hy => ⟨acc, s4 _ _ (s3 _ _ h1), smallLt (by rw [h2.len]; exact hz), next _ ⟨h0, Same.mut ((s.trans s3).trans s4) h0, _, upd_same, ?_⟩⟩
    have e4 := s4 _ _ (s3 _ _ h1)
    exact Dts.put e4 _ (D.imms_app hi (D.imms_of (by intro d' hd'; rw [List.mem_singleton.mp hd']; exact hz2))) (Dts.snoc (Dts.mono (s3.trans s4) _ h2) hy)
  | false => exact next _ ⟨h0, s.trans s3, acc, s3 _ _ h1, Dts.mono s3 _ h2⟩
theorem filt_snoc {α β : Type} {f : α → Bool} {g : α → β} {es : List α} {i : Nat} {d : α} (h : es[i]? = some d) : ((es.take (i + 1)).filter f).map g = if f d then ((es.take i).filter f).map g ++ [g d] else ((es.take i).filter f).map g := by
  have e : es.take (i + 1) = es.take i ++ [d] := by rw [List.take_add_one, h]; rfl
  rw [e, List.filter_append, List.map_append]
  cases hf : f d with
  | true => simp [hf]
  | false => simp [hf]
theorem lenf {α β : Type} {f : α → Bool} {g : α → β} {es : List α} {i n : Nat} (h : es.length ≤ n) : (((es.take i).filter f).map g).length ≤ n := by
  have h1 := List.length_filter_le f (es.take i)
  have h2 := List.length_take_le i es
  rw [List.length_map, List.length_take] at *
  omega
theorem en_lcL {tt : TT} {es : List D} {j : Nat} (f : D → Bool) (g : D → D) (h : Ev K tl σ H (.lst es)) (s0 : Sl K H ds σ) (hz : es.length < 100000)
    (ht : ∀ d ∈ es, ∀ σ' H', Same H H' → Sl K H' (ds.set j (some d)) σ' → EvT K tt σ' H' (f d)) (he : ∀ d ∈ es, f d = true → ∀ σ' H', Same H H' → Sl K H' (ds.set j (some d)) σ' → Ev K te σ' H' (g d))
    (hi : ∀ d ∈ es, f d = true → (g d).imm = true) : EvN K (tLc (iList K tl) (gName j) tt te [j]) σ H ((es.filter f).map g) := fun H1 a Q q =>
  h H1 a _ fun v H2 s2 ⟨b, vs, e1, e2, e3⟩ => ⟨b, e1, ⟨vs, SqL.of e2⟩, fun l hl =>
    lc_list (xs := vs) (fun i H' => Cw K H2 l (((es.take i).filter f).map g) H') ⟨hl, Same.new hl, [], upd_same, by rw [List.take_zero]; rfl⟩ (fun i H' _ w => SqL.of (w.2.1 _ _ e2))
      (fun i x H' hx w => by
        obtain ⟨d, hd, hv⟩ := (Dts.mono w.2.1 es e3).getv hx
        have md := List.mem_of_getElem? hd
        have sl : Sl K H' (ds.set j (some d)) ((L2.wipe σ [j]).set j (some x)) := by
          have q1 := ((s0.mono ((a.trans s2).trans w.2.1)).wipe [j]).set j hv
          have q2 : (wipeD ds [j]).set j (some d) = ds.set j (some d) := by
            show ((ds.set j none).set j (some d)) = _
            rw [List.set_set]
          rw [q2] at q1
          exact q1
        exact ⟨wipe1 x, cw_turn w (Nat.lt_of_le_of_lt (lenf (Nat.le_refl _)) hz) (ht d md _ H' ((a.trans s2).trans w.2.1) sl) (fun hb => ⟨he d md hb _ H' ((a.trans s2).trans w.2.1) sl, hi d md hb⟩)
          (D.imms_of fun z hz' => by
            obtain ⟨d', hd', rfl⟩ := List.mem_map.mp hz'
            have := List.mem_filter.mp hd'
            exact hi d' (List.mem_of_mem_take this.1) this.2) (fun H2 w2 => by rw [filt_snoc hd]; exact w2)⟩)
      (fun H' w => by
        obtain ⟨h0, s, acc, h1, h2⟩ := w
        rw [e3.len, List.take_of_length_le (Nat.le_refl _)] at h2
        exact q l acc H' (s2.free h0) (s2.trans s) h1 h2)⟩
theorem en_lcT {tt : TT} {es : List D} {j : Nat} (f : D → Bool) (g : D → D) (h : Ev K tl σ H (.tup es)) (s0 : Sl K H ds σ) (hz : es.length < 100000)
    (ht : ∀ d ∈ es, ∀ σ' H', Same H H' → Sl K H' (ds.set j (some d)) σ' → EvT K tt σ' H' (f d)) (he : ∀ d ∈ es, f d = true → ∀ σ' H', Same H H' → Sl K H' (ds.set j (some d)) σ' → Ev K te σ' H' (g d))
    (hi : ∀ d ∈ es, f d = true → (g d).imm = true) : EvN K (tLc (iTup K tl) (gName j) tt te [j]) σ H ((es.filter f).map g) := fun H1 a Q q =>
  h H1 a _ fun v H2 s2 ⟨b, vs, e1, e2, e3⟩ => ⟨b, e1, ⟨vs, SqT.of e2⟩, fun l hl =>
    lc_tup (xs := vs) (fun i H' => Cw K H2 l (((es.take i).filter f).map g) H') ⟨hl, Same.new hl, [], upd_same, by rw [List.take_zero]; rfl⟩ (fun i H' _ w => SqT.of (w.2.1 _ _ e2))
      (fun i x H' hx w => by
        obtain ⟨d, hd, hv⟩ := (Dts.mono w.2.1 es e3).getv hx
        have md := List.mem_of_getElem? hd
        have sl : Sl K H' (ds.set j (some d)) ((L2.wipe σ [j]).set j (some x)) := by
          have q1 := ((s0.mono ((a.trans s2).trans w.2.1)).wipe [j]).set j hv
          have q2 : (wipeD ds [j]).set j (some d) = ds.set j (some d) := by
            show ((ds.set j none).set j (some d)) = _
            rw [List.set_set]
          rw [q2] at q1
          exact q1
        exact ⟨wipe1 x, cw_turn w (Nat.lt_of_le_of_lt (lenf (Nat.le_refl _)) hz) (ht d md _ H' ((a.trans s2).trans w.2.1) sl) (fun hb => ⟨he d md hb _ H' ((a.trans s2).trans w.2.1) sl, hi d md hb⟩)
          (D.imms_of fun z hz' => by
            obtain ⟨d', hd', rfl⟩ := List.mem_map.mp hz'
            have := List.mem_filter.mp hd'
            exact hi d' (List.mem_of_mem_take this.1) this.2) (fun H2 w2 => by rw [filt_snoc hd]; exact w2)⟩)
      (fun H' w => by
        obtain ⟨h0, s, acc, h1, h2⟩ := w
        rw [e3.len, List.take_of_length_le (Nat.le_refl _)] at h2
        exact q l acc H' (s2.free h0) (s2.trans s) h1 h2)⟩
theorem en_lcR {tt : TT} {ta : TA} {n : Int} {j : Nat} (m : Nat) (f : Nat → Bool) (g : Nat → D) (h : EvA K ta σ H [.int n]) (hm : m = n.toNat) (hn : n < 100000 ∧ -100000 ≤ n) (s0 : Sl K H ds σ)
    (ht : ∀ i : Nat, i < m → ∀ σ' H', Same H H' → Sl K H' (ds.set j (some (.int (i : Int)))) σ' → EvT K tt σ' H' (f i)) (he : ∀ i : Nat, i < m → f i = true → ∀ σ' H', Same H H' → Sl K H' (ds.set j (some (.int (i : Int)))) σ' → Ev K te σ' H' (g i))
    (hi : ∀ i : Nat, i < m → f i = true → (g i).imm = true) : EvN K (tLc (iRng1 ta) (gName j) tt te [j]) σ H (((List.range m).filter f).map g) := fun H1 a Q q =>
  h H1 a _ fun us H2 s2 ⟨v, r, e1, e2, e3⟩ => ⟨n, by rw [e1, show v = .int n from e2, show r = [] from e3], by omega, by omega, fun l hl =>
    lc_range (lo := 0) (n := n.toNat) (fun i H' => Cw K H2 l ((((List.range m).take i).filter f).map g) H') ⟨hl, Same.new hl, [], upd_same, by rw [List.take_zero]; rfl⟩
      (fun i H' hin w => by
        have e0 : (0 : Int) + (i : Int) = (i : Int) := Int.zero_add _
        rw [e0]
        have hd : (List.range m)[i]? = some i := by rw [List.getElem?_range (by omega)]
        have sl : Sl K H' (ds.set j (some (.int (i : Int)))) ((L2.wipe σ [j]).set j (some (.int (i : Int)))) := by
          have q1 := ((s0.mono ((a.trans s2).trans w.2.1)).wipe [j]).set j (d := .int (i : Int)) (v := .int (i : Int)) rfl
          have q2 : (wipeD ds [j]).set j (some (.int (i : Int))) = ds.set j (some (.int (i : Int))) := by
            show ((ds.set j none).set j (some (.int (i : Int)))) = _
            rw [List.set_set]
          rw [q2] at q1
          exact q1
        refine ⟨wipe1 _, cw_turn w (Nat.lt_of_le_of_lt (lenf (n := m) (by rw [List.length_range]; exact Nat.le_refl _)) (by omega)) (ht i (by omega) _ H' ((a.trans s2).trans w.2.1) sl) (fun hb => ⟨he i (by omega) hb _ H' ((a.trans s2).trans w.2.1) sl, hi i (by omega) hb⟩)
          (D.imms_of fun z hz' => ?_) (fun H2 w2 => by rw [filt_snoc hd]; exact w2)⟩
        obtain ⟨d', hd', rfl⟩ := List.mem_map.mp hz'
        have := List.mem_filter.mp hd'
        exact hi d' (List.mem_range.mp (List.mem_of_mem_take this.1)) this.2)
      (fun H' w => by
        obtain ⟨h0, s, acc, h1, h2⟩ := w
        rw [← hm, List.take_of_length_le (by rw [List.length_range]; exact Nat.le_refl _)] at h2
        exact q l acc H' (s2.free h0) (s2.trans s) h1 h2)⟩
theorem et_yes : EvT K tYes σ H true := fun H1 _ _ q => q H1 (Same.refl _)
end
end Rt
namespace Rt
open PySem PySem.Spec PyProof.Rows L2

/-- a def of the text that stands under its name -/
structure Dfn (K : PySem.W.Frag) (mg : Str → Option Value) (x : Str) (st : Stmt) (ps : List Str) : Prop where
  ex : ∃ f fd, L2.Fun K x x st f fd ∧ mg x = some (.ref f) ∧ Binds K fd ps []
/-- a def that may be called by its name -/
structure Cal (P : Program) (w : World) (K : PySem.W.Frag) (mg : Str → Option Value) (base : Heap) (CX : CXT) (k : Nat) (x : Str) (sp : Sp) : Prop where
  ex : ∃ f fd ps, FnOk P w K mg base CX k f fd ps sp ∧ mg x = some (.ref f) ∧ PySem.W.keepIn K (.ref f) = true ∧ Binds K fd ps []
theorem fn_by {N P : List Str} {sc : Scope} (h : C8.scC N P sc = true) : FnScope N P sc := C8.fnScope_by h
section
variable {P : Program} {w : World} {K : PySem.W.Frag} {mg : Str → Option Value} {base : Heap}
theorem Cal.mono {CX : CXT} {j k : Nat} {x : Str} {sp : Sp} (c : Cal P w K mg base CX j x sp) (h : j ≤ k) : Cal P w K mg base CX k x sp := by
  obtain ⟨f, fd, ps, F, a, b, d⟩ := c.ex
  exact ⟨f, fd, ps, F.mono h, a, b, d⟩
theorem Cal.imp {CX : CXT} {k : Nat} {x : Str} {sp sp' : Sp} (c : Cal P w K mg base CX k x sp) (h : ∀ vs H Q E, sp' vs H Q E → sp vs H Q E) : Cal P w K mg base CX k x sp' := by
  obtain ⟨f, fd, ps, F, a, b, d⟩ := c.ex
  exact ⟨f, fd, ps, F.imp h, a, b, d⟩
/-- nothing is promised -/
theorem cal_none {x : Str} {st : Stmt} {ps : List Str} {CX : CXT} {k : Nat} {sp : Sp} (F : Dfn K mg x st ps) (no : ∀ vs H Q E, ¬ sp vs H Q E) : Cal P w K mg base CX k x sp := by
  obtain ⟨f, fd, F, m, b⟩ := F.ex
  exact ⟨f, fd, ps, ⟨fun vs H Q E h => absurd h (no vs H Q E), fun A outer s H args us vs Q E _ _ _ _ h => absurd h (no vs H Q E)⟩, m, F.kp, b⟩
/-- a def by its body: data in, data out -/
theorem ok_fn {x : Str} {st : Stmt} {N ps : List Str} {k : Nat} {R : List D → D → Prop} {f : Addr} {fd : FuncData} (F : L2.Fun K x x st f fd) (S : FnScope N ps (defScope st)) (len : ∀ ds d, R ds d → ds.length = ps.length)
    (hbody : ∀ (cdv : Value) (A : Around) (outer : List Env) (s : Shared) (f : Addr) (H : Hp) (vs : List V) (ds : List D) (d : D), Room k (A.deeper (envOfC x (defScope st) s.heap.objs.size f cdv)) → R ds d →
      Sl K H (ds.map some ++ List.replicate (N.length - ds.length) none) (start N vs) →
      ∃ t, PSs (cxOf CX0 P w K mg base N x (defScope st) f cdv A outer s H E0).nox (defBody st) t ∧ ∀ (nx : L2.St → Hp → Prop) (Q : VK), (∀ σ' H', Same H H' → Dt K H' d .non → nx σ' H') → (∀ v H', Same H H' → Dt K H' d v → Q v H') → t { nx := nx, rt := Q } (start N vs) H) : FnOk P w K mg base CX0 (k + 1) f fd ps (Fn K R) := by
  refine F.ok S (fun vs H Q E h => ?_) (fun cdv A outer s H vs Q E hr h => ?_)
  · obtain ⟨ds, d, h1, h2, _⟩ := h
    rw [h1.len]; exact len _ _ h2
  · obtain ⟨ds, d, h1, h2, k⟩ := h
    obtain ⟨t, ht, hq⟩ := hbody cdv A outer s f H vs ds d hr h2 (Sl.start h1)
    refine ⟨t, ?_, hq _ _ (fun σ' H' s1 h => k _ H' s1 h) k⟩
    exact ht
theorem cal_fn {x : Str} {st : Stmt} {N ps : List Str} {k : Nat} {R : List D → D → Prop} (F : Dfn K mg x st ps) (S : FnScope N ps (defScope st)) (len : ∀ ds d, R ds d → ds.length = ps.length)
    (hbody : ∀ (cdv : Value) (A : Around) (outer : List Env) (s : Shared) (f : Addr) (H : Hp) (vs : List V) (ds : List D) (d : D), Room k (A.deeper (envOfC x (defScope st) s.heap.objs.size f cdv)) → R ds d →
      Sl K H (ds.map some ++ List.replicate (N.length - ds.length) none) (start N vs) →
      ∃ t, PSs (cxOf CX0 P w K mg base N x (defScope st) f cdv A outer s H E0).nox (defBody st) t ∧ ∀ (nx : L2.St → Hp → Prop) (Q : VK), (∀ σ' H', Same H H' → Dt K H' d .non → nx σ' H') → (∀ v H', Same H H' → Dt K H' d v → Q v H') → t { nx := nx, rt := Q } (start N vs) H) : Cal P w K mg base CX0 (k + 1) x (Fn K R) := by
  obtain ⟨f, fd, F, m, b⟩ := F.ex
  exact ⟨f, fd, ps, ok_fn F S len hbody, m, F.kp, b⟩
theorem cal_fnN {x : Str} {st : Stmt} {N ps : List Str} {k : Nat} {R : List D → List D → Prop} (F : Dfn K mg x st ps) (S : FnScope N ps (defScope st)) (len : ∀ ds d, R ds d → ds.length = ps.length)
    (hbody : ∀ (cdv : Value) (A : Around) (outer : List Env) (s : Shared) (f : Addr) (H : Hp) (vs : List V) (ds : List D) (es : List D), Room k (A.deeper (envOfC x (defScope st) s.heap.objs.size f cdv)) → R ds es →
      Sl K H (ds.map some ++ List.replicate (N.length - ds.length) none) (start N vs) →
      ∃ t, PSs (cxOf CX0 P w K mg base N x (defScope st) f cdv A outer s H E0).nox (defBody st) t ∧ ∀ (nx : L2.St → Hp → Prop) (Q : VK), (∀ p ws H', H p = none → Same H H' → H' p = some (.lst ws) → Dts K H' es ws → Q (.ref p) H') → t { nx := nx, rt := Q } (start N vs) H) : Cal P w K mg base CX0 (k + 1) x (FnN K R) := by
  obtain ⟨f, fd, F, m, b⟩ := F.ex
  refine ⟨f, fd, ps, F.ok S (fun vs H Q E h => ?_) (fun cdv A outer s H vs Q E hr h => ?_), m, F.kp, b⟩
  · obtain ⟨ds, d, h1, h2, _⟩ := h
    rw [h1.len]; exact len _ _ h2
  · obtain ⟨ds, d, h1, h2, k⟩ := h
    obtain ⟨t, ht, hq⟩ := hbody cdv A outer s f H vs ds d hr h2 (Sl.start h1)
    exact ⟨t, ht, hq _ _ k⟩
end
section
variable {X : Cx} {k j : Nat} {x : Str} {sp : Sp} {p pos : Pos} {e : Expr} {es : List Expr} {t : TA} {E : XK}
theorem pe_c (c : Cal X.prog X.w X.K X.mg X.base CX0 k x sp) (hr : Room j X.A) (hk : k ≤ j) (hg : Gl X x) (ha : PA X (e :: es) t)
    (hdb : (x == ("__debug__" : Str)) = false := by decide) (he : starEach (e :: es) X.env = (false, eval e X.env) :: starEach es X.env := by rfl) (hpl : (backTo pos (starEach es X.env)).any (·.1) = false := by rfl) :
    PE X (.Call (.Name x p) (e :: es) [] pos) (tCall sp [] E0 t) := by
  obtain ⟨f, fd, ps, F, hm, kp, b⟩ := c.ex
  exact pe_call F (hr.mono hk) hg hm kp b .nil pass0 ha hdb he hpl
/-- .. that may raise: E is wished of what it raises -/
theorem pe_cX (c : Cal X.prog X.w X.K X.mg X.base (L2.CX X.prog X.w) k x sp) (hr : Room j X.A) (hk : k ≤ j) (hg : Gl X x) (hx : Passes (L2.CX X.prog X.w) X E) (ha : PA X (e :: es) t)
    (hdb : (x == ("__debug__" : Str)) = false := by decide) (he : starEach (e :: es) X.env = (false, eval e X.env) :: starEach es X.env := by rfl) (hpl : (backTo pos (starEach es X.env)).any (·.1) = false := by rfl) :
    PE X (.Call (.Name x p) (e :: es) [] pos) (tCall sp [] E t) := by
  obtain ⟨f, fd, ps, F, hm, kp, b⟩ := c.ex
  exact pe_call F (hr.mono hk) hg hm kp b .nil hx ha hdb he hpl
end
end Rt
namespace Rt
open PySem PySem.Spec PyProof.Rows L2
def top (i : Nat) : Stmt := PySem.Challenge.pw_radixtrail_k01_words_in_common.main.body.getD i (.Pass ⟨0, 0, 0, 0⟩)
abbrev s_common : Stmt := top 1
abbrev N_common : List Str := ["one", "other", "at"]
theorem sc_common : FnScope ["one", "other", "at"] ["one", "other"] (defScope s_common) := fn_by (by decide +kernel)
abbrev s_rest : Stmt := top 2
abbrev N_rest : List Str := ["name", "beginning"]
theorem sc_rest : FnScope ["name", "beginning"] ["name", "beginning"] (defScope s_rest) := fn_by (by decide +kernel)
abbrev s__law_cell_at : Stmt := top 4
abbrev N__law_cell_at : List Str := ["_law_script", "_law_k"]
theorem sc__law_cell_at : FnScope ["_law_script", "_law_k"] ["_law_script", "_law_k"] (defScope s__law_cell_at) := fn_by (by decide +kernel)
abbrev s__law_sign_by : Stmt := top 5
abbrev N__law_sign_by : List Str := ["_law_cell", "_law_some"]
theorem sc__law_sign_by : FnScope ["_law_cell", "_law_some"] ["_law_cell"] (defScope s__law_sign_by) := fn_by (by decide +kernel)
abbrev s__law_word_by : Stmt := top 6
abbrev N__law_word_by : List Str := ["_law_cell", "_law_size", "_law_made", "_law_number", "_law_k"]
theorem sc__law_word_by : FnScope ["_law_cell", "_law_size", "_law_made", "_law_number", "_law_k"] ["_law_cell", "_law_size"] (defScope s__law_word_by) := fn_by (by decide +kernel)
abbrev s__law_same : Stmt := top 7
abbrev N__law_same : List Str := ["_law_one", "_law_other", "_law_at"]
theorem sc__law_same : FnScope ["_law_one", "_law_other", "_law_at"] ["_law_one", "_law_other"] (defScope s__law_same) := fn_by (by decide +kernel)
abbrev s_law : Stmt := top 8
abbrev N_law : List Str := ["_law_script", "_law_size", "_law_start", "_law_one", "_law_other", "_law_due", "_law_told"]
theorem sc_law : FnScope ["_law_script", "_law_size", "_law_start", "_law_one", "_law_other", "_law_due", "_law_told"] ["_law_script"] (defScope s_law) := fn_by (by decide +kernel)
structure Bl (mg : Str → Option Value) : Prop where
  len_ : mg "len" = none
  range_ : mg "range" = none
  tuple_ : mg "tuple" = none
  sorted_ : mg "sorted" = none
  isinstance_ : mg "isinstance" = none
  str_ : mg "str" = none
  int_ : mg "int" = none
  bool_ : mg "bool" = none
  list_ : mg "list" = none
  min_ : mg "min" = none
  max_ : mg "max" = none
  set_ : mg "set" = none
  dict_ : mg "dict" = none
  ord_ : mg "ord" = none
  enumerate_ : mg "enumerate" = none
  ValueError_ : mg "ValueError" = none
end Rt
/-! ### small words for the proofs -/
local macro_rules | `(tactic| walk_at "side") => `(tactic| first | assumption | (exact rfl) | trivial | omega | decide | (simp only [List.length_append, List.length_cons, List.length_nil, List.length_take, List.length_drop, List.length_map] at *; omega))
local macro_rules | `(tactic| walk_at "ev") => `(tactic| first
  | (with_reducible exact Rt.ev_int) | (with_reducible exact Rt.ev_str) | (with_reducible exact Rt.ev_non) | (with_reducible exact Rt.ev_bl) | (with_reducible exact Rt.ea_nil) | (with_reducible exact Rt.eo_none) | (with_reducible exact Rt.et_yes)
  | ((with_reducible apply Rt.ev_var); (next => assumption); (next => exact rfl))
  | assumption
  | ((with_reducible apply Rt.ev_add); (next => walk_at "ev"); (next => walk_at "ev"))
  | ((with_reducible apply Rt.ev_sub); (next => walk_at "ev"); (next => walk_at "ev"))
  | ((with_reducible apply Rt.ev_addS); (next => walk_at "ev"); (next => walk_at "ev"); (next => walk_at "side"))
  | ((with_reducible apply Rt.ev_mul); (next => walk_at "ev"); (next => walk_at "ev"); (next => walk_at "mul"))
  | ((with_reducible apply Rt.ev_fdiv); (next => walk_at "ev"); (next => walk_at "ev"); (next => exact ⟨by decide, by decide⟩))
  | ((with_reducible apply Rt.ev_mod); (next => walk_at "ev"); (next => walk_at "ev"); (next => walk_at "side"))
  | ((with_reducible apply Rt.ev_lt); (next => walk_at "ev"); (next => walk_at "ev"))
  | ((with_reducible apply Rt.ev_le); (next => walk_at "ev"); (next => walk_at "ev"))
  | ((with_reducible apply Rt.ev_gt); (next => walk_at "ev"); (next => walk_at "ev"))
  | ((with_reducible apply Rt.ev_ge); (next => walk_at "ev"); (next => walk_at "ev"))
  | ((with_reducible apply Rt.ev_ltS); (next => walk_at "ev"); (next => walk_at "ev"))
  | ((with_reducible apply Rt.ev_leS); (next => walk_at "ev"); (next => walk_at "ev"))
  | ((with_reducible apply Rt.ev_gtS); (next => walk_at "ev"); (next => walk_at "ev"))
  | ((with_reducible apply Rt.ev_geS); (next => walk_at "ev"); (next => walk_at "ev"))
  | ((with_reducible apply Rt.ev_isN); (next => walk_at "ev"))
  | ((with_reducible apply Rt.ev_notN); (next => walk_at "ev"))
  | ((with_reducible apply Rt.ev_eqS); (next => walk_at "ev"); (next => walk_at "ev"))
  | ((with_reducible apply Rt.ev_eqI); (next => walk_at "ev"); (next => walk_at "ev"))
  | ((with_reducible apply Rt.ev_neS); (next => walk_at "ev"); (next => walk_at "ev"))
  | ((with_reducible apply Rt.ev_neI); (next => walk_at "ev"); (next => walk_at "ev"))
  | ((with_reducible apply Rt.ev_eqB); (next => walk_at "ev"); (next => walk_at "ev"))
  | ((with_reducible apply Rt.ev_neB); (next => walk_at "ev"); (next => walk_at "ev"))
  | ((with_reducible apply Rt.ev_ixT); (next => walk_at "ev"); (next => walk_at "ev"); (next => walk_at "at"))
  | ((with_reducible apply Rt.ev_ixL); (next => walk_at "ev"); (next => walk_at "ev"); (next => walk_at "at"))
  | ((with_reducible apply Rt.ev_ixR); (next => walk_at "ev"); (next => walk_at "ev"); (next => walk_at "at"))
  | ((with_reducible apply Rt.ev_ixS); (next => walk_at "ev"); (next => walk_at "ev"); (next => walk_at "side"); (next => walk_at "at"))
  | ((with_reducible apply Rt.ev_slS); (next => walk_at "ev"); (next => walk_at "ev"); (next => walk_at "ev"); (next => walk_at "side"))
  | ((with_reducible apply Rt.ev_lenS); (next => walk_at "ev"); (next => walk_at "side"))
  | ((with_reducible apply Rt.ev_lenL); (next => walk_at "ev"))
  | ((with_reducible apply Rt.ev_lenT); (next => walk_at "ev"))
  | ((with_reducible apply Rt.ev_lenR); (next => walk_at "ev"))
  | ((with_reducible apply Rt.ev_isi); (next => walk_at "ev"); (next => exact rfl); (next => walk_at "kit"))
  | ((with_reducible apply Rt.ev_tuple); (next => walk_at "ev"))
  | ((with_reducible apply Rt.ev_tup); (next => walk_at "ev"); (next => walk_at "side"))
  | ((with_reducible apply Rt.ev_lst); (next => walk_at "ev"); (next => walk_at "side"))
  | ((with_reducible apply Rt.ev_call); (next => walk_at "ev"); (next => walk_at "call"))
  | ((with_reducible apply Rt.ev_callN); (next => walk_at "ev"); (next => walk_at "call"))
  | ((with_reducible apply Rt.et_test); (next => walk_at "ev"))
  | ((with_reducible apply Rt.et_B); (next => walk_at "ev"))
  | ((with_reducible apply Rt.et_not); (next => walk_at "ev"))
  | ((with_reducible apply Rt.ea_cons); (next => walk_at "ev"); (next => walk_at "ev"))
  | ((with_reducible apply Rt.eo_some); (next => walk_at "ev"))
  | ((with_reducible apply Rt.ev_notV); (next => walk_at "ev"))
  | ((with_reducible apply Rt.EvN.ev); (next => walk_at "en"))
  | (with_reducible exact Rt.ev_c))
local macro_rules | `(tactic| walk_at "en") => `(tactic| first
  | ((with_reducible apply Rt.en_lst); (next => walk_at "ev"); (next => walk_at "side"))
  | ((with_reducible apply Rt.en_call); (next => walk_at "ev"); (next => walk_at "call"))
  | ((with_reducible apply Rt.en_cat); (next => walk_at "ev"); (next => walk_at "ev"); (next => walk_at "side"))
  | ((with_reducible apply Rt.en_slL); (next => walk_at "ev"); (next => walk_at "ev"); (next => walk_at "ev")))
local macro_rules | `(tactic| walk_at "at") => `(tactic| first | assumption | exact rfl)
local macro_rules | `(tactic| walk_at "mul") => `(tactic| first | assumption | exact .inr ⟨by decide, by decide⟩ | exact .inl ⟨by decide, by decide⟩)
local macro_rules | `(tactic| walk_at "deq") => `(tactic| first | (exact rfl) | assumption | (exact congrArg Rt.D.int (by omega)) | decide +kernel | (simp only [Rt.cutL_to, Rt.cutL_from, Rt.cutL_nn, *]; done) | exact decide_eq_true (by assumption) | exact decide_eq_false (by assumption))
local macro_rules | `(tactic| walk_at "evq") => `(tactic| (refine Rt.Ev.to (by walk_at "ev") ?_; walk_at "deq"))
local macro_rules | `(tactic| walk_at "etq") => `(tactic| (refine Rt.EvT.to (by walk_at "ev") ?_; walk_at "deq"))
local macro_rules | `(tactic| walk_at "kit") => `(tactic| first | (with_reducible exact Rt.kit_NoneType_str) | (with_reducible exact Rt.kit_NoneType_int) | (with_reducible exact Rt.kit_NoneType_bool) | (with_reducible exact Rt.kit_NoneType_tuple) | (with_reducible exact Rt.kit_NoneType_list) | (with_reducible exact Rt.kit_bool_str) | (with_reducible exact Rt.kit_bool_int) | (with_reducible exact Rt.kit_bool_bool) | (with_reducible exact Rt.kit_bool_tuple) | (with_reducible exact Rt.kit_bool_list) | (with_reducible exact Rt.kit_int_str) | (with_reducible exact Rt.kit_int_int) | (with_reducible exact Rt.kit_int_bool) | (with_reducible exact Rt.kit_int_tuple) | (with_reducible exact Rt.kit_int_list) | (with_reducible exact Rt.kit_str_str) | (with_reducible exact Rt.kit_str_int) | (with_reducible exact Rt.kit_str_bool) | (with_reducible exact Rt.kit_str_tuple) | (with_reducible exact Rt.kit_str_list) | (with_reducible exact Rt.kit_tuple_str) | (with_reducible exact Rt.kit_tuple_int) | (with_reducible exact Rt.kit_tuple_bool) | (with_reducible exact Rt.kit_tuple_tuple) | (with_reducible exact Rt.kit_tuple_list) | (with_reducible exact Rt.kit_list_str) | (with_reducible exact Rt.kit_list_int) | (with_reducible exact Rt.kit_list_bool) | (with_reducible exact Rt.kit_list_tuple) | (with_reducible exact Rt.kit_list_list))
namespace Rt
open PySem L2
/-- the longest common beginning -/
def comL : Tx → Tx → Tx
  | a :: r, b :: s => if a = b then a :: comL r s else []
  | _, _ => []
theorem comL_pre1 : ∀ (a b : Tx), comL a b <+: a
  | [], _ => by unfold comL; exact List.nil_prefix
  | _ :: _, [] => by unfold comL; exact List.nil_prefix
  | x :: r, y :: s => by
    unfold comL
    split
    · exact List.cons_prefix_cons.mpr ⟨rfl, comL_pre1 r s⟩
    · exact List.nil_prefix
theorem comL_len1 (a b : Tx) : (comL a b).length ≤ a.length := (comL_pre1 a b).length_le
theorem comL_take (a b : Tx) : a.take (comL a b).length = comL a b := (List.prefix_iff_eq_take.mp (comL_pre1 a b)).symm
/-- a turn of the walk -/
theorem com_step : ∀ (k : Nat) (a b : Tx), a.take k = b.take k → k ≤ a.length → k ≤ b.length → (k < a.length → k < b.length → a[k]? = b[k]? → k + 1 ≤ (comL a b).length) ∧ k ≤ (comL a b).length ∧ (¬ (k < a.length ∧ k < b.length ∧ a[k]? = b[k]?) → (comL a b).length = k)
  | 0, [], b, _, _, _ => ⟨fun h => absurd h (by simp), Nat.zero_le _, fun _ => by simp [comL]⟩
  | 0, x :: r, [], _, _, _ => ⟨fun _ h => absurd h (by simp), Nat.zero_le _, fun _ => by simp [comL]⟩
  | 0, x :: r, y :: s, _, _, _ => by
    refine ⟨fun _ _ h => ?_, Nat.zero_le _, fun h => ?_⟩
    · simp at h; unfold comL; rw [if_pos h]; simp
    · unfold comL
      rw [if_neg (fun q => h ⟨by simp, by simp, by simp [q]⟩)]; rfl
  | k + 1, [], b, _, h, _ => absurd h (by simp)
  | k + 1, x :: r, [], _, _, h => absurd h (by simp)
  | k + 1, x :: r, y :: s, h, h1, h2 => by
    rw [List.take_succ_cons, List.take_succ_cons] at h
    injection h with e1 e2
    have ih := com_step k r s e2 (by simpa using h1) (by simpa using h2)
    have ec : (comL (x :: r) (y :: s)).length = (comL r s).length + 1 := by
      rw [comL, if_pos e1]; rfl
    rw [ec]
    refine ⟨fun q1 q2 q3 => ?_, by omega, fun q => ?_⟩
    · have := ih.1 (by simpa using q1) (by simpa using q2) (by simpa using q3)
      omega
    · have := ih.2.2 (fun z => q (by simpa using z))
      omega
theorem atI_some {l : Tx} {k : Nat} (h : k < l.length) : atI l (k : Int) = some (l.getD k 0) := by
  rw [atI_nat (List.getElem?_eq_getElem h)]
  rw [List.getD_eq_getElem?_getD, List.getElem?_eq_getElem h]; rfl
theorem getD_eq {a b : Tx} {k : Nat} (h1 : k < a.length) (h2 : k < b.length) : ([a.getD k 0] = [b.getD k 0]) ↔ a[k]? = b[k]? := by
  rw [List.getD_eq_getElem?_getD, List.getD_eq_getElem?_getD, List.getElem?_eq_getElem h1, List.getElem?_eq_getElem h2]
  simp
theorem take_succ_eq {a b : Tx} {k : Nat} (h : a.take k = b.take k) (e : a[k]? = b[k]?) : a.take (k + 1) = b.take (k + 1) := by
  rw [List.take_add_one, List.take_add_one, h, e]
end Rt

namespace Rt
open PySem L2
/-- the signs of names -/
def alpha : Tx := (List.range 95).map (fun k => 32 + k) |>.filter (fun c => c != 37)
theorem alpha_is : tx " !\"#$&'()*+,-./0123456789:;<=>?@ABCDEFGHIJKLMNOPQRSTUVWXYZ[\\]^_`" ++ tx "abcdefghijklmnopqrstuvwxyz{|}~" = alpha := by decide +kernel
theorem alpha_len : alpha.length = 94 := by decide +kernel
def okS (c : Nat) : Prop := 32 ≤ c ∧ c ≤ 126 ∧ c ≠ 37
def okT (l : Tx) : Prop := ∀ c ∈ l, okS c
theorem alpha_ok : okT alpha := by
  intro c hc
  have h := List.mem_filter.mp hc
  obtain ⟨k, hk, rfl⟩ := List.mem_map.mp h.1
  have := List.mem_range.mp hk
  have h2 := h.2
  simp at h2
  exact ⟨by omega, by omega, h2⟩
def signN (i : Int) : Nat := alpha.getD (i % 94).toNat 32
theorem sign_lt (i : Int) : (i % 94).toNat < alpha.length := by rw [alpha_len]; omega
theorem sign_at (i : Int) : atI alpha (i % 94) = some (signN i) := by
  have h := atI_nat (List.getElem?_eq_getElem (sign_lt i))
  rw [show (((i % 94).toNat : Nat) : Int) = i % 94 by omega] at h
  rw [h]
  unfold signN
  rw [List.getD_eq_getElem?_getD, List.getElem?_eq_getElem (sign_lt i)]; rfl
theorem signN_ok (i : Int) : okS (signN i) := by
  unfold signN
  rw [List.getD_eq_getElem?_getD, List.getElem?_eq_getElem (sign_lt i)]
  exact alpha_ok _ (List.getElem_mem _)
def numN (c : Int) : Nat → Int
  | 0 => c
  | k + 1 => (numN c k * 48271 + 11) % 2147483647
def wordL (c : Int) : Nat → Tx
  | 0 => []
  | k + 1 => wordL c k ++ [signN (65 + numN c (k + 1) / 7 % (if c % 2 = 0 then 2 else 94))]
theorem wordL_len (c : Int) : ∀ n, (wordL c n).length = n
  | 0 => rfl
  | n + 1 => by rw [wordL, List.length_append, wordL_len c n]; rfl
theorem okT_nil : okT [] := fun c h => by cases h
theorem okT_app {a b : Tx} (ha : okT a) (hb : okT b) : okT (a ++ b) := fun c h => (List.mem_append.mp h).elim (ha c) (hb c)
theorem okT_take {a : Tx} (n : Nat) (ha : okT a) : okT (a.take n) := fun c h => ha c (List.mem_of_mem_take h)
theorem okT_drop {a : Tx} (n : Nat) (ha : okT a) : okT (a.drop n) := fun c h => ha c (List.mem_of_mem_drop h)
theorem wordL_ok (c : Int) : ∀ n, okT (wordL c n)
  | 0 => okT_nil
  | n + 1 => okT_app (wordL_ok c n) (fun x hx => by rw [List.mem_singleton.mp hx]; exact signN_ok _)
theorem pick2 {i : Int} {a b : D} : atI [a, b] (i % 2) = some (if i % 2 = 0 then a else b) := by
  have h : i % 2 = 0 ∨ i % 2 = 1 := by omega
  rcases h with h | h
  · rw [h]; rfl
  · rw [h]; rfl
end Rt

namespace Rt
open PySem L2
theorem comL_comm : ∀ (a b : Tx), comL a b = comL b a
  | [], [] => rfl
  | [], _ :: _ => rfl
  | _ :: _, [] => rfl
  | x :: r, y :: s => by
    unfold comL
    by_cases h : x = y
    · rw [if_pos h, if_pos h.symm, comL_comm r s, h]
    · rw [if_neg h, if_neg (fun q => h q.symm)]
theorem comL_pre2 (a b : Tx) : comL a b <+: b := by rw [comL_comm]; exact comL_pre1 b a
theorem comL_len2 (a b : Tx) : (comL a b).length ≤ b.length := (comL_pre2 a b).length_le
theorem comL_full : ∀ (a b : Tx), (comL a b).length = b.length → b <+: a := fun a b h => by
  have h1 := comL_pre2 a b
  have e : comL a b = b := h1.eq_of_length h
  rw [← e]; exact comL_pre1 a b
theorem comL_of_pre : ∀ {a b : Tx}, b <+: a → comL a b = b
  | [], [], _ => rfl
  | _ :: _, [], _ => rfl
  | [], y :: s, h => by simp at h
  | x :: r, y :: s, h => by
    obtain ⟨h1, h2⟩ := List.cons_prefix_cons.mp h
    unfold comL
    rw [if_pos h1.symm, comL_of_pre h2, h1]
end Rt

namespace Rt
open PySem PySem.Spec PyProof.Rows L2
section
variable {P : Program} {w : World} {K : PySem.W.Frag} {mg : Str → Option Value} {base : Heap}
def Rcommon : List D → D → Prop := fun ds d => ∃ a b : Tx, ds = [.str a, .str b] ∧ a.length ≤ 100000 ∧ b.length ≤ 100000 ∧ d = .str (comL a b)
theorem Rcommon_mk {a b : Tx} (ha : a.length ≤ 100000) (hb : b.length ≤ 100000) : Rcommon [.str a, .str b] (.str (comL a b)) := ⟨a, b, rfl, ha, hb, rfl⟩
local macro_rules | `(tactic| walk_at "call") => `(tactic| (with_reducible refine Rt.Rcommon_mk ?_ ?_ <;> walk_at "side"))
theorem cal_common (F : Dfn K mg "common" s_common ["one", "other"]) (B : Bl mg) : Cal P w K mg base CX0 1 "common" (Fn K Rcommon) := by
  refine cal_fn F sc_common (fun ds d h => by obtain ⟨a, b, rfl, _⟩ := h; rfl) fun cdv A outer s f H vs ds d hr hR S0 => ?_
  obtain ⟨a, b, rfl, ha, hb, rfl⟩ := hR
  refine ⟨_, (pss_cons (ps_set (i := 2) sc_common.nd rfl (Or.inl rfl) pe_int) (pss_cons (ps_while PassesOwn.never (PW.pt (pw_and (pt_cmpR op_lt (pv 2) (pe_callB call_len_str (by rfl) B.len_ PySem.boot_len (pa_cons (pv 0) pa_nil)) (nomark _)) (pw_and (pt_cmpR op_lt (pv 2) (pe_callB call_len_str (by rfl) B.len_ PySem.boot_len (pa_cons (pv 1) pa_nil)) (nomark _)) (pw_and1 (pt_cmpR op_eq (pe_ix ix_str (pv 0) (pv 2) (fun _ _ => rfl)) (pe_ix ix_str (pv 1) (pv 2) (fun _ _ => rfl)) (nomark _)))))) (pss_one (ps_set (i := 2) sc_common.nd rfl (Or.inl rfl) (pe_op op_add (pv 2) pe_int)))) (pss_one (ps_ret (pe_slice sl_str (pv 0) po_none (po_some (pv 2))))))), fun nx Q kn kr => ?_⟩
  try dsimp only [cxOf]
  generalize start _ vs = σ at *
  refine q_asg S0 (by walk_at "ev") fun σ1 H1 e1 S1 => ?_
  refine q_while (fun m ds => ∃ k : Nat, ds = [some (.str a), some (.str b), some (.int (k : Int))] ∧ a.take k = b.take k ∧ k ≤ a.length ∧ k ≤ b.length ∧ m = a.length - k) a.length S1 ⟨0, rfl, by simp, by simp, by simp, by simp⟩ ?_
  rintro m ds σ2 H2 ⟨k, rfl, h1, h2, h3, rfl⟩ e2 S2
  have cs := com_step k a b h1 h2 h3
  refine ⟨_, et_and (b := decide ((k : Int) < (b.length : Int)) && decide ([a.getD k 0] = [b.getD k 0])) (by walk_at "ev") fun c1 => et_and (by walk_at "ev") fun c2 => ?_, fun c H3 N e3 kN => ?_, fun c H3 e3 => ?_⟩
  · have i1 := atI_some (l := a) (k := k) (by have := of_decide_eq_true c1; omega)
    have i2 := atI_some (l := b) (k := k) (by have := of_decide_eq_true c2; omega)
    walk_at "ev"
  · rw [Bool.and_eq_true, Bool.and_eq_true, decide_eq_true_eq, decide_eq_true_eq, decide_eq_true_eq] at c
    obtain ⟨c1, c2, c3⟩ := c
    have S3 := S2.mono e3
    have c3' := (getD_eq (by omega) (by omega)).mp c3
    exact s_asg S3 (by walk_at "evq") fun σ4 H4 e4 S4 => kN _ _ _ _ (by omega) ⟨k + 1, rfl, take_succ_eq h1 c3', by omega, by omega, rfl⟩ e4 S4
  · have S3 := S2.mono e3
    have ek : (comL a b).length = k := cs.2.2 (fun z => by
      have z3 := (getD_eq z.1 z.2.1).mpr z.2.2
      have : (decide ((k : Int) < (a.length : Int)) && (decide ((k : Int) < (b.length : Int)) && decide ([a.getD k 0] = [b.getD k 0]))) = true := by
        rw [decide_eq_true (by omega), decide_eq_true (by omega), decide_eq_true z3]; rfl
      rw [this] at c; cases c)
    refine s_ret (d := .str (comL a b)) (Ev.to (by walk_at "ev") ?_) fun v H4 e4 hv => kr v H4 (((e1.trans e2).trans e3).trans e4) hv
    rw [cutL_to, ← ek, comL_take]
end
end Rt
local macro_rules | `(tactic| walk_at "call") => `(tactic| (with_reducible refine Rt.Rcommon_mk ?_ ?_ <;> walk_at "side"))
namespace Rt
open PySem PySem.Spec PyProof.Rows L2
section
variable {P : Program} {w : World} {K : PySem.W.Frag} {mg : Str → Option Value} {base : Heap}
def restL (n b : Tx) : D := if b <+: n then .str (n.drop b.length) else .non
def Rrest : List D → D → Prop := fun ds d => ∃ n b : Tx, ds = [.str n, .str b] ∧ n.length ≤ 100000 ∧ b.length ≤ 100000 ∧ d = restL n b
theorem Rrest_mk {n b : Tx} (ha : n.length ≤ 100000) (hb : b.length ≤ 100000) : Rrest [.str n, .str b] (restL n b) := ⟨n, b, rfl, ha, hb, rfl⟩
local macro_rules | `(tactic| walk_at "call") => `(tactic| (with_reducible refine Rt.Rrest_mk ?_ ?_ <;> walk_at "side"))
theorem cal_rest (F : Dfn K mg "rest" s_rest ["name", "beginning"]) (B : Bl mg) : Cal P w K mg base CX0 1 "rest" (Fn K Rrest) := by
  refine cal_fn F sc_rest (fun ds d h => by obtain ⟨a, b, rfl, _⟩ := h; rfl) fun cdv A outer s f H vs ds d hr hR S0 => ?_
  obtain ⟨n, b, rfl, ha, hb, rfl⟩ := hR
  refine ⟨_, (pss_cons (ps_if (pt_cmpR op_ne (pe_slice sl_str (pv 0) po_none (po_some (pe_callB call_len_str (by rfl) B.len_ PySem.boot_len (pa_cons (pv 1) pa_nil)))) (pv 1) (nomark _)) (pss_one (ps_ret pe_non)) pss_nil) (pss_one (ps_ret (pe_slice sl_str (pv 0) (po_some (pe_callB call_len_str (by rfl) B.len_ PySem.boot_len (pa_cons (pv 1) pa_nil))) po_none)))), fun nx Q kn kr => ?_⟩
  try dsimp only [cxOf]
  generalize start _ vs = σ at *
  refine q_if0 (b := !decide (n.take b.length = b)) (EvT.to (by walk_at "ev") (by rw [cutL_to])) (fun c H1 e1 => ?_) (fun c H1 e1 => ?_)
  · have hp : ¬ b <+: n := fun h => by
      rw [List.prefix_iff_eq_take] at h
      rw [decide_eq_true h.symm] at c; cases c
    exact s_ret ev_non fun v H2 e2 hv => kr v H2 (e1.trans e2) (by unfold restL; rw [if_neg hp]; exact hv)
  · have hp : b <+: n := by
      rw [List.prefix_iff_eq_take]
      by_cases h : n.take b.length = b
      · exact h.symm
      · rw [decide_eq_false h] at c; cases c
    have S1 := S0.mono e1
    refine s_ret (d := .str (n.drop b.length)) (Ev.to (by walk_at "ev") (by rw [cutL_from])) fun v H2 e2 hv => kr v H2 (e1.trans e2) (by unfold restL; rw [if_pos hp]; exact hv)
end
end Rt
local macro_rules | `(tactic| walk_at "call") => `(tactic| (with_reducible refine Rt.Rrest_mk ?_ ?_ <;> walk_at "side"))
namespace Rt
open PySem PySem.Spec PyProof.Rows L2
section
variable {P : Program} {w : World} {K : PySem.W.Frag} {mg : Str → Option Value} {base : Heap}
def Rcell : List D → D → Prop := fun ds d => ∃ (ns : List Int) (i : Int), ds = [.scr ns, .int i] ∧ 0 ≤ i ∧ d = .int (ns.getD i.toNat 0)
theorem Rcell_mk {ns : List Int} {i : Int} (h : 0 ≤ i) : Rcell [.scr ns, .int i] (.int (ns.getD i.toNat 0)) := ⟨ns, i, rfl, h, rfl⟩
local macro_rules | `(tactic| walk_at "call") => `(tactic| (with_reducible refine Rt.Rcell_mk ?_ <;> walk_at "side"))
theorem cal_cell_at (F : Dfn K mg "_law_cell_at" s__law_cell_at ["_law_script", "_law_k"]) (B : Bl mg) : Cal P w K mg base CX0 1 "_law_cell_at" (Fn K Rcell) := by
  refine cal_fn F sc__law_cell_at (fun ds d h => by obtain ⟨a, b, rfl, _⟩ := h; rfl) fun cdv A outer s f H vs ds d hr hR S0 => ?_
  obtain ⟨ns, i, rfl, hi, rfl⟩ := hR
  refine ⟨_, (pss_cons (ps_if (pt_cmpR op_lt (pv 1) (pe_callB call_len_seq (by rfl) B.len_ PySem.boot_len (pa_cons (pv 0) pa_nil)) (nomark _)) (pss_one (ps_ret (pe_ix ix_list (pv 0) (pv 1) (fun _ _ => rfl)))) pss_nil) (pss_one (ps_ret pe_int))), fun nx Q kn kr => ?_⟩
  try dsimp only [cxOf]
  generalize start _ vs = σ at *
  refine q_if0 (b := decide (i < (ns.length : Int))) (by walk_at "ev") (fun c H1 e1 => ?_) (fun c H1 e1 => ?_)
  · have c' := of_decide_eq_true c
    have S1 := S0.mono e1
    have hl : i.toNat < ns.length := by omega
    have h : atI ns i = some (ns.getD i.toNat 0) := by
      have q := atI_nat (List.getElem?_eq_getElem hl)
      rw [show ((i.toNat : Nat) : Int) = i by omega] at q
      rw [q, List.getD_eq_getElem?_getD, List.getElem?_eq_getElem hl]; rfl
    exact s_ret (ev_ixR (by walk_at "ev") (by walk_at "ev") h) fun v H2 e2 hv => kr v H2 (e1.trans e2) hv
  · have c' := of_decide_eq_false c
    refine s_ret (K := K) (d := .int 0) ev_int fun v H2 e2 hv => kr v H2 (e1.trans e2) ?_
    rw [List.getD_eq_getElem?_getD, List.getElem?_eq_none (by omega)]; exact hv
end
end Rt
local macro_rules | `(tactic| walk_at "call") => `(tactic| (with_reducible refine Rt.Rcell_mk ?_ <;> walk_at "side"))
namespace Rt
open PySem PySem.Spec PyProof.Rows L2
section
variable {P : Program} {w : World} {K : PySem.W.Frag} {mg : Str → Option Value} {base : Heap}
def Rsign : List D → D → Prop := fun ds d => ∃ i : Int, ds = [.int i] ∧ d = .str [signN i]
theorem Rsign_mk {i : Int} : Rsign [.int i] (.str [signN i]) := ⟨i, rfl, rfl⟩
local macro_rules | `(tactic| walk_at "call") => `(tactic| with_reducible exact Rt.Rsign_mk)
theorem cal_sign_by (F : Dfn K mg "_law_sign_by" s__law_sign_by ["_law_cell"]) (B : Bl mg) : Cal P w K mg base CX0 1 "_law_sign_by" (Fn K Rsign) := by
  refine cal_fn F sc__law_sign_by (fun ds d h => by obtain ⟨a, rfl, _⟩ := h; rfl) fun cdv A outer s f H vs ds d hr hR S0 => ?_
  obtain ⟨i, rfl, rfl⟩ := hR
  refine ⟨_, (pss_cons (ps_set (i := 1) sc__law_sign_by.nd rfl (Or.inl rfl) pe_str) (pss_cons (ps_set (i := 1) sc__law_sign_by.nd rfl (Or.inl rfl) (pe_op op_add_str (pv 1) pe_str)) (pss_one (ps_ret (pe_ix ix_str (pv 1) (pe_op op_mod (pv 0) pe_int) (fun _ _ => rfl)))))), fun nx Q kn kr => ?_⟩
  try dsimp only [cxOf]
  generalize start _ vs = σ at *
  refine q_asg S0 ev_str fun σ1 H1 e1 S1 => ?_
  refine q_asg S1 (d := .str alpha) (Ev.to (ev_addS (by walk_at "ev") ev_str (by decide +kernel)) (congrArg D.str alpha_is)) fun σ2 H2 e2 S2 => ?_
  exact s_ret (ev_ixS (l := alpha) (by walk_at "ev") (by walk_at "ev") (by rw [alpha_len]; decide) (sign_at i)) fun v H3 e3 hv => kr v H3 ((e1.trans e2).trans e3) hv
end
end Rt
local macro_rules | `(tactic| walk_at "call") => `(tactic| with_reducible exact Rt.Rsign_mk)
namespace Rt
open PySem PySem.Spec PyProof.Rows L2
section
variable {P : Program} {w : World} {K : PySem.W.Frag} {mg : Str → Option Value} {base : Heap}
def Rword : List D → D → Prop := fun ds d => ∃ (c n : Int), ds = [.int c, .int n] ∧ 0 ≤ n ∧ n ≤ 1000 ∧ d = .str (wordL c n.toNat)
theorem Rword_mk {c n : Int} (h : 0 ≤ n) (h2 : n ≤ 1000) : Rword [.int c, .int n] (.str (wordL c n.toNat)) := ⟨c, n, rfl, h, h2, rfl⟩
local macro_rules | `(tactic| walk_at "call") => `(tactic| (with_reducible refine Rt.Rword_mk ?_ ?_ <;> walk_at "side"))
theorem cal_word_by (F : Dfn K mg "_law_word_by" s__law_word_by ["_law_cell", "_law_size"]) (B : Bl mg) (c__law_sign_by : Cal P w K mg base CX0 1 "_law_sign_by" (Fn K Rsign)) : Cal P w K mg base CX0 2 "_law_word_by" (Fn K Rword) := by
  refine cal_fn F sc__law_word_by (fun ds d h => by obtain ⟨a, b, rfl, _⟩ := h; rfl) fun cdv A outer s f H vs ds d hr hR S0 => ?_
  obtain ⟨c, n, rfl, h0, h1, rfl⟩ := hR
  refine ⟨_, (pss_cons (ps_set (i := 2) sc__law_word_by.nd rfl (Or.inl rfl) pe_str) (pss_cons (ps_set (i := 3) sc__law_word_by.nd rfl (Or.inl rfl) (pv 0)) (pss_cons (ps_for PassesOwn.never rfl (pi_range1 (by rfl) B.range_ (pa_cons (pv 1) pa_nil)) (pg_name (i := 4) sc__law_word_by.nd rfl (Or.inl rfl)) (pss_cons (ps_set (i := 3) sc__law_word_by.nd rfl (Or.inl rfl) (pe_op op_mod (pe_op op_add (pe_op op_mul (pv 3) pe_int) pe_int) pe_int)) (pss_one (ps_set (i := 2) sc__law_word_by.nd rfl (Or.inl rfl) (pe_op op_add_str (pv 2) (pe_c c__law_sign_by hr (by omega) (by rfl) (pa_cons (pe_op op_add pe_int (pe_op op_mod (pe_op op_fdiv (pv 3) pe_int) (pe_ix ix_list (pe_lst (pa_cons pe_int (pa_cons pe_int pa_nil))) (pe_op op_mod (pv 0) pe_int) (fun _ _ => rfl)))) pa_nil))))))) (pss_one (ps_ret (pv 2)))))), fun nx Q kn kr => ?_⟩
  try dsimp only [cxOf]
  generalize start _ vs = σ at *
  refine q_asg S0 ev_str fun σ1 H1 e1 S1 => ?_
  refine q_asg S1 (by walk_at "ev") fun σ2 H2 e2 S2 => ?_
  refine q_forR n.toNat (by walk_at "ev") rfl ⟨by omega, by omega⟩ (fun k ds => ∃ x, ds = [some (.int c), some (.int n), some (.str (wordL c k)), some (.int (numN c k)), x]) S2 ⟨none, rfl⟩ ?_ ?_
  · rintro k hk ds σ3 H3 N ⟨x, rfl⟩ e3 S3 kN
    refine q_asg S3 (d := .int (numN c (k + 1))) (by walk_at "evq") fun σ4 H4 e4 S4 => ?_
    have hp := pick2 (i := c) (a := .int 2) (b := .int 94)
    have hp' : atI [D.int 2, D.int 94] (c % 2) = some (.int (if c % 2 = 0 then 2 else 94)) := by rw [hp]; split <;> rfl
    have pos : (0 : Int) < (if c % 2 = 0 then 2 else 94) := by split <;> decide
    have hl := wordL_len c k
    refine s_asg S4 (d := .str (wordL c (k + 1))) (by walk_at "evq") fun σ5 H5 e5 S5 => kN _ _ _ ⟨_, rfl⟩ (e4.trans e5) S5
  · rintro ds σ3 H3 ⟨x, rfl⟩ e3 S3
    exact s_ret (by walk_at "ev") fun v H4 e4 hv => kr v H4 (((e1.trans e2).trans e3).trans e4) hv
end
end Rt
local macro_rules | `(tactic| walk_at "call") => `(tactic| (with_reducible refine Rt.Rword_mk ?_ ?_ <;> walk_at "side"))
namespace Rt
open PySem PySem.Spec PyProof.Rows L2
section
variable {P : Program} {w : World} {K : PySem.W.Frag} {mg : Str → Option Value} {base : Heap}
def Rsame : List D → D → Prop := fun ds d => ∃ a b : Tx, ds = [.str a, .str b] ∧ a.length ≤ 100000 ∧ b.length ≤ 100000 ∧ d = .int ((comL a b).length : Int)
theorem Rsame_mk {a b : Tx} (ha : a.length ≤ 100000) (hb : b.length ≤ 100000) : Rsame [.str a, .str b] (.int ((comL a b).length : Int)) := ⟨a, b, rfl, ha, hb, rfl⟩
local macro_rules | `(tactic| walk_at "call") => `(tactic| (with_reducible refine Rt.Rsame_mk ?_ ?_ <;> walk_at "side"))
theorem cal_same (F : Dfn K mg "_law_same" s__law_same ["_law_one", "_law_other"]) (B : Bl mg) : Cal P w K mg base CX0 1 "_law_same" (Fn K Rsame) := by
  refine cal_fn F sc__law_same (fun ds d h => by obtain ⟨a, b, rfl, _⟩ := h; rfl) fun cdv A outer s f H vs ds d hr hR S0 => ?_
  obtain ⟨a, b, rfl, ha, hb, rfl⟩ := hR
  refine ⟨_, (pss_cons (ps_set (i := 2) sc__law_same.nd rfl (Or.inl rfl) pe_int) (pss_cons (ps_while PassesOwn.never (PW.pt (pw_and (pt_cmpR op_lt (pv 2) (pe_callB call_len_str (by rfl) B.len_ PySem.boot_len (pa_cons (pv 0) pa_nil)) (nomark _)) (pw_and (pt_cmpR op_lt (pv 2) (pe_callB call_len_str (by rfl) B.len_ PySem.boot_len (pa_cons (pv 1) pa_nil)) (nomark _)) (pw_and1 (pt_cmpR op_eq (pe_ix ix_str (pv 0) (pv 2) (fun _ _ => rfl)) (pe_ix ix_str (pv 1) (pv 2) (fun _ _ => rfl)) (nomark _)))))) (pss_one (ps_set (i := 2) sc__law_same.nd rfl (Or.inl rfl) (pe_op op_add (pv 2) pe_int)))) (pss_one (ps_ret (pv 2))))), fun nx Q kn kr => ?_⟩
  try dsimp only [cxOf]
  generalize start _ vs = σ at *
  refine q_asg S0 (by walk_at "ev") fun σ1 H1 e1 S1 => ?_
  refine q_while (fun m ds => ∃ k : Nat, ds = [some (.str a), some (.str b), some (.int (k : Int))] ∧ a.take k = b.take k ∧ k ≤ a.length ∧ k ≤ b.length ∧ m = a.length - k) a.length S1 ⟨0, rfl, by simp, by simp, by simp, by simp⟩ ?_
  rintro m ds σ2 H2 ⟨k, rfl, h1, h2, h3, rfl⟩ e2 S2
  have cs := com_step k a b h1 h2 h3
  refine ⟨_, et_and (b := decide ((k : Int) < (b.length : Int)) && decide ([a.getD k 0] = [b.getD k 0])) (by walk_at "ev") fun c1 => et_and (by walk_at "ev") fun c2 => ?_, fun c H3 N e3 kN => ?_, fun c H3 e3 => ?_⟩
  · have i1 := atI_some (l := a) (k := k) (by have := of_decide_eq_true c1; omega)
    have i2 := atI_some (l := b) (k := k) (by have := of_decide_eq_true c2; omega)
    walk_at "ev"
  · rw [Bool.and_eq_true, Bool.and_eq_true, decide_eq_true_eq, decide_eq_true_eq, decide_eq_true_eq] at c
    obtain ⟨c1, c2, c3⟩ := c
    have S3 := S2.mono e3
    have c3' := (getD_eq (by omega) (by omega)).mp c3
    exact s_asg S3 (by walk_at "evq") fun σ4 H4 e4 S4 => kN _ _ _ _ (by omega) ⟨k + 1, rfl, take_succ_eq h1 c3', by omega, by omega, rfl⟩ e4 S4
  · have S3 := S2.mono e3
    have ek : (comL a b).length = k := cs.2.2 (fun z => by
      have z3 := (getD_eq z.1 z.2.1).mpr z.2.2
      have : (decide ((k : Int) < (a.length : Int)) && (decide ((k : Int) < (b.length : Int)) && decide ([a.getD k 0] = [b.getD k 0]))) = true := by
        rw [decide_eq_true (by omega), decide_eq_true (by omega), decide_eq_true z3]; rfl
      rw [this] at c; cases c)
    exact s_ret (d := .int (((comL a b).length : Nat) : Int)) (Ev.to (by walk_at "ev") (by rw [ek])) fun v H4 e4 hv => kr v H4 (((e1.trans e2).trans e3).trans e4) hv
end
end Rt
local macro_rules | `(tactic| walk_at "call") => `(tactic| (with_reducible refine Rt.Rsame_mk ?_ ?_ <;> walk_at "side"))
namespace Rt
open PySem PySem.Spec PyProof.Rows L2
section
variable {P : Program} {w : World} {K : PySem.W.Frag} {mg : Str → Option Value} {base : Heap}
def Rlaw : List D → D → Prop := fun ds d => ∃ ns : List Int, ds = [.scr ns] ∧ ns.length ≤ 63 ∧ d = .bl true
theorem ok_law {f : Addr} {fd : FuncData} (F : L2.Fun K "law" "law" s_law f fd) (B : Bl mg) (c__law_cell_at : Cal P w K mg base CX0 1 "_law_cell_at" (Fn K Rcell)) (c__law_word_by : Cal P w K mg base CX0 2 "_law_word_by" (Fn K Rword))
    (c__law_same : Cal P w K mg base CX0 1 "_law_same" (Fn K Rsame)) (c_common : Cal P w K mg base CX0 1 "common" (Fn K Rcommon)) (c_rest : Cal P w K mg base CX0 1 "rest" (Fn K Rrest)) : FnOk P w K mg base CX0 3 f fd ["_law_script"] (Fn K Rlaw) := by
  refine ok_fn F sc_law (fun ds d h => by obtain ⟨a, rfl, _⟩ := h; rfl) fun cdv A outer s f H vs ds d hr hR S0 => ?_
  obtain ⟨ns, rfl, hns, rfl⟩ := hR
  refine ⟨_, (pss_cons (ps_set (i := 1) sc_law.nd rfl (Or.inl rfl) (pe_op op_mod (pe_c c__law_cell_at hr (by omega) (by rfl) (pa_cons (pv 0) (pa_cons pe_int pa_nil))) pe_int)) (pss_cons (ps_if (pt_cmpR op_eq (pe_op op_mod (pe_op op_fdiv (pe_c c__law_cell_at hr (by omega) (by rfl) (pa_cons (pv 0) (pa_cons pe_int pa_nil))) pe_int) pe_int) pe_int (nomark _)) (pss_one (ps_set (i := 1) sc_law.nd rfl (Or.inl rfl) (pe_op op_mod (pe_op op_fdiv (pe_c c__law_cell_at hr (by omega) (by rfl) (pa_cons (pv 0) (pa_cons pe_int pa_nil))) pe_int) pe_int))) pss_nil) (pss_cons (ps_set (i := 2) sc_law.nd rfl (Or.inl rfl) (pe_c c__law_word_by hr (by omega) (by rfl) (pa_cons (pe_c c__law_cell_at hr (by omega) (by rfl) (pa_cons (pv 0) (pa_cons pe_int pa_nil))) (pa_cons (pv 1) pa_nil)))) (pss_cons (ps_set (i := 3) sc_law.nd rfl (Or.inl rfl) (pe_op op_add_str (pv 2) (pe_c c__law_word_by hr (by omega) (by rfl) (pa_cons (pe_op op_fdiv (pe_c c__law_cell_at hr (by omega) (by rfl) (pa_cons (pv 0) (pa_cons pe_int pa_nil))) pe_int) (pa_cons (pe_op op_mod (pe_c c__law_cell_at hr (by omega) (by rfl) (pa_cons (pv 0) (pa_cons pe_int pa_nil))) pe_int) pa_nil))))) (pss_cons (ps_set (i := 4) sc_law.nd rfl (Or.inl rfl) (pe_op op_add_str (pv 2) (pe_c c__law_word_by hr (by omega) (by rfl) (pa_cons (pe_op op_fdiv (pe_c c__law_cell_at hr (by omega) (by rfl) (pa_cons (pv 0) (pa_cons pe_int pa_nil))) pe_int) (pa_cons (pe_op op_mod (pe_c c__law_cell_at hr (by omega) (by rfl) (pa_cons (pv 0) (pa_cons pe_int pa_nil))) pe_int) pa_nil))))) (pss_cons (ps_if (pt_cmpR op_eq (pe_op op_mod (pe_c c__law_cell_at hr (by omega) (by rfl) (pa_cons (pv 0) (pa_cons pe_int pa_nil))) pe_int) pe_int (nomark _)) (pss_one (ps_set (i := 4) sc_law.nd rfl (Or.inl rfl) (pe_slice sl_str (pv 3) po_none (po_some (pe_op op_mod (pe_op op_fdiv (pe_c c__law_cell_at hr (by omega) (by rfl) (pa_cons (pv 0) (pa_cons pe_int pa_nil))) pe_int) (pe_op op_add (pe_callB call_len_str (by rfl) B.len_ PySem.boot_len (pa_cons (pv 3) pa_nil)) pe_int)))))) pss_nil) (pss_cons (ps_set (i := 5) sc_law.nd rfl (Or.inl rfl) (pe_slice sl_str (pv 3) po_none (po_some (pe_c c__law_same hr (by omega) (by rfl) (pa_cons (pv 3) (pa_cons (pv 4) pa_nil)))))) (pss_cons (ps_for PassesOwn.never rfl (pi_list (pe_lst (pa_cons (pe_c c_common hr (by omega) (by rfl) (pa_cons (pv 3) (pa_cons (pv 4) pa_nil))) (pa_cons (pe_c c_common hr (by omega) (by rfl) (pa_cons (pv 4) (pa_cons (pv 3) pa_nil))) pa_nil)))) (pg_name (i := 6) sc_law.nd rfl (Or.inl rfl)) (pss_one (ps_if (PW.pt (pw_or (pt_not (pt_val (pe_callB call_isi (by rfl) B.isinstance_ (by decide +kernel) (pa_cons (pv 6) (pa_cons (pe_bltn (v := .ty "str") (by rfl) B.str_ (by decide +kernel) rfl) pa_nil))))) (pw_or1 (pt_cmpR op_ne (pv 6) (pv 5) (nomark _))))) (pss_one (ps_ret pe_bl)) pss_nil))) (pss_cons (ps_set (i := 6) sc_law.nd rfl (Or.inl rfl) (pe_c c_rest hr (by omega) (by rfl) (pa_cons (pv 3) (pa_cons (pv 5) pa_nil)))) (pss_cons (ps_if (PW.pt (pw_or (pt_not (pt_val (pe_callB call_isi (by rfl) B.isinstance_ (by decide +kernel) (pa_cons (pv 6) (pa_cons (pe_bltn (v := .ty "str") (by rfl) B.str_ (by decide +kernel) rfl) pa_nil))))) (pw_or1 (pt_cmpR op_ne (pv 6) (pe_slice sl_str (pv 3) (po_some (pe_callB call_len_str (by rfl) B.len_ PySem.boot_len (pa_cons (pv 5) pa_nil))) po_none) (nomark _))))) (pss_one (ps_ret pe_bl)) pss_nil) (pss_cons (ps_set (i := 6) sc_law.nd rfl (Or.inl rfl) (pe_c c_rest hr (by omega) (by rfl) (pa_cons (pv 3) (pa_cons (pv 4) pa_nil)))) (pss_cons (ps_if (pt_cmpR op_eq (pe_callB call_len_str (by rfl) B.len_ PySem.boot_len (pa_cons (pv 5) pa_nil)) (pe_callB call_len_str (by rfl) B.len_ PySem.boot_len (pa_cons (pv 4) pa_nil)) (nomark _)) (pss_one (ps_ret (pe_and (pe_callB call_isi (by rfl) B.isinstance_ (by decide +kernel) (pa_cons (pv 6) (pa_cons (pe_bltn (v := .ty "str") (by rfl) B.str_ (by decide +kernel) rfl) pa_nil))) (pe_one (pe_cmpR op_eq (pe_op op_add_str (pv 4) (pv 6)) (pv 3) (nomark _)))))) pss_nil) (pss_one (ps_ret (pe_cmpR op_isN (pv 6) pe_non (nomark _)))))))))))))))), fun nx Q kn kr => ?_⟩
  try dsimp only [cxOf]
  generalize start _ vs = σ at *
  refine q_asg S0 (by walk_at "ev") fun σ1 H1 e1 S1 => ?_
  refine q_ifJ0 (fun ds => ∃ z : Int, 0 ≤ z ∧ z ≤ 199 ∧ ds = [some (.scr ns), some (.int z), none, none, none, none, none]) S1 (by walk_at "ev") ?_ ?_ ?_
  · intro c H' N e kN
    have S1' := S1.mono e
    refine s_asg S1' (by walk_at "ev") fun σ2 H2 e2 S2 => kN _ _ _ ⟨_, ?_, ?_, rfl⟩ e2 S2 <;> omega
  · intro _
    exact ⟨_, by omega, by omega, rfl⟩
  rintro ds σ2 H2 ⟨z, z0, z1, rfl⟩ e2 S2
  refine q_asgW S2 (by walk_at "ev") fun a0 σ3 H3 h3 e3 S3 => ?_
  have l0 : a0.length ≤ 199 := by rw [h3, wordL_len]; omega
  have x2 := wordL_len (ns.getD (Int.toNat 2) 0 / 7) (ns.getD (Int.toNat 2) 0 % 7).toNat
  have x3 := wordL_len (ns.getD (Int.toNat 3) 0 / 7) (ns.getD (Int.toNat 3) 0 % 7).toNat
  refine q_asgW S3 (ev_addS (by walk_at "ev") (by walk_at "ev") (by omega)) fun a σ4 H4 h4 e4 S4 => ?_
  have la : a.length ≤ 300 := by rw [h4, List.length_append, x2]; omega
  refine q_asgW S4 (ev_addS (by walk_at "ev") (by walk_at "ev") (by omega)) fun b1 σ5 H5 h5 e5 S5 => ?_
  have lb1 : b1.length ≤ 300 := by rw [h5, List.length_append, x3]; omega
  refine q_ifJ0 (fun ds => ∃ b : Tx, b.length ≤ 300 ∧ ds = [some (.scr ns), none, none, some (.str a), some (.str b), none, none]) (S5.fit (es := [some (.scr ns), none, none, some (.str a), some (.str b1), none, none]) (by exact ⟨rfl, rfl, rfl, trivial⟩)) (by walk_at "ev") ?_ ?_ ?_
  · intro c H' N e kN
    have S5' := S5.mono e
    refine s_asg S5' (by walk_at "ev") fun σ6 H6 e6 S6 => kN _ _ _ ⟨_, ?_, rfl⟩ e6 (S6.fit (by exact ⟨rfl, rfl, rfl, trivial⟩))
    unfold cutL
    rw [List.length_take, List.length_drop]; omega
  · intro _
    exact ⟨b1, lb1, rfl⟩
  clear x2 x3
  rintro ds σ6 H6 ⟨b, lb, rfl⟩ e6 S6
  have cl := comL_len1 a b
  refine q_asg S6 (d := .str (comL a b)) (Ev.to (by walk_at "ev") (by rw [cutL_to, comL_take])) fun σ7 H7 e7 S7 => ?_
  refine q_forL (es := [.str (comL a b), .str (comL b a)]) (by walk_at "ev") (fun _ ds => ∃ x, ds = [some (.scr ns), none, none, some (.str a), some (.str b), some (.str (comL a b)), x]) S7 ⟨_, rfl⟩ ?_ ?_
  · intro i d hd
    have hd' : d = .str (comL a b) := by
      match i, hd with
      | 0, hd => exact (Option.some.inj hd).symm
      | 1, hd => rw [← (Option.some.inj hd), comL_comm]
      | n + 2, hd => cases hd
    rintro ds σ8 H8 N ⟨x, rfl⟩ e8 S8 kN
    rw [hd'] at S8
    refine s_ifF (tu := _) (et_orF (by walk_at "etq") (EvT.to (by walk_at "ev") (by simp))) fun H9 e9 => ?_
    exact kN _ _ _ ⟨_, rfl⟩ e9 (S8.mono e9)
  rintro ds σ8 H8 ⟨x, rfl⟩ e8 S8
  have r1 : restL a (comL a b) = .str (a.drop (comL a b).length) := by unfold restL; rw [if_pos (comL_pre1 a b)]
  refine q_asg S8 (d := .str (a.drop (comL a b).length)) (Ev.to (by walk_at "ev") r1) fun σ9 H9 e9 S9 => ?_
  refine q_ifF0 (et_orF (by walk_at "etq") (EvT.to (by walk_at "ev") (by simp [cutL_from]))) fun H10 e10 => ?_
  have S10 := S9.mono e10
  refine q_asg S10 (by walk_at "ev") fun σ11 H11 e11 S11 => ?_
  have eall := (((((((((e1.trans e2).trans e3).trans e4).trans e5).trans e6).trans e7).trans e8).trans e9).trans e10).trans e11
  by_cases hc : (comL a b).length = b.length
  · have hp := comL_full a b hc
    have r2 : restL a b = .str (a.drop b.length) := by unfold restL; rw [if_pos hp]
    rw [r2] at S11
    refine q_ifT (EvT.to (by walk_at "ev") (decide_eq_true (by omega))) fun H12 e12 => ?_
    have S12 := S11.mono e12
    have ld : (a.drop b.length).length ≤ 300 := by rw [List.length_drop]; omega
    refine s_ret (d := .bl true) (ev_andT (by walk_at "ev") (Ev.to (by walk_at "ev") ?_)) fun v H13 e13 hv => kr v H13 ((eall.trans e12).trans e13) hv
    congr 1
    refine decide_eq_true ?_
    obtain ⟨t, ht⟩ := hp
    rw [← ht, List.drop_left]
  · have hp : ¬ b <+: a := fun h => hc (by rw [comL_of_pre h])
    have r2 : restL a b = .non := by unfold restL; rw [if_neg hp]
    rw [r2] at S11
    refine q_ifF0 (EvT.to (by walk_at "ev") (decide_eq_false (by omega))) fun H12 e12 => ?_
    have S12 := S11.mono e12
    exact s_ret (d := .bl true) (by walk_at "evq") fun v H13 e13 hv => kr v H13 ((eall.trans e12).trans e13) hv
end
end Rt

namespace Rt
open PySem PySem.Spec PyProof.Rows L2
theorem dfn_mk {K : PySem.W.Frag} {h : Heap} {mg : Str → Option Value} {x : Str} {st : Stmt} {ps : List Str} {f : Addr} {oc : Value} {od an : Option Addr} {osl : Array (Option Value)} {kV doc pm cdv ct : Value} (X : K.In h) (G : h.Ns mainGlobals mg)
    (a : PySem.W.nsIn K mainGlobals x = some (some (.ref f))) (l : K.lookup f = some ⟨oc, od, .func (PySem.W.fnOf x x (defArgs st) (defBody st) (defScope st) .none kV doc pm an cdv ct), osl⟩) (c : PySem.W.codeIn K cdv x = true) (k : PySem.W.keepIn K (.ref f) = true)
    (hb : ∀ (kV doc pm : Value) (an : Option Addr) (cdv ct : Value) (us : List Value), us.length = ps.length → bindArgs (PySem.W.fnOf x x (defArgs st) (defBody st) (defScope st) .none kV doc pm an cdv ct) ⟨us, []⟩ = pure (ps.zip us)) : Dfn K mg x st ps :=
  ⟨f, _, fun_mk (st := st) l c k, PySem.W.mg_of X G a, (fun_mk (st := st) l c k).binds hb⟩
theorem all_mk {l : PySem.W.OpenLaw} {w : World} {K : PySem.W.Frag} {h : Heap} {mg : Str → Option Value} {fa : Addr} (X : K.In h) (G : h.Ns mainGlobals mg) (hfa : mg "law" = some (.ref fa))
    {od1 an1 : Option Addr} {sl1 : Array (Option Value)} {oc1 kV1 dc1 pm1 cd1 ct1 : Value} {f1 : Addr}
    {od2 an2 : Option Addr} {sl2 : Array (Option Value)} {oc2 kV2 dc2 pm2 cd2 ct2 : Value} {f2 : Addr}
    {od3 an3 : Option Addr} {sl3 : Array (Option Value)} {oc3 kV3 dc3 pm3 cd3 ct3 : Value} {f3 : Addr}
    {od4 an4 : Option Addr} {sl4 : Array (Option Value)} {oc4 kV4 dc4 pm4 cd4 ct4 : Value} {f4 : Addr}
    {od5 an5 : Option Addr} {sl5 : Array (Option Value)} {oc5 kV5 dc5 pm5 cd5 ct5 : Value} {f5 : Addr}
    {od6 an6 : Option Addr} {sl6 : Array (Option Value)} {oc6 kV6 dc6 pm6 cd6 ct6 : Value} {f6 : Addr}
    {od7 an7 : Option Addr} {sl7 : Array (Option Value)} {oc7 kV7 dc7 pm7 cd7 ct7 : Value} {f7 : Addr}
    (a1 : PySem.W.nsIn K mainGlobals "common" = some (some (.ref f1))) (l1 : K.lookup f1 = some ⟨oc1, od1, .func (PySem.W.fnOf "common" "common" (defArgs s_common) (defBody s_common) (defScope s_common) .none kV1 dc1 pm1 an1 cd1 ct1), sl1⟩) (c1 : PySem.W.codeIn K cd1 "common" = true) (k1 : PySem.W.keepIn K (.ref f1) = true)
    (a2 : PySem.W.nsIn K mainGlobals "rest" = some (some (.ref f2))) (l2 : K.lookup f2 = some ⟨oc2, od2, .func (PySem.W.fnOf "rest" "rest" (defArgs s_rest) (defBody s_rest) (defScope s_rest) .none kV2 dc2 pm2 an2 cd2 ct2), sl2⟩) (c2 : PySem.W.codeIn K cd2 "rest" = true) (k2 : PySem.W.keepIn K (.ref f2) = true)
    (a3 : PySem.W.nsIn K mainGlobals "_law_cell_at" = some (some (.ref f3))) (l3 : K.lookup f3 = some ⟨oc3, od3, .func (PySem.W.fnOf "_law_cell_at" "_law_cell_at" (defArgs s__law_cell_at) (defBody s__law_cell_at) (defScope s__law_cell_at) .none kV3 dc3 pm3 an3 cd3 ct3), sl3⟩) (c3 : PySem.W.codeIn K cd3 "_law_cell_at" = true) (k3 : PySem.W.keepIn K (.ref f3) = true)
    (a4 : PySem.W.nsIn K mainGlobals "_law_sign_by" = some (some (.ref f4))) (l4 : K.lookup f4 = some ⟨oc4, od4, .func (PySem.W.fnOf "_law_sign_by" "_law_sign_by" (defArgs s__law_sign_by) (defBody s__law_sign_by) (defScope s__law_sign_by) .none kV4 dc4 pm4 an4 cd4 ct4), sl4⟩) (c4 : PySem.W.codeIn K cd4 "_law_sign_by" = true) (k4 : PySem.W.keepIn K (.ref f4) = true)
    (a5 : PySem.W.nsIn K mainGlobals "_law_word_by" = some (some (.ref f5))) (l5 : K.lookup f5 = some ⟨oc5, od5, .func (PySem.W.fnOf "_law_word_by" "_law_word_by" (defArgs s__law_word_by) (defBody s__law_word_by) (defScope s__law_word_by) .none kV5 dc5 pm5 an5 cd5 ct5), sl5⟩) (c5 : PySem.W.codeIn K cd5 "_law_word_by" = true) (k5 : PySem.W.keepIn K (.ref f5) = true)
    (a6 : PySem.W.nsIn K mainGlobals "_law_same" = some (some (.ref f6))) (l6 : K.lookup f6 = some ⟨oc6, od6, .func (PySem.W.fnOf "_law_same" "_law_same" (defArgs s__law_same) (defBody s__law_same) (defScope s__law_same) .none kV6 dc6 pm6 an6 cd6 ct6), sl6⟩) (c6 : PySem.W.codeIn K cd6 "_law_same" = true) (k6 : PySem.W.keepIn K (.ref f6) = true)
    (a7 : PySem.W.nsIn K mainGlobals "law" = some (some (.ref f7))) (l7 : K.lookup f7 = some ⟨oc7, od7, .func (PySem.W.fnOf "law" "law" (defArgs s_law) (defBody s_law) (defScope s_law) .none kV7 dc7 pm7 an7 cd7 ct7), sl7⟩) (c7 : PySem.W.codeIn K cd7 "law" = true) (k7 : PySem.W.keepIn K (.ref f7) = true)
    (z_len : PySem.W.nsIn K mainGlobals "len" = some none)
    (z_range : PySem.W.nsIn K mainGlobals "range" = some none)
    (z_tuple : PySem.W.nsIn K mainGlobals "tuple" = some none)
    (z_sorted : PySem.W.nsIn K mainGlobals "sorted" = some none)
    (z_isinstance : PySem.W.nsIn K mainGlobals "isinstance" = some none)
    (z_str : PySem.W.nsIn K mainGlobals "str" = some none)
    (z_int : PySem.W.nsIn K mainGlobals "int" = some none)
    (z_bool : PySem.W.nsIn K mainGlobals "bool" = some none)
    (z_list : PySem.W.nsIn K mainGlobals "list" = some none)
    (z_min : PySem.W.nsIn K mainGlobals "min" = some none)
    (z_max : PySem.W.nsIn K mainGlobals "max" = some none)
    (z_set : PySem.W.nsIn K mainGlobals "set" = some none)
    (z_dict : PySem.W.nsIn K mainGlobals "dict" = some none)
    (z_ord : PySem.W.nsIn K mainGlobals "ord" = some none)
    (z_enumerate : PySem.W.nsIn K mainGlobals "enumerate" = some none)
    (z_ValueError : PySem.W.nsIn K mainGlobals "ValueError" = some none)
    : ∃ fd : FuncData, (∀ (s : Shared) (v : Value), BindsTo s fd ⟨[v], []⟩ [("_law_script", v)]) ∧ ∀ base : Heap, K.In base → base.Ns mainGlobals mg → FnOk l.prog w K mg base CX0 3 fa fd ["_law_script"] (Fn K Rlaw) := by
  have e := hfa.symm.trans (PySem.W.mg_of X G a7)
  cases e
  have d_common : Dfn K mg "common" s_common ["one", "other"] := dfn_mk (st := s_common) X G a1 l1 c1 k1 fun _ _ _ _ _ _ us hl => match us, hl with | [_, _], _ => rfl
  have d_rest : Dfn K mg "rest" s_rest ["name", "beginning"] := dfn_mk (st := s_rest) X G a2 l2 c2 k2 fun _ _ _ _ _ _ us hl => match us, hl with | [_, _], _ => rfl
  have d__law_cell_at : Dfn K mg "_law_cell_at" s__law_cell_at ["_law_script", "_law_k"] := dfn_mk (st := s__law_cell_at) X G a3 l3 c3 k3 fun _ _ _ _ _ _ us hl => match us, hl with | [_, _], _ => rfl
  have d__law_sign_by : Dfn K mg "_law_sign_by" s__law_sign_by ["_law_cell"] := dfn_mk (st := s__law_sign_by) X G a4 l4 c4 k4 fun _ _ _ _ _ _ us hl => match us, hl with | [_], _ => rfl
  have d__law_word_by : Dfn K mg "_law_word_by" s__law_word_by ["_law_cell", "_law_size"] := dfn_mk (st := s__law_word_by) X G a5 l5 c5 k5 fun _ _ _ _ _ _ us hl => match us, hl with | [_, _], _ => rfl
  have d__law_same : Dfn K mg "_law_same" s__law_same ["_law_one", "_law_other"] := dfn_mk (st := s__law_same) X G a6 l6 c6 k6 fun _ _ _ _ _ _ us hl => match us, hl with | [_, _], _ => rfl
  have B : Bl mg := ⟨PySem.W.mg_none_of X G z_len, PySem.W.mg_none_of X G z_range, PySem.W.mg_none_of X G z_tuple, PySem.W.mg_none_of X G z_sorted, PySem.W.mg_none_of X G z_isinstance, PySem.W.mg_none_of X G z_str, PySem.W.mg_none_of X G z_int, PySem.W.mg_none_of X G z_bool, PySem.W.mg_none_of X G z_list, PySem.W.mg_none_of X G z_min, PySem.W.mg_none_of X G z_max, PySem.W.mg_none_of X G z_set, PySem.W.mg_none_of X G z_dict, PySem.W.mg_none_of X G z_ord, PySem.W.mg_none_of X G z_enumerate, PySem.W.mg_none_of X G z_ValueError⟩
  have F7 := fun_mk (st := s_law) l7 c7 k7
  refine ⟨PySem.W.fnOf "law" "law" (defArgs s_law) (defBody s_law) (defScope s_law) .none kV7 dc7 pm7 an7 cd7 ct7, fun s v => .of_eq rfl, fun base _ _ => ?_⟩
  have c_common := cal_common (P := l.prog) (w := w) (base := base) d_common B
  have c_rest := cal_rest (P := l.prog) (w := w) (base := base) d_rest B
  have c__law_cell_at := cal_cell_at (P := l.prog) (w := w) (base := base) d__law_cell_at B
  have c__law_sign_by := cal_sign_by (P := l.prog) (w := w) (base := base) d__law_sign_by B
  have c__law_word_by := cal_word_by (P := l.prog) (w := w) (base := base) d__law_word_by B c__law_sign_by
  have c__law_same := cal_same (P := l.prog) (w := w) (base := base) d__law_same B
  exact ok_law (P := l.prog) (w := w) (base := base) F7 B c__law_cell_at c__law_word_by c__law_same c_common c_rest
theorem walk {l : PySem.W.OpenLaw} {q : Program} {loose : List Str} {XP : (Str → Option Value) → Heap → Prop} {YP : World → Heap → Prop} {d : DefRec} {K : Params → PySem.W.Frag} (hn : l.most = some 63) (hdf : d.params.defaults = [])
    (hY : ∀ (w : World) (h : Heap), YP w h → (K w.params).In h)
    (F : ∀ (w : World) (mg : Str → Option Value) (fa : Addr) (h : Heap), (K w.params).In h → h.Ns mainGlobals mg → mg d.name = some (.ref fa) →
      ∃ fd : FuncData, (∀ (s : Shared) (u : Value), BindsTo s fd ⟨[u], []⟩ [("_law_script", u)]) ∧ ∀ base : Heap, (K w.params).In base → base.Ns mainGlobals mg → FnOk l.prog w (K w.params) mg base CX0 3 fa fd ["_law_script"] (Fn (K w.params) Rlaw)) :
    PySem.W.WalkO q loose XP YP l.row.toRowW d [] (fun f vs => PySem.call f vs) :=
  L2.walk_of (n := 63) (k := 3) (x := "_law_script") (CX := fun _ => CX0) (sp := fun w => Fn (K w.params) Rlaw) hn (by decide) hdf ⟨rfl, by decide, by decide⟩ hY F
    (fun _ _ a ns hl hO hS => ⟨[.scr ns], .bl true, ⟨.ref a, [], rfl, ⟨a, rfl, Fz.of hS hO⟩, rfl⟩, ⟨ns, rfl, hl, rfl⟩, fun v H' _ hv => hv⟩) fun _ _ _ _ _ z => z
end Rt
open PySem PySem.W PyProof.Rows in
set_option maxRecDepth 100000 in
set_option maxHeartbeats 0 in
theorem PySem.Challenge.cw_radixtrail_k01_words_in_common_holds : PySem.Challenge.rw_radixtrail_k01_words_in_common.Holds := by
  w_on; o_law; k_head; (case hw => w_witness2)
  k_fill
  refine Rt.walk (l := PySem.Challenge.rw_radixtrail_k01_words_in_common) rfl rfl (fun w h Y => PySem.W.kIn_of Y) ?F
  case F =>
    intro w mg fa h KX G hmg
    refine' Rt.all_mk KX G hmg ?a1 ?l1 ?c1 ?k1 ?a2 ?l2 ?c2 ?k2 ?a3 ?l3 ?c3 ?k3 ?a4 ?l4 ?c4 ?k4 ?a5 ?l5 ?c5 ?k5 ?a6 ?l6 ?c6 ?k6 ?a7 ?l7 ?c7 ?k7 ?z_len ?z_range ?z_tuple ?z_sorted ?z_isinstance ?z_str ?z_int ?z_bool ?z_list ?z_min ?z_max ?z_set ?z_dict ?z_ord ?z_enumerate ?z_ValueError
    (case a1 => k_is)
    (case l1 => k_is)
    (case c1 => k_is)
    (case k1 => k_is)
    (case a2 => k_is)
    (case l2 => k_is)
    (case c2 => k_is)
    (case k2 => k_is)
    (case a3 => k_is)
    (case l3 => k_is)
    (case c3 => k_is)
    (case k3 => k_is)
    (case a4 => k_is)
    (case l4 => k_is)
    (case c4 => k_is)
    (case k4 => k_is)
    (case a5 => k_is)
    (case l5 => k_is)
    (case c5 => k_is)
    (case k5 => k_is)
    (case a6 => k_is)
    (case l6 => k_is)
    (case c6 => k_is)
    (case k6 => k_is)
    (case a7 => k_is)
    (case l7 => k_is)
    (case c7 => k_is)
    (case k7 => k_is)
    (case z_len => k_is)
    (case z_range => k_is)
    (case z_tuple => k_is)
    (case z_sorted => k_is)
    (case z_isinstance => k_is)
    (case z_str => k_is)
    (case z_int => k_is)
    (case z_bool => k_is)
    (case z_list => k_is)
    (case z_min => k_is)
    (case z_max => k_is)
    (case z_set => k_is)
    (case z_dict => k_is)
    (case z_ord => k_is)
    (case z_enumerate => k_is)
    (case z_ValueError => k_is)
