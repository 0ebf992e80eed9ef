import PyProof.Rows.All
import Wide.All
import OpenK.AllK
import Wide.FinOn
import PyProof.EqAt
import PyProof.EqKinds
import PyProof.TupleCall
import HandS.ForMost
import HandS.Wide
import HandS.Style
import HandS.Conv
import HandS.IsInst
import HandS.TupAny
import HandS.TupMul
import HandS.TupLe
import HandS.Deep
import HandS.Walk
import HandS.Flow
import HandS.Steps
import KE.GoesEnum
import HandS.Head0
import HandS.Head1
import HandS.Head2
import HandS.HeadEnd
import HandS.HeadHook1
import HandS.HeadHook2
import PySem.Challenge.RW_streamwebs_k97_whole_totals_of_falling_s
set_option Elab.async false
set_option linter.all false
set_option autoImplicit false
set_option maxRecDepth 100000
set_option maxHeartbeats 4000000
/-! Sw: readings over data (PyData) in the place of values and heaps. -/
namespace Sw
open PySem PySem.Spec PyProof.Rows L2
abbrev St := L2.St

abbrev Fg := PySem.W.Frag

/-! ### data without lists -/
mutual
def pr : PyData → Bool
  | .none => true
  | .bool _ => true
  | .int _ => true
  | .str _ => true
  | .tuple xs => prs xs
  | .list _ => false
  | .dict _ => false
def prs : List PyData → Bool
  | [] => true
  | x :: xs => pr x && prs xs
end
theorem prs_mem : ∀ {xs : List PyData} {x : PyData}, prs xs = true → x ∈ xs → pr x = true
  | [], _, _, h => by cases h
  | a :: r, x, h, m => by
    simp only [prs, Bool.and_eq_true] at h
    rcases List.mem_cons.mp m with e | m
    · rw [e]; exact h.1
    · exact prs_mem h.2 m
theorem prs_of : ∀ {xs : List PyData}, (∀ x ∈ xs, pr x = true) → prs xs = true
  | [], _ => by simp only [prs]
  | a :: r, h => by
    simp only [prs, Bool.and_eq_true]
    exact ⟨h a (List.mem_cons_self ..), prs_of fun x m => h x (List.mem_cons_of_mem _ m)⟩
theorem prs_append {xs ys : List PyData} (h : prs xs = true) (h' : prs ys = true) : prs (xs ++ ys) = true :=
  prs_of fun x m => (List.mem_append.mp m).elim (prs_mem h) (prs_mem h')
theorem prs_cons {x : PyData} {xs : List PyData} (h : pr x = true) (h' : prs xs = true) : prs (x :: xs) = true := by
  simp only [prs, h, h', Bool.and_self]
theorem prs_set {xs : List PyData} {k : Nat} {x : PyData} (h : prs xs = true) (h' : pr x = true) : prs (xs.set k x) = true :=
  prs_of fun y m => by
    rcases List.mem_or_eq_of_mem_set m with m | e
    · exact prs_mem h m
    · rw [e]; exact h'
theorem prs_get {xs : List PyData} {k : Nat} {x : PyData} (h : prs xs = true) (h' : xs[k]? = some x) : pr x = true := prs_mem h (List.mem_of_getElem? h')

/-! ### heaps: tuples stay -/
def Kt (H H' : Hp) : Prop := ∀ a xs, Rd H a (.tup xs) → Rd H' a (.tup xs)
theorem same_rd {H H' : Hp} {a : Addr} {u : HO} (e : Same H H') (h : Rd H a u) : Rd H' a u := by
  rcases h with h | ⟨o, h⟩
  · exact .inl (e _ _ h)
  · exact .inr ⟨o, e _ _ h⟩
theorem same_kt {H H' : Hp} (e : Same H H') : Kt H H' := fun _ _ h => same_rd e h
theorem same_t {K : Fg} {H H' : Hp} {a : Addr} {xs : List V} (e : Same H H') (h : SqT K H a xs) : SqT K H' a xs := by
  rcases h with h | h
  · exact .inl (same_rd e h)
  · exact .inr h
theorem kt_t {K : Fg} {H H' : Hp} {a : Addr} {xs : List V} (e : Kt H H') (h : SqT K H a xs) : SqT K H' a xs := by
  rcases h with h | h
  · exact .inl (e _ _ h)
  · exact .inr h
theorem kt_upd {H : Hp} {a : Addr} {vs ws : List V} (h : H a = some (.lst vs)) : Kt H (upd H a (.lst ws)) := fun b xs r => by
  have hb : b ≠ a := by
    rintro rfl
    rcases r with r | ⟨o, r⟩
    · rw [h] at r; cases r
    · rw [h] at r; cases r
  rcases r with r | ⟨o, r⟩
  · exact .inl (by rw [upd_ne hb]; exact r)
  · exact .inr ⟨o, by rw [upd_ne hb]; exact r⟩
theorem same_new {H : Hp} {p : Addr} {o : HO} (h : H p = none) : Same H (upd H p o) := fun b x e => by
  rw [upd_ne (ne_of_none e h)]
  exact e
theorem same_mut {H H' : Hp} {p : Addr} {o : HO} (e : Same H H') (h : H p = none) : Same H (upd H' p o) := fun a u ha => by
  rw [upd_ne (ne_of_none ha h)]
  exact e a u ha
theorem Kt.trans {H H1 H2 : Hp} (a : Kt H H1) (b : Kt H1 H2) : Kt H H2 := fun x xs h => b x xs (a x xs h)

mutual
theorem dp_same {K : Fg} {H H' : Hp} (e : Same H H') : ∀ (d : PyData) (v : V), Dp K H v d → Dp K H' v d
  | .none, _, h => by cases h; exact .non
  | .bool _, _, h => by cases h; exact .bl _
  | .int _, _, h => by cases h; exact .int _
  | .str _, _, h => by cases h; exact .str _
  | .list ds, _, h => by
    cases h with
    | lst hs ha => exact .lst (e.seq hs) (dps_same e ds _ ha)
  | .tuple ds, _, h => by
    cases h with
    | tup hs ha => exact .tup (same_t e hs) (dps_same e ds _ ha)
  | .dict _, _, h => by cases h
theorem dps_same {K : Fg} {H H' : Hp} (e : Same H H') : ∀ (ds : List PyData) (vs : List V), DpAll K H vs ds → DpAll K H' vs ds
  | [], _, h => by cases h; exact .nil
  | d :: ds, _, h => by
    cases h with
    | cons h1 h2 => exact .cons (dp_same e d _ h1) (dps_same e ds _ h2)
end
mutual
theorem dp_kt {K : Fg} {H H' : Hp} (e : Kt H H') : ∀ (d : PyData) (v : V), pr d = true → Dp K H v d → Dp K H' v d
  | .none, _, _, h => by cases h; exact .non
  | .bool _, _, _, h => by cases h; exact .bl _
  | .int _, _, _, h => by cases h; exact .int _
  | .str _, _, _, h => by cases h; exact .str _
  | .list ds, _, p, h => by simp [pr] at p
  | .tuple ds, _, p, h => by
    cases h with
    | tup hs ha => exact .tup (kt_t e hs) (dps_kt e ds _ (by simpa only [pr] using p) ha)
  | .dict _, _, _, h => by cases h
theorem dps_kt {K : Fg} {H H' : Hp} (e : Kt H H') : ∀ (ds : List PyData) (vs : List V), prs ds = true → DpAll K H vs ds → DpAll K H' vs ds
  | [], _, _, h => by cases h; exact .nil
  | d :: ds, _, p, h => by
    simp only [prs, Bool.and_eq_true] at p
    cases h with
    | cons h1 h2 => exact .cons (dp_kt e d _ p.1 h1) (dps_kt e ds _ p.2 h2)
end
theorem dps_len {K : Fg} {H : Hp} : ∀ {vs : List V} {ds : List PyData}, DpAll K H vs ds → vs.length = ds.length
  | _, _, .nil => rfl
  | _, _, .cons _ t => by rw [List.length_cons, List.length_cons, dps_len t]
theorem dps_get {K : Fg} {H : Hp} : ∀ {vs : List V} {ds : List PyData} {i : Nat} {d : PyData}, DpAll K H vs ds → ds[i]? = some d → ∃ v, vs[i]? = some v ∧ Dp K H v d
  | _, _, _, _, .nil, e => by simp at e
  | _, _, 0, _, .cons (v := v) h _, e => by
    simp at e; subst e
    exact ⟨v, rfl, h⟩
  | _, _, i + 1, _, .cons _ t, e => by
    obtain ⟨v, h1, h2⟩ := dps_get (i := i) t (by simpa using e)
    exact ⟨v, by simpa using h1, h2⟩
theorem dps_get' {K : Fg} {H : Hp} : ∀ {vs : List V} {ds : List PyData} {i : Nat} {v : V}, DpAll K H vs ds → vs[i]? = some v → ∃ d, ds[i]? = some d ∧ Dp K H v d
  | _, _, _, _, .nil, e => by simp at e
  | _, _, 0, _, .cons (d := d) h _, e => by
    simp at e; subst e
    exact ⟨d, rfl, h⟩
  | _, _, i + 1, _, .cons _ t, e => by
    obtain ⟨v, h1, h2⟩ := dps_get' (i := i) t (by simpa using e)
    exact ⟨v, by simpa using h1, h2⟩
theorem dps_set {K : Fg} {H : Hp} {v : V} {d : PyData} (h : Dp K H v d) : ∀ {vs : List V} {ds : List PyData} (i : Nat), DpAll K H vs ds → DpAll K H (vs.set i v) (ds.set i d)
  | _, _, _, .nil => .nil
  | _, _, 0, .cons _ t => .cons h t
  | _, _, i + 1, .cons q t => .cons q (dps_set h i t)
theorem dps_append {K : Fg} {H : Hp} : ∀ {vs ws : List V} {ds es : List PyData}, DpAll K H vs ds → DpAll K H ws es → DpAll K H (vs ++ ws) (ds ++ es)
  | _, _, _, _, .nil, s => s
  | _, _, _, _, .cons h t, s => .cons h (dps_append t s)
theorem dps_take {K : Fg} {H : Hp} : ∀ {vs : List V} {ds : List PyData} (n : Nat), DpAll K H vs ds → DpAll K H (vs.take n) (ds.take n)
  | _, _, 0, _ => .nil
  | _, _, _ + 1, .nil => .nil
  | _, _, n + 1, .cons h t => .cons h (dps_take n t)
theorem dps_drop {K : Fg} {H : Hp} : ∀ {vs : List V} {ds : List PyData} (n : Nat), DpAll K H vs ds → DpAll K H (vs.drop n) (ds.drop n)
  | _, _, 0, h => h
  | _, _, _ + 1, .nil => .nil
  | _, _, n + 1, .cons _ t => dps_drop n t
theorem dps_rev {K : Fg} {H : Hp} : ∀ {vs : List V} {ds : List PyData}, DpAll K H vs ds → DpAll K H vs.reverse ds.reverse
  | _, _, .nil => .nil
  | _, _, .cons h t => by
    rw [List.reverse_cons, List.reverse_cons]
    exact dps_append (dps_rev t) (.cons h .nil)
theorem dps_rep {K : Fg} {H : Hp} {vs : List V} {ds : List PyData} (h : DpAll K H vs ds) : ∀ n : Nat, DpAll K H (List.replicate n vs).flatten (List.replicate n ds).flatten
  | 0 => .nil
  | n + 1 => by
    rw [List.replicate_succ, List.replicate_succ, List.flatten_cons, List.flatten_cons]
    exact dps_append h (dps_rep h n)
theorem dps_ints {K : Fg} {H : Hp} : ∀ ns : List Int, DpAll K H (ns.map V.int) (ns.map PyData.int)
  | [] => .nil
  | n :: ns => .cons (.int n) (dps_ints ns)
theorem dps_ints' {K : Fg} {H : Hp} : ∀ {ns : List Int} {vs : List V}, DpAll K H vs (ns.map PyData.int) → vs = ns.map V.int
  | [], _, h => by cases h; rfl
  | n :: ns, _, h => by
    cases h with
    | cons h t =>
      cases h
      rw [dps_ints' t]
      rfl
theorem dps_bools' {K : Fg} {H : Hp} : ∀ {bs : List Bool} {vs : List V}, DpAll K H vs (bs.map PyData.bool) → vs = bs.map V.bl
  | [], _, h => by cases h; rfl
  | n :: ns, _, h => by
    cases h with
    | cons h t =>
      cases h
      rw [dps_bools' t]
      rfl
theorem dp_tup {K : Fg} {H : Hp} {v : V} {ds : List PyData} (h : Dp K H v (.tuple ds)) : ∃ a vs, v = .ref a ∧ SqT K H a vs ∧ DpAll K H vs ds := by
  cases h with
  | tup hs ha => exact ⟨_, _, rfl, hs, ha⟩
theorem dp_lst {K : Fg} {H : Hp} {v : V} {ds : List PyData} (h : Dp K H v (.list ds)) : ∃ a vs, v = .ref a ∧ SqL K H a vs ∧ DpAll K H vs ds := by
  cases h with
  | lst hs ha => exact ⟨_, _, rfl, hs, ha⟩
theorem dp_int {K : Fg} {H : Hp} {v : V} {i : Int} (h : Dp K H v (.int i)) : v = .int i := by cases h; rfl
theorem dp_bool {K : Fg} {H : Hp} {v : V} {i : Bool} (h : Dp K H v (.bool i)) : v = .bl i := by cases h; rfl
theorem dp_none {K : Fg} {H : Hp} {v : V} (h : Dp K H v .none) : v = .non := by cases h; rfl
theorem dp_new {K : Fg} {H : Hp} {p : Addr} {vs : List V} {ds : List PyData} (hp : H p = none) (h : DpAll K H vs ds) : Dp K (upd H p (.tup vs)) (.ref p) (.tuple ds) :=
  .tup (SqT.of upd_same) (dps_same (same_new hp) _ _ h)

/-! ### what slots hold -/
inductive B where
  | u
  | d (x : PyData)
  | r (x : PyData)
  | l (xs : List PyData)
  | g (a c : Addr) (x0 x1 x2 : Int) (cells : List Int)
  | bg (T : Nat) (a c : Addr) (cells : List Int)
def BagOk (T : Nat) (x0 x1 x2 : Int) (cells : List Int) : Prop := 0 ≤ x0 ∧ 0 ≤ x1 ∧ x1 < 2147483647 ∧ 0 ≤ x2 ∧ x2 ≤ (T : Int) ∧ (∀ z ∈ cells, 0 ≤ z) ∧ cells.length ≤ 100
def BagAt (H : Hp) (a c : Addr) (x0 x1 x2 : Int) (cells : List Int) : Prop := a ≠ c ∧ H a = some (.lst [.int x0, .int x1, .int x2, .ref c]) ∧ H c = some (.lst (cells.map V.int))

def OwnS (K : Fg) (H0 H : Hp) : B → Option V → List Addr → Prop
  | .u, _, as => as = []
  | .d x, s, as => as = [] ∧ pr x = true ∧ ∃ v, s = some v ∧ Dp K H v x
  | .r x, s, as => as = [] ∧ ∃ v, s = some v ∧ Dp K H0 v x
  | .l xs, s, as => prs xs = true ∧ ∃ a vs, as = [a] ∧ s = some (.ref a) ∧ H0 a = none ∧ H a = some (.lst vs) ∧ DpAll K H vs xs
  | .g a c x0 x1 x2 cells, s, as => as = [a, c] ∧ a ≠ c ∧ s = some (.ref a) ∧ H0 a = none ∧ H0 c = none ∧ H a = some (.lst [.int x0, .int x1, .int x2, .ref c]) ∧ H c = some (.lst (cells.map V.int))
  | .bg T a c cells, s, as => ∃ x0 x1 x2, as = [a, c] ∧ a ≠ c ∧ s = some (.ref a) ∧ H0 a = none ∧ H0 c = none ∧ H a = some (.lst [.int x0, .int x1, .int x2, .ref c]) ∧ H c = some (.lst (cells.map V.int)) ∧ BagOk T x0 x1 x2 cells

theorem OwnS.there {K : Fg} {H0 H : Hp} {b : B} {s : Option V} {as : List Addr} (h : OwnS K H0 H b s as) : ∀ a ∈ as, H0 a = none ∧ ∃ vs, H a = some (.lst vs) := by
  cases b with
  | u => rw [h]; intro a m; cases m
  | d x => rw [h.1]; intro a m; cases m
  | r x => rw [h.1]; intro a m; cases m
  | l xs =>
    obtain ⟨_, a, vs, rfl, _, h0, h1, _⟩ := h
    intro b m
    obtain rfl := List.mem_singleton.mp m
    exact ⟨h0, vs, h1⟩
  | g a c x0 x1 x2 cells =>
    obtain ⟨rfl, _, _, h0, h1, h2, h3⟩ := h
    intro b m
    rcases List.mem_cons.mp m with rfl | m
    · exact ⟨h0, _, h2⟩
    · obtain rfl := List.mem_singleton.mp m
      exact ⟨h1, _, h3⟩
  | bg T a c cells =>
    obtain ⟨x0, x1, x2, rfl, _, _, h0, h1, h2, h3, _⟩ := h
    intro b m
    rcases List.mem_cons.mp m with rfl | m
    · exact ⟨h0, _, h2⟩
    · obtain rfl := List.mem_singleton.mp m
      exact ⟨h1, _, h3⟩
theorem OwnS.same {K : Fg} {H0 H H' : Hp} {b : B} {s : Option V} {as : List Addr} (h : OwnS K H0 H b s as) (e : Same H H') : OwnS K H0 H' b s as := by
  cases b with
  | u => exact h
  | d x => obtain ⟨h1, h2, v, h3, h4⟩ := h; exact ⟨h1, h2, v, h3, dp_same e _ _ h4⟩
  | r x => exact h
  | l xs => obtain ⟨p, a, vs, h1, h2, h3, h4, h5⟩ := h; exact ⟨p, a, vs, h1, h2, h3, e _ _ h4, dps_same e _ _ h5⟩
  | g a c x0 x1 x2 cells => obtain ⟨h1, hn, h2, h3, h4, h5, h6⟩ := h; exact ⟨h1, hn, h2, h3, h4, e _ _ h5, e _ _ h6⟩
  | bg T a c cells => obtain ⟨x0, x1, x2, h1, hn, h2, h3, h4, h5, h6, h7⟩ := h; exact ⟨x0, x1, x2, h1, hn, h2, h3, h4, e _ _ h5, e _ _ h6, h7⟩
/-- a list elsewhere is written -/
theorem OwnS.upd {K : Fg} {H0 H : Hp} {b : B} {s : Option V} {as : List Addr} {a : Addr} {vs ws : List V} (h : OwnS K H0 H b s as) (ha : H a = some (.lst vs)) (n : a ∉ as) : OwnS K H0 (L2.upd H a (.lst ws)) b s as := by
  have k := kt_upd (ws := ws) ha
  cases b with
  | u => exact h
  | d x => obtain ⟨h1, h2, v, h3, h4⟩ := h; exact ⟨h1, h2, v, h3, dp_kt k _ _ h2 h4⟩
  | r x => exact h
  | l xs =>
    obtain ⟨p, a', vs', rfl, h2, h3, h4, h5⟩ := h
    exact ⟨p, a', vs', rfl, h2, h3, by rw [upd_ne (fun q => n (by rw [q]; exact List.mem_singleton.mpr rfl))]; exact h4, dps_kt k _ _ p h5⟩
  | g a' c x0 x1 x2 cells =>
    obtain ⟨rfl, hn, h2, h3, h4, h5, h6⟩ := h
    refine ⟨rfl, hn, h2, h3, h4, ?_, ?_⟩
    · rw [upd_ne (fun q => n (by rw [q]; exact List.mem_cons_self ..))]; exact h5
    · rw [upd_ne (fun q => n (by rw [q]; exact List.mem_cons_of_mem _ (List.mem_singleton.mpr rfl)))]; exact h6
  | bg T a' c cells =>
    obtain ⟨x0, x1, x2, rfl, hn, h2, h3, h4, h5, h6, h7⟩ := h
    refine ⟨x0, x1, x2, rfl, hn, h2, h3, h4, ?_, ?_, h7⟩
    · rw [upd_ne (fun q => n (by rw [q]; exact List.mem_cons_self ..))]; exact h5
    · rw [upd_ne (fun q => n (by rw [q]; exact List.mem_cons_of_mem _ (List.mem_singleton.mpr rfl)))]; exact h6

inductive OwnL (K : Fg) (H0 H : Hp) : List B → St → List Addr → Prop
  | nil : OwnL K H0 H [] [] []
  | cons {b : B} {s : Option V} {as bs : List Addr} {G : List B} {σ : St} : OwnS K H0 H b s as → OwnL K H0 H G σ bs → OwnL K H0 H (b :: G) (s :: σ) (as ++ bs)
section
variable {K : Fg} {H0 H H' : Hp} {G : List B} {σ : St} {as : List Addr}
theorem OwnL.len (h : OwnL K H0 H G σ as) : σ.length = G.length := by
  induction h with
  | nil => rfl
  | cons _ _ ih => rw [List.length_cons, List.length_cons, ih]
theorem OwnL.there (h : OwnL K H0 H G σ as) : ∀ a ∈ as, H0 a = none ∧ ∃ vs, H a = some (.lst vs) := by
  induction h with
  | nil => intro a m; cases m
  | cons h1 _ ih =>
    intro a m
    rcases List.mem_append.mp m with m | m
    · exact h1.there a m
    · exact ih a m
theorem OwnL.same (h : OwnL K H0 H G σ as) (e : Same H H') : OwnL K H0 H' G σ as := by
  induction h with
  | nil => exact .nil
  | cons h1 _ ih => exact .cons (h1.same e) ih
theorem OwnL.upd {a : Addr} {vs ws : List V} (h : OwnL K H0 H G σ as) (ha : H a = some (.lst vs)) (n : a ∉ as) : OwnL K H0 (L2.upd H a (.lst ws)) G σ as := by
  induction h with
  | nil => exact .nil
  | cons h1 _ ih => exact .cons (h1.upd ha fun m => n (List.mem_append_left _ m)) (ih fun m => n (List.mem_append_right _ m))
theorem OwnL.get (h : OwnL K H0 H G σ as) : ∀ {i : Nat} {b : B}, G[i]? = some b → ∃ s bs, σ[i]? = some s ∧ OwnS K H0 H b s bs ∧ ∀ a ∈ bs, a ∈ as := by
  induction h with
  | nil => intro i b e; simp at e
  | cons h1 _ ih =>
    intro i b e
    cases i with
    | zero =>
      simp at e; subst e
      exact ⟨_, _, rfl, h1, fun a m => List.mem_append_left _ m⟩
    | succ i =>
      obtain ⟨s, bs, e1, o, m⟩ := ih (i := i) (b := b) (by simpa using e)
      exact ⟨s, bs, by simpa using e1, o, fun a q => List.mem_append_right _ (m a q)⟩
theorem OwnL.set (h : OwnL K H0 H G σ as) : ∀ (i : Nat) {b : B} {s : Option V} {bs : List Addr}, OwnS K H0 H b s bs →
    ∃ as', OwnL K H0 H (G.set i b) (σ.set i s) as' ∧ (∀ a ∈ as', a ∈ as ∨ a ∈ bs) ∧ (as.Nodup → bs.Nodup → (∀ a ∈ bs, a ∉ as) → as'.Nodup) := by
  induction h with
  | nil => intro i b s bs o; exact ⟨[], .nil, fun a m => absurd m (by simp), fun _ _ _ => List.nodup_nil⟩
  | @cons b0 s0 as0 bs0 G σ h1 h2 ih =>
    intro i b s bs o
    cases i with
    | zero =>
      refine ⟨bs ++ bs0, .cons o h2, fun a m => ?_, fun n1 n2 n3 => ?_⟩
      · rcases List.mem_append.mp m with m | m
        · exact .inr m
        · exact .inl (List.mem_append_right _ m)
      · rw [List.nodup_append] at n1 ⊢
        exact ⟨n2, n1.2.1, fun a ha b hb e => n3 a ha (List.mem_append_right _ (e ▸ hb))⟩
    | succ i =>
      obtain ⟨as', o', m', n'⟩ := ih i o
      refine ⟨as0 ++ as', .cons h1 o', fun a m => ?_, fun n1 n2 n3 => ?_⟩
      · rcases List.mem_append.mp m with m | m
        · exact .inl (List.mem_append_left _ m)
        · rcases m' a m with m | m
          · exact .inl (List.mem_append_right _ m)
          · exact .inr m
      · rw [List.nodup_append] at n1 ⊢
        refine ⟨n1.1, n' n1.2.1 n2 fun a ha q => n3 a ha (List.mem_append_right _ q), fun a ha b hb e => ?_⟩
        rcases m' b hb with m | m
        · exact n1.2.2 a ha b m e
        · exact n3 b m (List.mem_append_left _ (e ▸ ha))
/-- the list in a slot is written -/
theorem OwnL.wr (h : OwnL K H0 H G σ as) (nd : as.Nodup) : ∀ {i : Nat} {xs : List PyData}, G[i]? = some (.l xs) →
    ∃ a vs, σ[i]? = some (some (.ref a)) ∧ H0 a = none ∧ H a = some (.lst vs) ∧ DpAll K H vs xs ∧ prs xs = true ∧ a ∈ as ∧
      ∀ (ws : List V) (ys : List PyData), prs ys = true → DpAll K H ws ys → OwnL K H0 (L2.upd H a (.lst ws)) (G.set i (.l ys)) σ as := by
  induction h with
  | nil => intro i xs e; simp at e
  | @cons b0 s0 as0 bs0 G σ h1 h2 ih =>
    intro i xs e
    rw [List.nodup_append] at nd
    cases i with
    | zero =>
      simp at e; subst e
      obtain ⟨p, a, vs, rfl, rfl, q0, q1, q2⟩ := h1
      refine ⟨a, vs, rfl, q0, q1, q2, p, List.mem_append_left _ (List.mem_singleton.mpr rfl), fun ws ys py dy => ?_⟩
      have n : a ∉ bs0 := fun m => nd.2.2 a (List.mem_singleton.mpr rfl) a m rfl
      exact .cons ⟨py, a, ws, rfl, rfl, q0, upd_same, dps_kt (kt_upd q1) _ _ py dy⟩ (h2.upd q1 n)
    | succ i =>
      obtain ⟨a, vs, e1, q0, q1, q2, p, m, k⟩ := ih nd.2.1 (i := i) (xs := xs) (by simpa using e)
      refine ⟨a, vs, by simpa using e1, q0, q1, q2, p, List.mem_append_right _ m, fun ws ys py dy => ?_⟩
      have n : a ∉ as0 := fun m' => nd.2.2 a m' a m rfl
      exact .cons (h1.upd q1 n) (k ws ys py dy)
end

/-- objects that stay while a loop walks them -/
structure FE where
  a : Addr
  isL : Bool
  vs : List V
  ds : List PyData
def FE.at (K : Fg) (H : Hp) (f : FE) : Prop := if f.isL then H f.a = some (.lst f.vs) else SqT K H f.a f.vs
def FE.ok (K : Fg) (H : Hp) (f : FE) : Prop := f.at K H ∧ prs f.ds = true ∧ DpAll K H f.vs f.ds
theorem FE.ok.same {K : Fg} {H H' : Hp} {f : FE} (h : f.ok K H) (e : Same H H') : f.ok K H' := by
  obtain ⟨h1, h2, h3⟩ := h
  refine ⟨?_, h2, dps_same e _ _ h3⟩
  unfold FE.at at h1 ⊢
  split
  · rw [if_pos (by assumption)] at h1; exact e _ _ h1
  · rw [if_neg (by assumption)] at h1; exact same_t e h1
theorem FE.ok.upd {K : Fg} {H : Hp} {f : FE} {a : Addr} {vs ws : List V} (h : f.ok K H) (ha : H a = some (.lst vs)) (n : f.isL = true → f.a ≠ a) : f.ok K (L2.upd H a (.lst ws)) := by
  obtain ⟨h1, h2, h3⟩ := h
  refine ⟨?_, h2, dps_kt (kt_upd ha) _ _ h2 h3⟩
  unfold FE.at at h1 ⊢
  split
  · rename_i hl
    rw [if_pos hl] at h1
    rw [upd_ne (n hl)]
    exact h1
  · rename_i hl
    rw [if_neg hl] at h1
    exact kt_t (kt_upd ha) h1

structure Own (K : Fg) (H0 : Hp) (F : List FE) (G : List B) (σ : St) (H : Hp) : Prop where
  same : Same H0 H
  own : ∃ as, OwnL K H0 H G σ as ∧ as.Nodup ∧ ∀ f ∈ F, f.ok K H ∧ (f.isL = true → f.a ∉ as)
section
variable {K : Fg} {H0 H H' : Hp} {F : List FE} {G : List B} {σ : St}
theorem Own.mono (h : Own K H0 F G σ H) (e : Same H H') : Own K H0 F G σ H' := by
  obtain ⟨h1, as, h2, h3, h4⟩ := h
  exact ⟨h1.trans e, as, h2.same e, h3, fun f m => ⟨(h4 f m).1.same e, (h4 f m).2⟩⟩
theorem Own.len (h : Own K H0 F G σ H) : σ.length = G.length := let ⟨_, h2, _⟩ := h.own; h2.len
theorem Own.d (h : Own K H0 F G σ H) {i : Nat} {x : PyData} (e : G[i]? = some (.d x)) : pr x = true ∧ ∃ v, σ[i]? = some (some v) ∧ Dp K H v x := by
  obtain ⟨_, as, h2, _⟩ := h
  obtain ⟨s, bs, e1, ⟨_, p, v, rfl, q⟩, _⟩ := h2.get e
  exact ⟨p, v, e1, q⟩
theorem Own.r (h : Own K H0 F G σ H) {i : Nat} {x : PyData} (e : G[i]? = some (.r x)) : ∃ v, σ[i]? = some (some v) ∧ Dp K H0 v x ∧ Dp K H v x := by
  obtain ⟨h1, as, h2, _⟩ := h
  obtain ⟨s, bs, e1, ⟨_, v, rfl, q⟩, _⟩ := h2.get e
  exact ⟨v, e1, q, dp_same h1 _ _ q⟩
theorem Own.l (h : Own K H0 F G σ H) {i : Nat} {xs : List PyData} (e : G[i]? = some (.l xs)) : prs xs = true ∧ ∃ a vs, σ[i]? = some (some (.ref a)) ∧ H0 a = none ∧ H a = some (.lst vs) ∧ DpAll K H vs xs := by
  obtain ⟨h1, as, h2, _⟩ := h
  obtain ⟨s, bs, e1, ⟨p, a, vs, _, rfl, q⟩, _⟩ := h2.get e
  exact ⟨p, a, vs, e1, q⟩
theorem Own.setS (h : Own K H0 F G σ H) (i : Nat) {b : B} {s : Option V} (o : OwnS K H0 H b s []) : Own K H0 F (G.set i b) (σ.set i s) H := by
  obtain ⟨h1, as, h2, h3, h4⟩ := h
  obtain ⟨as', o', m', n'⟩ := h2.set i o
  refine ⟨h1, as', o', n' h3 List.nodup_nil (fun a m => by cases m), fun f m => ⟨(h4 f m).1, fun q z => ?_⟩⟩
  rcases m' _ z with z | z
  · exact (h4 f m).2 q z
  · cases z
theorem Own.setD (h : Own K H0 F G σ H) (i : Nat) {x : PyData} {v : V} (p : pr x = true) (q : Dp K H v x) : Own K H0 F (G.set i (.d x)) (σ.set i (some v)) H :=
  h.setS i ⟨rfl, p, v, rfl, q⟩
theorem Own.setU (h : Own K H0 F G σ H) (i : Nat) (s : Option V) : Own K H0 F (G.set i .u) (σ.set i s) H := h.setS i rfl
/-- a new list (made where H1 was) goes to a slot -/
theorem Own.setL {H1 : Hp} (h : Own K H0 F G σ H1) (i : Nat) {p : Addr} {vs : List V} {xs : List PyData} (hp : H1 p = none) (e : Same H1 H) (hH : H p = some (.lst vs)) (d : DpAll K H vs xs) (q : prs xs = true) :
    Own K H0 F (G.set i (.l xs)) (σ.set i (some (.ref p))) H := by
  have h' := h.mono e
  obtain ⟨s0, as0, h20, h30, h40⟩ := h
  have h0 : H0 p = none := by
    cases z : H0 p with
    | none => rfl
    | some o =>
      have y := s0 _ _ z
      rw [hp] at y; cases y
  have na : p ∉ as0 := fun m => by
    obtain ⟨_, ws, z⟩ := h20.there p m
    rw [hp] at z; cases z
  have h2 := h20.same e
  obtain ⟨as', o', m', n'⟩ := h2.set i (b := .l xs) (s := some (.ref p)) (bs := [p]) ⟨q, p, vs, rfl, rfl, h0, hH, d⟩
  refine ⟨h'.same, as', o', n' h30 (List.nodup_cons.mpr ⟨by simp, List.nodup_nil⟩) (fun a m => by rw [List.mem_singleton.mp m]; exact na), fun f m => ?_⟩
  obtain ⟨f1, f2⟩ := h40 f m
  refine ⟨f1.same e, fun z w => ?_⟩
  rcases m' _ w with w | w
  · exact f2 z w
  · have q := f1.1
    unfold FE.at at q
    rw [if_pos z, List.mem_singleton.mp w, hp] at q
    cases q
/-- a list in a slot is written -/
theorem Own.wr (h : Own K H0 F G σ H) {i : Nat} {xs : List PyData} (e : G[i]? = some (.l xs)) :
    ∃ a vs, σ[i]? = some (some (.ref a)) ∧ H0 a = none ∧ H a = some (.lst vs) ∧ DpAll K H vs xs ∧ prs xs = true ∧
      ∀ (ws : List V) (ys : List PyData), prs ys = true → DpAll K H ws ys → Own K H0 F (G.set i (.l ys)) σ (L2.upd H a (.lst ws)) := by
  obtain ⟨h1, as, h2, h3, h4⟩ := h
  obtain ⟨a, vs, e1, q0, q1, q2, p, m, k⟩ := h2.wr h3 e
  refine ⟨a, vs, e1, q0, q1, q2, p, fun ws ys py dy => ⟨same_mut h1 q0, as, k ws ys py dy, h3, fun f mf => ⟨?_, (h4 f mf).2⟩⟩⟩
  obtain ⟨f1, f2⟩ := h4 f mf
  exact f1.upd q1 fun hl z => f2 hl (by rw [z]; exact m)
/-- a list in a slot is handed to a loop that walks it -/
theorem OwnL.drop {K : Fg} {H0 H : Hp} {G : List B} {σ : St} {as : List Addr} (h : OwnL K H0 H G σ as) (nd : as.Nodup) : ∀ {i : Nat} {xs : List PyData}, G[i]? = some (.l xs) →
    ∃ a vs as', σ[i]? = some (some (.ref a)) ∧ H a = some (.lst vs) ∧ DpAll K H vs xs ∧ prs xs = true ∧ OwnL K H0 H (G.set i .u) σ as' ∧ as'.Nodup ∧ a ∉ as' ∧ a ∈ as ∧ ∀ b ∈ as', b ∈ as := by
  induction h with
  | nil => intro i xs e; simp at e
  | @cons b0 s0 as0 bs0 G σ h1 h2 ih =>
    intro i xs e
    rw [List.nodup_append] at nd
    cases i with
    | zero =>
      simp at e; subst e
      obtain ⟨p, a, vs, rfl, rfl, q0, q1, q2⟩ := h1
      exact ⟨a, vs, bs0, rfl, q1, q2, p, .cons (b := .u) (as := []) rfl h2, nd.2.1, fun m => nd.2.2 a (List.mem_singleton.mpr rfl) a m rfl, List.mem_append_left _ (List.mem_singleton.mpr rfl), fun b m => List.mem_append_right _ m⟩
    | succ i =>
      obtain ⟨a, vs, as', e1, q1, q2, p, o', n', na, ma, sub⟩ := ih nd.2.1 (i := i) (xs := xs) (by simpa using e)
      refine ⟨a, vs, as0 ++ as', by simpa using e1, q1, q2, p, .cons h1 o', ?_, fun m => ?_, List.mem_append_right _ ma, fun b m => ?_⟩
      · rw [List.nodup_append]
        exact ⟨nd.1, n', fun x hx y hy => nd.2.2 x hx y (sub y hy)⟩
      · rcases List.mem_append.mp m with m | m
        · exact nd.2.2 a m a ma rfl
        · exact na m
      · rcases List.mem_append.mp m with m | m
        · exact List.mem_append_left _ m
        · exact List.mem_append_right _ (sub b m)
theorem Own.freeze (h : Own K H0 F G σ H) {i : Nat} {xs : List PyData} (e : G[i]? = some (.l xs)) :
    ∃ a vs, σ[i]? = some (some (.ref a)) ∧ H a = some (.lst vs) ∧ DpAll K H vs xs ∧ Own K H0 (⟨a, true, vs, xs⟩ :: F) (G.set i .u) σ H := by
  obtain ⟨h1, as, h2, h3, h4⟩ := h
  obtain ⟨a, vs, as', e1, q1, q2, p, o', n', na, ma, sub⟩ := h2.drop h3 e
  refine ⟨a, vs, e1, q1, q2, h1, as', o', n', fun f m => ?_⟩
  rcases List.mem_cons.mp m with rfl | m
  · exact ⟨⟨q1, p, q2⟩, fun _ => na⟩
  · exact ⟨(h4 f m).1, fun hl z => (h4 f m).2 hl (sub _ z)⟩
/-- objects that stay, more and fewer -/
theorem Own.more {H1 : Hp} {F1 : List FE} (h : Own K H0 F G σ H1) (e : Same H1 H) (hf : ∀ f ∈ F1, f.ok K H ∧ (f.isL = true → H1 f.a = none)) : Own K H0 (F1 ++ F) G σ H := by
  obtain ⟨s0, as1, k2, k3, k4⟩ := h
  refine ⟨s0.trans e, as1, k2.same e, k3, fun f m => ?_⟩
  rcases List.mem_append.mp m with m | m
  · refine ⟨(hf f m).1, fun hl z => ?_⟩
    obtain ⟨_, vs, q⟩ := k2.there _ z
    rw [(hf f m).2 hl] at q
    cases q
  · exact ⟨(k4 f m).1.same e, (k4 f m).2⟩
theorem Own.less {F1 : List FE} (h : Own K H0 (F1 ++ F) G σ H) : Own K H0 F G σ H := by
  obtain ⟨h1, as, h2, h3, h4⟩ := h
  exact ⟨h1, as, h2, h3, fun f m => h4 f (List.mem_append_right _ m)⟩
theorem Own.fe {F1 : List FE} (h : Own K H0 (F1 ++ F) G σ H) : ∀ f ∈ F1, f.ok K H := by
  obtain ⟨h1, as, h2, h3, h4⟩ := h
  exact fun f m => (h4 f (List.mem_append_left _ m)).1
/-- knowing less of the slots -/
inductive LeG : List B → List B → Prop
  | nil : LeG [] []
  | same {b : B} {G G' : List B} : LeG G G' → LeG (b :: G) (b :: G')
  | drop {b : B} {G G' : List B} : LeG G G' → LeG (b :: G) (.u :: G')
theorem LeG.refl : ∀ G : List B, LeG G G
  | [] => .nil
  | _ :: G => .same (LeG.refl G)
theorem OwnL.le {G' : List B} {as : List Addr} (h : OwnL K H0 H G σ as) (l : LeG G G') : ∃ as', OwnL K H0 H G' σ as' ∧ (as.Nodup → as'.Nodup) ∧ ∀ a ∈ as', a ∈ as := by
  induction h generalizing G' with
  | nil => cases l; exact ⟨[], .nil, id, fun _ m => m⟩
  | @cons b0 s0 as0 bs0 G σ h1 h2 ih =>
    cases l with
    | same l =>
      obtain ⟨as', o, n, m⟩ := ih l
      refine ⟨as0 ++ as', .cons h1 o, fun nd => ?_, fun a q => ?_⟩
      · rw [List.nodup_append] at nd ⊢
        exact ⟨nd.1, n nd.2.1, fun x hx y hy => nd.2.2 x hx y (m y hy)⟩
      · rcases List.mem_append.mp q with q | q
        · exact List.mem_append_left _ q
        · exact List.mem_append_right _ (m a q)
    | drop l =>
      obtain ⟨as', o, n, m⟩ := ih l
      exact ⟨as', .cons (b := .u) (as := []) rfl o, fun nd => n (List.nodup_append.mp nd).2.1, fun a q => List.mem_append_right _ (m a q)⟩
theorem Own.le {G' : List B} (h : Own K H0 F G σ H) (l : LeG G G') : Own K H0 F G' σ H := by
  obtain ⟨h1, as, h2, h3, h4⟩ := h
  obtain ⟨as', o, n, m⟩ := h2.le l
  exact ⟨h1, as', o, n h3, fun f q => ⟨(h4 f q).1, fun hl z => (h4 f q).2 hl (m _ z)⟩⟩
/-- at a def's entry -/
theorem OwnL.params {K : Fg} {H : Hp} : ∀ {vs : List V} {bs : List B} (m : Nat), (Paired (fun v b => OwnS K H H b (some v) []) vs bs) → OwnL K H H (bs ++ List.replicate m .u) (vs.map some ++ List.replicate m none) []
  | _, _, 0, .nil => .nil
  | _, _, m + 1, .nil => .cons (b := .u) (as := []) rfl (OwnL.params m (vs := []) (bs := []) .nil)
  | _, _, m, .cons h t => .cons (as := []) h (OwnL.params m t)
theorem Own.entry {K : Fg} {H : Hp} {N : List Str} {vs : List V} {bs : List B} (h : Paired (fun v b => OwnS K H H b (some v) []) vs bs) : Own K H [] (bs ++ List.replicate (N.length - vs.length) .u) (start N vs) H :=
  ⟨Same.refl H, [], OwnL.params _ h, List.nodup_nil, fun f m => by cases m⟩
end
end Sw

namespace Sw
open PySem PySem.Spec L2

/-! ### what expressions evaluate to -/
def EvE (K : Fg) (H0 : Hp) (F : List FE) (G : List B) (te : TE) (x : PyData) : Prop := ∀ σ H, Own K H0 F G σ H → ∀ Q : VK, (∀ v H', Same H H' → Dp K H' v x → Q v H') → te σ H Q
/-- a new list -/
def EvL (K : Fg) (H0 : Hp) (F : List FE) (G : List B) (te : TE) (xs : List PyData) : Prop :=
  ∀ σ H, Own K H0 F G σ H → ∀ Q : VK, (∀ p vs H', H p = none → Same H H' → H' p = some (.lst vs) → DpAll K H' vs xs → Q (.ref p) H') → te σ H Q
def EvA (K : Fg) (H0 : Hp) (F : List FE) (G : List B) (ta : TA) (xs : List PyData) : Prop := ∀ σ H, Own K H0 F G σ H → ∀ Q : List V → Hp → Prop, (∀ vs H', Same H H' → DpAll K H' vs xs → Q vs H') → ta σ H Q
def EvT (K : Fg) (H0 : Hp) (F : List FE) (G : List B) (tt : TT) (b : Bool) : Prop := ∀ σ H, Own K H0 F G σ H → ∀ Q : Bool → Hp → Prop, (∀ H', Same H H' → Q b H') → tt σ H Q
def EvO (K : Fg) (H0 : Hp) (F : List FE) (G : List B) (to : TO) (o : Option Int) : Prop := ∀ σ H, Own K H0 F G σ H → ∀ Q : Option Int → Hp → Prop, (∀ H', Same H H' → Q o H') → to σ H Q
/-- two values, one value, several values -/
def RD (K : Fg) (r : R2) (x y z : PyData) : Prop := ∀ v w H, Dp K H v x → Dp K H w y → ∀ Q : VK, (∀ u H', Same H H' → Dp K H' u z → Q u H') → r v w H Q
def RC (K : Fg) (r : List V → Hp → VK → Prop) (xs : List PyData) (z : PyData) : Prop := ∀ vs H, DpAll K H vs xs → ∀ Q : VK, (∀ u H', Same H H' → Dp K H' u z → Q u H') → r vs H Q
def RCL (K : Fg) (r : List V → Hp → VK → Prop) (xs : List PyData) (zs : List PyData) : Prop := ∀ vs H, DpAll K H vs xs → ∀ Q : VK, (∀ p us H', H p = none → Same H H' → H' p = some (.lst us) → DpAll K H' us zs → Q (.ref p) H') → r vs H Q

def B.data : B → Option PyData
  | .u => none
  | .d x => some x
  | .r x => some x
  | .l xs => some (.list xs)
  | .g _ _ _ _ _ _ => none
  | .bg _ _ _ _ => none

section
variable {K : Fg} {H0 : Hp} {F : List FE} {G : List B} {ta tb tc te : TE} {t u : TT} {x y z d : PyData} {r r' : R2}
theorem EvE.to (h : EvE K H0 F G te x) (e : x = y) : EvE K H0 F G te y := e ▸ h
theorem EvL.to {xs ys : List PyData} (h : EvL K H0 F G te xs) (e : xs = ys) : EvL K H0 F G te ys := e ▸ h
theorem EvT.to {a b : Bool} (h : EvT K H0 F G t a) (e : a = b) : EvT K H0 F G t b := e ▸ h
theorem EvA.to {ta : TA} {xs ys : List PyData} (h : EvA K H0 F G ta xs) (e : xs = ys) : EvA K H0 F G ta ys := e ▸ h
theorem RD.to (h : RD K r x y z) (e : z = d) : RD K r x y d := e ▸ h
theorem ev_of {xs : List PyData} (h : EvL K H0 F G te xs) : EvE K H0 F G te (.list xs) := fun σ H o Q q =>
  h σ H o Q fun p vs H' _ e h1 h2 => q _ H' e (.lst (.inl (.inl h1)) h2)
theorem ev_var {i : Nat} (h : G[i]?.bind B.data = some x) : EvE K H0 F G (tVar i) x := fun σ H o Q q => by
  cases hb : G[i]? with
  | none => rw [hb] at h; cases h
  | some b =>
    rw [hb] at h
    cases b with
    | u => cases h
    | d y =>
      obtain rfl : y = x := Option.some.inj h
      obtain ⟨_, v, e1, e2⟩ := o.d hb
      exact ⟨v, e1, q v H (Same.refl H) e2⟩
    | r y =>
      obtain rfl : y = x := Option.some.inj h
      obtain ⟨v, e1, _, e2⟩ := o.r hb
      exact ⟨v, e1, q v H (Same.refl H) e2⟩
    | l ys =>
      obtain rfl : PyData.list ys = x := Option.some.inj h
      obtain ⟨_, a, vs, e1, _, e2, e3⟩ := o.l hb
      exact ⟨_, e1, q _ H (Same.refl H) (.lst (.inl (.inl e2)) e3)⟩
    | g _ _ _ _ _ _ => cases h
    | bg _ _ _ _ => cases h
theorem ev_c {v : V} (h : ∀ H, Dp K H v x) : EvE K H0 F G (tC v) x := fun σ H _ Q q => q v H (Same.refl H) (h H)
theorem ev_int {i : Int} : EvE K H0 F G (tC (.int i)) (.int i) := ev_c fun _ => .int i
theorem ev_bl {b : Bool} : EvE K H0 F G (tC (.bl b)) (.bool b) := ev_c fun _ => .bl b
theorem ev_non : EvE K H0 F G (tC .non) .none := ev_c fun _ => .non
theorem ev_op (ha : EvE K H0 F G ta x) (hb : EvE K H0 F G tb y) (hr : RD K r x y z) : EvE K H0 F G (tOp r ta tb) z := fun σ H o Q q =>
  ha σ H o _ fun v H1 e1 d1 => hb σ H1 (o.mono e1) _ fun w H2 e2 d2 => hr v w H2 (dp_same e2 _ _ d1) d2 Q fun u H3 e3 d3 => q u H3 ((e1.trans e2).trans e3) d3
theorem ev_un {r : V → Hp → VK → Prop} {i j : Int} (ha : EvE K H0 F G ta (.int i)) (hr : ∀ H (Q : VK), Q (.int j) H → r (.int i) H Q) : EvE K H0 F G (tUn r ta) (.int j) := fun σ H o Q q =>
  ha σ H o _ fun v H1 e1 d1 => by
    cases d1
    exact hr H1 Q (q _ H1 e1 (.int j))
theorem ev_neg {i : Int} (ha : EvE K H0 F G ta (.int i)) : EvE K H0 F G (tUn (rU fun i => .int (-i)) ta) (.int (-i)) := ev_un ha fun _ _ q => ⟨i, rfl, q⟩

theorem rd_I0 {g : Int → Int → Int} {i j : Int} : RD K (rI0 fun i j => .int (g i j)) (.int i) (.int j) (.int (g i j)) := fun v w H h1 h2 Q q => by
  cases h1; cases h2
  exact ⟨i, j, rfl, rfl, q _ H (Same.refl H) (.int _)⟩
theorem rd_B0 {g : Int → Int → Bool} {i j : Int} : RD K (rI0 fun i j => .bl (g i j)) (.int i) (.int j) (.bool (g i j)) := fun v w H h1 h2 Q q => by
  cases h1; cases h2
  exact ⟨i, j, rfl, rfl, q _ H (Same.refl H) (.bl _)⟩
theorem rd_I {C : Int → Int → Prop} {g : Int → Int → Int} {i j : Int} (hc : C i j) : RD K (rI C fun i j => .int (g i j)) (.int i) (.int j) (.int (g i j)) := fun v w H h1 h2 Q q => by
  cases h1; cases h2
  exact ⟨i, j, rfl, rfl, hc, q _ H (Same.refl H) (.int _)⟩
theorem rd_or1 (h : RD K r x y z) : RD K (fun x y H Q => r x y H Q ∨ r' x y H Q) x y z := fun v w H h1 h2 Q q => .inl (h v w H h1 h2 Q q)
theorem rd_or2 (h : RD K r' x y z) : RD K (fun x y H Q => r x y H Q ∨ r' x y H Q) x y z := fun v w H h1 h2 Q q => .inr (h v w H h1 h2 Q q)
theorem rd_eq {b : Bool} (hx : SeqAt.shaped x = true) (hy : SeqAt.shaped y = true) (e : PyData.eqv x y = b) : RD K (rEqD K) x y (.bool b) := fun v w H h1 h2 Q q =>
  ⟨x, y, h1, h2, hx, hy, by rw [e]; exact q _ H (Same.refl H) (.bl _)⟩
theorem rd_ne {b : Bool} (hx : SeqAt.shaped x = true) (hy : SeqAt.shaped y = true) (e : (!PyData.eqv x y) = b) : RD K (rNeD K) x y (.bool b) := fun v w H h1 h2 Q q =>
  ⟨x, y, h1, h2, hx, hy, by rw [e]; exact q _ H (Same.refl H) (.bl _)⟩
/-- is None, is not None -/
def isNone : PyData → Bool
  | .none => true
  | _ => false
theorem dp_isNone {H : Hp} {v : V} (h : Dp K H v x) : decide (v = .non) = isNone x := by
  cases h <;> rfl
theorem rd_isN : RD K rIsN x .none (.bool (isNone x)) := fun v w H h1 h2 Q q => by
  cases h2
  exact ⟨rfl, by rw [dp_isNone h1]; exact q _ H (Same.refl H) (.bl _)⟩
theorem rd_notN : RD K rNotN x .none (.bool (!isNone x)) := fun v w H h1 h2 Q q => by
  cases h2
  exact ⟨rfl, by rw [dp_isNone h1]; exact q _ H (Same.refl H) (.bl _)⟩
theorem rd_isB {a b : Bool} : RD K rIsB (.bool a) (.bool b) (.bool (a == b)) := fun v w H h1 h2 Q q => by
  cases h1; cases h2
  refine ⟨a, b, rfl, rfl, ?_⟩
  rw [show decide (a = b) = (a == b) by cases a <;> cases b <;> rfl]
  exact q _ H (Same.refl H) (.bl _)
theorem rd_notB {a b : Bool} : RD K rNotB (.bool a) (.bool b) (.bool (!(a == b))) := fun v w H h1 h2 Q q => by
  cases h1; cases h2
  refine ⟨a, b, rfl, rfl, ?_⟩
  rw [show decide (a = b) = (a == b) by cases a <;> cases b <;> rfl]
  exact q _ H (Same.refl H) (.bl _)
theorem atI_dps {H : Hp} {vs : List V} {ds : List PyData} {i : Int} (h : DpAll K H vs ds) (e : atI ds i = some d) : ∃ v, atI vs i = some v ∧ Dp K H v d := by
  unfold atI at e ⊢
  rw [dps_len h]
  cases q : ixN ds.length i with
  | none => rw [q] at e; cases e
  | some j =>
    rw [q] at e
    exact dps_get h e
theorem rd_ixT {ds : List PyData} {i : Int} (e : atI ds i = some d) : RD K (rIx K) (.tuple ds) (.int i) d := fun v w H h1 h2 Q q => by
  obtain ⟨a, vs, rfl, hs, ha⟩ := dp_tup h1
  cases h2
  obtain ⟨v, e1, e2⟩ := atI_dps ha e
  exact .inr (.inl ⟨a, vs, i, v, rfl, rfl, hs, e1, q _ H (Same.refl H) e2⟩)
theorem rd_ixL {ds : List PyData} {i : Int} (e : atI ds i = some d) : RD K (rIx K) (.list ds) (.int i) d := fun v w H h1 h2 Q q => by
  obtain ⟨a, vs, rfl, hs, ha⟩ := dp_lst h1
  cases h2
  obtain ⟨v, e1, e2⟩ := atI_dps ha e
  exact .inl ⟨a, vs, i, v, rfl, rfl, hs, e1, q _ H (Same.refl H) e2⟩
theorem rd_catT {xs ys : List PyData} (hl : xs.length + ys.length ≤ 100000) : RD K (rCatA K) (.tuple xs) (.tuple ys) (.tuple (xs ++ ys)) := fun v w H h1 h2 Q q => by
  obtain ⟨a, vs, rfl, hs, ha⟩ := dp_tup h1
  obtain ⟨b, ws, rfl, hs', hb⟩ := dp_tup h2
  have l1 := dps_len ha
  have l2 := dps_len hb
  refine ⟨a, b, vs, ws, rfl, rfl, hs, hs', Nat.le_trans (by omega) (by decide : 100000 ≤ sizeLine), fun e => ?_, fun _ e => ?_, fun _ _ p hp => ?_⟩
  · subst e
    cases ha
    exact q _ H (Same.refl H) h2
  · subst e
    cases hb
    rw [List.append_nil] at q
    exact q _ H (Same.refl H) h1
  · exact q _ _ (same_new hp) (dp_new hp (dps_append ha hb))

theorem et_test {b : Bool} (h : EvE K H0 F G te (.bool b)) : EvT K H0 F G (tTest te) b := fun σ H o Q q => h σ H o _ fun v H1 e1 d1 => by
  cases d1
  exact ⟨b, rfl, q H1 e1⟩
theorem et_B {b : Bool} (h : EvE K H0 F G te (.bool b)) : EvT K H0 F G (tB te) b := fun σ H o Q q => h σ H o _ fun v H1 e1 d1 => by
  cases d1
  exact ⟨b, rfl, q H1 e1⟩
theorem et_and {a b : Bool} (h1 : EvT K H0 F G t a) (h2 : a = true → EvT K H0 F G u b) : EvT K H0 F G (tAnd t u) (a && b) := fun σ H o Q q => h1 σ H o _ fun H1 e1 => by
  cases a with
  | true => exact h2 rfl σ H1 (o.mono e1) Q fun H2 e2 => q H2 (e1.trans e2)
  | false => exact q H1 e1
theorem et_or {a b : Bool} (h1 : EvT K H0 F G t a) (h2 : a = false → EvT K H0 F G u b) : EvT K H0 F G (tOr t u) (a || b) := fun σ H o Q q => h1 σ H o _ fun H1 e1 => by
  cases a with
  | true => exact q H1 e1
  | false => exact h2 rfl σ H1 (o.mono e1) Q fun H2 e2 => q H2 (e1.trans e2)
theorem et_not {a : Bool} (h1 : EvT K H0 F G t a) : EvT K H0 F G (tNot t) (!a) := fun σ H o Q q => h1 σ H o _ fun H1 e1 => q H1 e1
theorem ev_if {b : Bool} (h : EvT K H0 F G t b) (h1 : b = true → EvE K H0 F G ta x) (h2 : b = false → EvE K H0 F G tb x) : EvE K H0 F G (tIf t ta tb) x := fun σ H o Q q => h σ H o _ fun H1 e1 => by
  cases b with
  | true => exact h1 rfl σ H1 (o.mono e1) Q fun v H2 e2 d2 => q v H2 (e1.trans e2) d2
  | false => exact h2 rfl σ H1 (o.mono e1) Q fun v H2 e2 d2 => q v H2 (e1.trans e2) d2
theorem ev_ifx {b : Bool} (h : EvT K H0 F G t b) (h1 : b = true → EvE K H0 F G ta x) (h2 : b = false → EvE K H0 F G tb y) : EvE K H0 F G (tIf t ta tb) (if b then x else y) :=
  ev_if h (fun e => (h1 e).to (by rw [e] <;> rfl)) (fun e => (h2 e).to (by rw [e] <;> rfl))
theorem ev_andV {a b : Bool} (h1 : EvE K H0 F G ta (.bool a)) (h2 : a = true → EvE K H0 F G tb (.bool b)) : EvE K H0 F G (tAndV ta tb) (.bool (a && b)) := fun σ H o Q q => h1 σ H o _ fun v H1 e1 d1 => by
  cases d1
  refine ⟨a, rfl, ?_⟩
  cases a with
  | true => exact h2 rfl σ H1 (o.mono e1) Q fun v H2 e2 d2 => q v H2 (e1.trans e2) d2
  | false => exact q _ H1 e1 (.bl _)
theorem ev_orV {a b : Bool} (h1 : EvE K H0 F G ta (.bool a)) (h2 : a = false → EvE K H0 F G tb (.bool b)) : EvE K H0 F G (tOrV ta tb) (.bool (a || b)) := fun σ H o Q q => h1 σ H o _ fun v H1 e1 d1 => by
  cases d1
  refine ⟨a, rfl, ?_⟩
  cases a with
  | true => exact q _ H1 e1 (.bl _)
  | false => exact h2 rfl σ H1 (o.mono e1) Q fun v H2 e2 d2 => q v H2 (e1.trans e2) d2
theorem ev_notV {a : Bool} (h1 : EvE K H0 F G ta (.bool a)) : EvE K H0 F G (tNotV ta) (.bool (!a)) := fun σ H o Q q => h1 σ H o _ fun v H1 e1 d1 => by
  cases d1
  exact ⟨a, rfl, q _ H1 e1 (.bl _)⟩
theorem ev_chain {a b : Bool} (ha : EvE K H0 F G ta x) (hb : EvE K H0 F G tb y) (hr : RD K r x y (.bool a)) (hc : a = true → EvE K H0 F G tc z) (hr' : a = true → RD K r' y z (.bool b)) : EvE K H0 F G (tChain r r' ta tb tc) (.bool (a && b)) := fun σ H o Q q =>
  ha σ H o _ fun v H1 e1 d1 => hb σ H1 (o.mono e1) _ fun w H2 e2 d2 => hr v w H2 (dp_same e2 _ _ d1) d2 _ fun u H3 e3 d3 => by
    cases d3
    refine ⟨a, rfl, ?_⟩
    have e13 := (e1.trans e2).trans e3
    cases a with
    | false => exact q _ H3 e13 (.bl _)
    | true =>
      exact hc rfl σ H3 (o.mono e13) _ fun w' H4 e4 d4 => hr' rfl w w' H4 (dp_same (e3.trans e4) _ _ d2) d4 Q fun u H5 e5 d5 => q u H5 ((e13.trans e4).trans e5) d5
theorem ea_nil : EvA K H0 F G tNil [] := fun σ H o Q q => q [] H (Same.refl H) .nil
theorem ea_cons {tr : TA} {xs : List PyData} (h : EvE K H0 F G ta x) (hr : EvA K H0 F G tr xs) : EvA K H0 F G (tCons ta tr) (x :: xs) := fun σ H o Q q =>
  h σ H o _ fun v H1 e1 d1 => hr σ H1 (o.mono e1) _ fun vs H2 e2 d2 => q _ H2 (e1.trans e2) (.cons (dp_same e2 _ _ d1) d2)
theorem ev_tup {ta : TA} {xs : List PyData} (h : EvA K H0 F G ta xs) (hl : xs.length ≤ 100000 := by exact Nat.le_of_ble_eq_true rfl) : EvE K H0 F G (tTup ta) (.tuple xs) := fun σ H o Q q =>
  h σ H o _ fun vs H1 e1 d1 => ⟨by rw [dps_len d1]; exact Nat.le_trans hl (by decide : 100000 ≤ sizeLine), fun p hp => q _ _ (e1.trans (same_new hp)) (dp_new hp d1)⟩
theorem fresh_back {H H' : Hp} {p : Addr} (e : Same H H') (h : H' p = none) : H p = none := e.free h
theorem el_lst {ta : TA} {xs : List PyData} (h : EvA K H0 F G ta xs) (hl : xs.length ≤ 100000 := by exact Nat.le_of_ble_eq_true rfl) : EvL K H0 F G (tLst ta) xs := fun σ H o Q q =>
  h σ H o _ fun vs H1 e1 d1 => ⟨by rw [dps_len d1]; exact Nat.le_trans hl (by decide : 100000 ≤ sizeLine), fun p hp => q p vs _ (fresh_back e1 hp) (e1.trans (same_new hp)) upd_same (dps_same (same_new hp) _ _ d1)⟩
theorem el_rep {xs : List PyData} {n : Int} (ha : EvL K H0 F G ta xs) (hb : EvE K H0 F G tb (.int n)) (h1 : -1000000 ≤ n ∧ n ≤ 100000) (h2 : xs.length ≤ 1) : EvL K H0 F G (tOp rRep ta tb) (List.replicate n.toNat xs).flatten := fun σ H o Q q =>
  ha σ H o _ fun p vs H1 hp e1 hH d1 => hb σ H1 (o.mono e1) _ fun w H2 e2 d2 => by
    cases d2
    have l1 := dps_len d1
    refine ⟨p, n, vs, rfl, rfl, e2 _ _ hH, by omega, by omega, ?_, fun p' hp' => q p' _ _ (fresh_back (e1.trans e2) hp') ((e1.trans e2).trans (same_new hp')) upd_same (dps_same (e2.trans (same_new hp')) _ _ (dps_rep d1 _))⟩
    refine Nat.le_trans ?_ (by decide : 100000 ≤ sizeLine)
    have : vs.length * n.toNat ≤ 1 * 100000 := Nat.mul_le_mul (by omega) (by omega)
    omega
theorem el_or1 {r r' : R2} {xs : List PyData} (h : EvL K H0 F G (tOp r ta tb) xs) : EvL K H0 F G (tOp (fun x y H Q => r x y H Q ∨ r' x y H Q) ta tb) xs → EvL K H0 F G (tOp (fun x y H Q => r x y H Q ∨ r' x y H Q) ta tb) xs := id
theorem el_cat {xs ys : List PyData} (ha : EvL K H0 F G ta xs) (hb : EvL K H0 F G tb ys) (hl : xs.length + ys.length ≤ 100000) : EvL K H0 F G (tOp rCat ta tb) (xs ++ ys) := fun σ H o Q q =>
  ha σ H o _ fun p vs H1 hp e1 hH d1 => hb σ H1 (o.mono e1) _ fun p2 ws H2 hp2 e2 hH2 d2 => by
    have l1 := dps_len d1
    have l2 := dps_len d2
    refine ⟨p, p2, vs, ws, rfl, rfl, e2 _ _ hH, hH2, Nat.le_trans (by omega) (by decide : 100000 ≤ sizeLine), fun p' hp' => ?_⟩
    have e12 := e1.trans e2
    exact q p' _ _ (fresh_back e12 hp') (e12.trans (same_new hp')) upd_same (dps_same (same_new hp') _ _ (dps_append (dps_same e2 _ _ d1) d2))

/-! ### slices -/
def cutD (xs : List PyData) (lo hi : Option Int) : List PyData := (xs.drop (HT.sIx xs.length 0 lo)).take (HT.sIx xs.length xs.length hi - HT.sIx xs.length 0 lo)
theorem cut_dps {H : Hp} {vs : List V} {ds : List PyData} {lo hi : Option Int} (h : DpAll K H vs ds) : DpAll K H (cutV vs lo hi) (cutD ds lo hi) := by
  unfold cutV cutD
  rw [dps_len h]
  exact dps_take _ (dps_drop _ h)
theorem cut_from {xs : List PyData} {k : Nat} : cutD xs (some (k : Int)) none = xs.drop k := by
  unfold cutD
  rw [show HT.sIx xs.length 0 (some (k : Int)) = min k xs.length from HT.sIx_nat xs.length 0 k, HT.sIx_none]
  rcases Nat.le_total k xs.length with h | h
  · rw [Nat.min_eq_left h, List.take_of_length_le (by rw [List.length_drop]; omega)]
  · rw [Nat.min_eq_right h, Nat.sub_self, List.take_zero, List.drop_eq_nil_of_le h]
theorem cut_to {xs : List PyData} {k : Nat} : cutD xs none (some (k : Int)) = xs.take k := by
  unfold cutD
  rw [show HT.sIx xs.length xs.length (some (k : Int)) = min k xs.length from HT.sIx_nat xs.length _ k, HT.sIx_none, List.drop_zero, Nat.sub_zero]
  rcases Nat.le_total k xs.length with h | h
  · rw [Nat.min_eq_left h]
  · rw [Nat.min_eq_right h, List.take_of_length_le (Nat.le_refl _), List.take_of_length_le h]
theorem eo_none : EvO K H0 F G tNoPart none := fun σ H o Q q => q H (Same.refl H)
theorem eo_some {i : Int} (h : EvE K H0 F G te (.int i)) : EvO K H0 F G (tPart te) (some i) := fun σ H o Q q => h σ H o _ fun v H1 e1 d1 => by
  cases d1
  exact ⟨i, rfl, q H1 e1⟩
def rSlAny (K : Fg) : V → Option Int → Option Int → Hp → VK → Prop := fun x lo hi H Q => rSlL K x lo hi H Q ∨ rSlA K x lo hi H Q
theorem sl_any {X : Cx} : SlR X (rSlAny X.K) := SlR.or sl_list sl_tupA
theorem cutV_whole {xs : List V} {lo hi : Option Int} (h : HT.sIx xs.length 0 lo = 0 ∧ HT.sIx xs.length xs.length hi = xs.length) : cutV xs lo hi = xs := by
  unfold cutV
  rw [h.1, h.2, List.drop_zero, Nat.sub_zero, List.take_of_length_le (Nat.le_refl _)]
theorem ev_slT {tl th : TO} {xs : List PyData} {lo hi : Option Int} (h : EvE K H0 F G te (.tuple xs)) (h1 : EvO K H0 F G tl lo) (h2 : EvO K H0 F G th hi) : EvE K H0 F G (tSl (rSlAny K) te tl th) (.tuple (cutD xs lo hi)) := fun σ H o Q q =>
  h σ H o _ fun v H1 e1 d1 => h1 σ H1 (o.mono e1) _ fun H2 e2 => h2 σ H2 (o.mono (e1.trans e2)) _ fun H3 e3 => by
    have e13 := (e1.trans e2).trans e3
    have d3 := dp_same (e2.trans e3) _ _ d1
    obtain ⟨a, vs, rfl, hs, ha⟩ := dp_tup d3
    refine .inr ⟨a, vs, rfl, hs, fun w => ?_, fun _ p hp => ?_⟩
    · refine q _ H3 e13 (.tup hs ?_)
      have := cut_dps (lo := lo) (hi := hi) ha
      rw [cutV_whole w] at this
      exact this
    · exact q _ _ (e13.trans (same_new hp)) (dp_new hp (cut_dps ha))
theorem el_slL {tl th : TO} {xs : List PyData} {lo hi : Option Int} (h : EvE K H0 F G te (.list xs)) (h1 : EvO K H0 F G tl lo) (h2 : EvO K H0 F G th hi) : EvL K H0 F G (tSl (rSlAny K) te tl th) (cutD xs lo hi) := fun σ H o Q q =>
  h σ H o _ fun v H1 e1 d1 => h1 σ H1 (o.mono e1) _ fun H2 e2 => h2 σ H2 (o.mono (e1.trans e2)) _ fun H3 e3 => by
    have e13 := (e1.trans e2).trans e3
    have d3 := dp_same (e2.trans e3) _ _ d1
    obtain ⟨a, vs, rfl, hs, ha⟩ := dp_lst d3
    exact .inl ⟨a, vs, rfl, hs, fun p hp => q p _ _ (fresh_back e13 hp) (e13.trans (same_new hp)) upd_same (dps_same (same_new hp) _ _ (cut_dps ha))⟩

/-! ### built-in calls -/
theorem ev_cb {ta : TA} {xs : List PyData} {r : List V → Hp → VK → Prop} (h : EvA K H0 F G ta xs) (hr : RC K r xs z) : EvE K H0 F G (tCB r ta) z := fun σ H o Q q =>
  h σ H o _ fun vs H1 e1 d1 => hr vs H1 d1 Q fun u H2 e2 d2 => q u H2 (e1.trans e2) d2
theorem el_cb {ta : TA} {xs zs : List PyData} {r : List V → Hp → VK → Prop} (h : EvA K H0 F G ta xs) (hr : RCL K r xs zs) : EvL K H0 F G (tCB r ta) zs := fun σ H o Q q =>
  h σ H o _ fun vs H1 e1 d1 => hr vs H1 d1 Q fun p us H2 hp e2 hH d2 => q p us H2 (fresh_back e1 hp) (e1.trans e2) hH d2
theorem dps1 {H : Hp} {vs : List V} (h : DpAll K H vs [x]) : ∃ v, vs = [v] ∧ Dp K H v x := by
  cases h with
  | cons h t => cases t; exact ⟨_, rfl, h⟩
theorem dps2 {H : Hp} {vs : List V} (h : DpAll K H vs [x, y]) : ∃ v w, vs = [v, w] ∧ Dp K H v x ∧ Dp K H w y := by
  cases h with
  | cons h t =>
    cases t with
    | cons h' t => cases t; exact ⟨_, _, rfl, h, h'⟩
def rLen (K : Fg) : List V → Hp → VK → Prop := fun xs H Q => ∃ p ys, xs = [.ref p] ∧ (SqL K H p ys ∨ SqT K H p ys) ∧ Q (.int ys.length) H
theorem call_lenS {X : Cx} : CallR X (.builtin "len") (rLen X.K) := call_len_seq
theorem rc_lenT {xs : List PyData} : RC K (rLen K) [.tuple xs] (.int xs.length) := fun vs H h Q q => by
  obtain ⟨v, rfl, hx⟩ := dps1 h
  obtain ⟨a, ws, rfl, hs, ha⟩ := dp_tup hx
  refine ⟨a, ws, rfl, .inr hs, ?_⟩
  rw [dps_len ha]
  exact q _ H (Same.refl H) (.int _)
theorem rc_lenL {xs : List PyData} : RC K (rLen K) [.list xs] (.int xs.length) := fun vs H h Q q => by
  obtain ⟨v, rfl, hx⟩ := dps1 h
  obtain ⟨a, ws, rfl, hs, ha⟩ := dp_lst hx
  refine ⟨a, ws, rfl, .inl hs, ?_⟩
  rw [dps_len ha]
  exact q _ H (Same.refl H) (.int _)
def rTupOf (K : Fg) : List V → Hp → VK → Prop := fun xs H Q => ∃ p ys, xs = [.ref p] ∧ ((SqL K H p ys ∧ ∀ l, H l = none → Q (.ref l) (upd H l (.tup ys))) ∨ (SqT K H p ys ∧ Q (.ref p) H))
theorem call_tupS {X : Cx} : CallR X (.type "tuple") (rTupOf X.K) := call_tuple_of
theorem rc_tupL {xs : List PyData} : RC K (rTupOf K) [.list xs] (.tuple xs) := fun vs H h Q q => by
  obtain ⟨v, rfl, hx⟩ := dps1 h
  obtain ⟨a, ws, rfl, hs, ha⟩ := dp_lst hx
  exact ⟨a, ws, rfl, .inl ⟨hs, fun p hp => q _ _ (same_new hp) (dp_new hp ha)⟩⟩
theorem rc_tupT {xs : List PyData} : RC K (rTupOf K) [.tuple xs] (.tuple xs) := fun vs H h Q q => by
  obtain ⟨v, rfl, hx⟩ := dps1 h
  obtain ⟨a, ws, rfl, hs, ha⟩ := dp_tup hx
  exact ⟨a, ws, rfl, .inr ⟨hs, q _ H (Same.refl H) (.tup hs ha)⟩⟩
def rListOf (K : Fg) : List V → Hp → VK → Prop := fun xs H Q => ∃ p ys, xs = [.ref p] ∧ (SqL K H p ys ∨ SqT K H p ys) ∧ ∀ l, H l = none → Q (.ref l) (upd H l (.lst ys))
theorem call_listS {X : Cx} : CallR X (.type "list") (rListOf X.K) := call_list_of
theorem rc_listL {xs : List PyData} : RCL K (rListOf K) [.list xs] xs := fun vs H h Q q => by
  obtain ⟨v, rfl, hx⟩ := dps1 h
  obtain ⟨a, ws, rfl, hs, ha⟩ := dp_lst hx
  exact ⟨a, ws, rfl, .inl hs, fun p hp => q p ws _ hp (same_new hp) upd_same (dps_same (same_new hp) _ _ ha)⟩
theorem rc_listT {xs : List PyData} : RCL K (rListOf K) [.tuple xs] xs := fun vs H h Q q => by
  obtain ⟨v, rfl, hx⟩ := dps1 h
  obtain ⟨a, ws, rfl, hs, ha⟩ := dp_tup hx
  exact ⟨a, ws, rfl, .inr hs, fun p hp => q p ws _ hp (same_new hp) upd_same (dps_same (same_new hp) _ _ ha)⟩
def rAbs : List V → Hp → VK → Prop := fun xs H Q => ∃ i, xs = [.int i] ∧ Q (.int (if i < 0 then -i else i)) H
theorem call_absS {X : Cx} : CallR X (.builtin "abs") rAbs := call_abs
theorem rc_abs {i : Int} : RC K rAbs [.int i] (.int i.natAbs) := fun vs H h Q q => by
  obtain ⟨v, rfl, hx⟩ := dps1 h
  cases hx
  refine ⟨i, rfl, ?_⟩
  rw [show (if i < 0 then -i else i) = (i.natAbs : Int) by split <;> omega]
  exact q _ H (Same.refl H) (.int _)
def rMax2 : List V → Hp → VK → Prop := fun xs H Q => ∃ i j, xs = [.int i, .int j] ∧ Q (.int (if j > i then j else i)) H
theorem call_max2S {X : Cx} (hc : X.calm = true) : CallR X (.builtin "max") rMax2 := call_max2 hc
theorem rc_max2 {i j : Int} : RC K rMax2 [.int i, .int j] (.int (max i j)) := fun vs H h Q q => by
  obtain ⟨v, w, rfl, h1, h2⟩ := dps2 h
  cases h1; cases h2
  refine ⟨i, j, rfl, ?_⟩
  rw [show (if j > i then j else i) = max i j by split <;> omega]
  exact q _ H (Same.refl H) (.int _)
def rMin2 : List V → Hp → VK → Prop := fun xs H Q => ∃ i j, xs = [.int i, .int j] ∧ Q (.int (if j < i then j else i)) H
theorem call_min2S {X : Cx} (hc : X.calm = true) : CallR X (.builtin "min") rMin2 := call_min2 hc
theorem rc_min2 {i j : Int} : RC K rMin2 [.int i, .int j] (.int (min i j)) := fun vs H h Q q => by
  obtain ⟨v, w, rfl, h1, h2⟩ := dps2 h
  cases h1; cases h2
  refine ⟨i, j, rfl, ?_⟩
  rw [show (if j < i then j else i) = min i j by split <;> omega]
  exact q _ H (Same.refl H) (.int _)
def rIntI : List V → Hp → VK → Prop := fun xs H Q => (∃ i, xs = [.int i] ∧ Q (.int i) H) ∨ ∃ k, xs = [.bl k] ∧ Q (.int (if k then 1 else 0)) H
theorem call_intS {X : Cx} : CallR X (.type "int") rIntI := call_int1
theorem rc_int {i : Int} : RC K rIntI [.int i] (.int i) := fun vs H h Q q => by
  obtain ⟨v, rfl, hx⟩ := dps1 h
  cases hx
  exact .inl ⟨i, rfl, q _ H (Same.refl H) (.int _)⟩
theorem rc_intB {b : Bool} : RC K rIntI [.bool b] (.int (if b then 1 else 0)) := fun vs H h Q q => by
  obtain ⟨v, rfl, hx⟩ := dps1 h
  cases hx
  exact .inr ⟨b, rfl, q _ H (Same.refl H) (.int _)⟩
theorem rc_all {bs : List Bool} : RC K (rAll K) [.list (bs.map PyData.bool)] (.bool (bs.all id)) := fun vs H h Q q => by
  obtain ⟨v, rfl, hx⟩ := dps1 h
  obtain ⟨a, ws, rfl, hs, ha⟩ := dp_lst hx
  rw [dps_bools' ha] at hs
  exact ⟨a, bs, rfl, hs, q _ H (Same.refl H) (.bl _)⟩
theorem rc_any {bs : List Bool} : RC K (rAny K) [.list (bs.map PyData.bool)] (.bool (bs.any id)) := fun vs H h Q q => by
  obtain ⟨v, rfl, hx⟩ := dps1 h
  obtain ⟨a, ws, rfl, hs, ha⟩ := dp_lst hx
  rw [dps_bools' ha] at hs
  exact ⟨a, bs, rfl, hs, q _ H (Same.refl H) (.bl _)⟩

/-! ### own defs -/
def spT {α : Type} (K : Fg) (enc : α → List PyData) (pre : α → Prop) (res : α → PyData) : Sp := fun vs H Q _ => ∃ a, DpAll K H vs (enc a) ∧ pre a ∧ ∀ v H', Same H H' → Dp K H' v (res a) → Q v H'
def spL {α : Type} (K : Fg) (enc : α → List PyData) (pre : α → Prop) (res : α → List PyData) : Sp := fun vs H Q _ => ∃ a, DpAll K H vs (enc a) ∧ pre a ∧ ∀ p us H', H p = none → Same H H' → H' p = some (.lst us) → DpAll K H' us (res a) → Q (.ref p) H'
theorem ev_call {α : Type} {enc : α → List PyData} {pre : α → Prop} {res : α → PyData} {E : XK} {ta : TA} (a : α) (h : EvA K H0 F G ta (enc a)) (hp : pre a) : EvE K H0 F G (tCall (spT K enc pre res) [] E ta) (res a) := fun σ H o Q q =>
  h σ H o _ fun vs H1 e1 d1 => by
    rw [List.append_nil]
    exact ⟨a, d1, hp, fun v H2 e2 d2 => q v H2 (e1.trans e2) d2⟩
theorem el_call {α : Type} {enc : α → List PyData} {pre : α → Prop} {res : α → List PyData} {E : XK} {ta : TA} (a : α) (h : EvA K H0 F G ta (enc a)) (hp : pre a) : EvL K H0 F G (tCall (spL K enc pre res) [] E ta) (res a) := fun σ H o Q q =>
  h σ H o _ fun vs H1 e1 d1 => by
    rw [List.append_nil]
    exact ⟨a, d1, hp, fun p us H2 hp e2 hH d2 => q p us H2 (fresh_back e1 hp) (e1.trans e2) hH d2⟩
end
end Sw

namespace Sw
open PySem PySem.Spec L2

/-! ### statements -/
abbrev Aft (K : Fg) (H0 : Hp) (F : List FE) (n : St → Hp → Prop) (G : List B) : Prop := ∀ σ H, Own K H0 F G σ H → n σ H
abbrev Goes (K : Fg) (H0 : Hp) (F : List FE) (t : TS) (D : Ends) (G : List B) : Prop := Aft K H0 F (t D) G
def Rt (K : Fg) (H0 : Hp) (D : Ends) (x : PyData) : Prop := ∀ v H, Same H0 H → Dp K H v x → D.rt v H
def RtL (K : Fg) (H0 : Hp) (D : Ends) (xs : List PyData) : Prop := ∀ p us H, H0 p = none → Same H0 H → H p = some (.lst us) → DpAll K H us xs → D.rt (.ref p) H
/-- what a slot gets of an expression -/
def EvB (K : Fg) (H0 : Hp) (F : List FE) (G : List B) (te : TE) : B → Prop
  | .d x => EvE K H0 F G te x ∧ pr x = true
  | .l xs => EvL K H0 F G te xs ∧ prs xs = true
  | _ => False

section
variable {K : Fg} {H0 : Hp} {F : List FE} {G G' : List B} {ta tb tc te ti : TE} {t u : TS} {c : TT} {x y z d : PyData} {D : Ends} {b b1 b2 : B} {i j k : Nat}
theorem eb_d (h : EvE K H0 F G te x) (p : pr x = true) : EvB K H0 F G te (.d x) := ⟨h, p⟩
theorem eb_l {xs : List PyData} (h : EvL K H0 F G te xs) (p : prs xs = true) : EvB K H0 F G te (.l xs) := ⟨h, p⟩
theorem g_seq (h : Goes K H0 F t { D with nx := u D } G) : Goes K H0 F (tSeq t u) D G := h
theorem g_next (h : Aft K H0 F D.nx G) : Goes K H0 F tNext D G := h
theorem aft_le {n : St → Hp → Prop} (l : LeG G G') (h : Aft K H0 F n G') : Aft K H0 F n G := fun σ H o => h σ H (o.le l)
/-- one expression's value is stored -/
theorem eb_store {n : St → Hp → Prop} (h : EvB K H0 F G te b) (k : Aft K H0 F n (G.set i b)) : ∀ σ H, Own K H0 F G σ H → te σ H fun v H1 => n (σ.set i (some v)) H1 := fun σ H o => by
  cases b with
  | d x => exact h.1 σ H o _ fun v H1 e1 d1 => k _ _ ((o.mono e1).setD i h.2 d1)
  | l xs => exact h.1 σ H o _ fun p vs H1 hp e1 hH d1 => k _ _ (o.setL i hp e1 hH d1 h.2)
  | u => exact h.elim
  | r _ => exact h.elim
  | g _ _ _ _ _ _ => exact h.elim
  | bg _ _ _ _ => exact h.elim
theorem g_asg (h : EvB K H0 F G te b) (k : Aft K H0 F D.nx (G.set i b)) : Goes K H0 F (tAsg te (gName i)) D G := fun σ H o => eb_store h k σ H o
theorem g_set (h : EvE K H0 F G te x) (p : pr x = true) (k : Aft K H0 F D.nx (G.set i (.d x))) : Goes K H0 F (tAsg te (gName i)) D G := g_asg (b := .d x) ⟨h, p⟩ k
theorem g_setL {xs : List PyData} (h : EvL K H0 F G te xs) (p : prs xs = true) (k : Aft K H0 F D.nx (G.set i (.l xs))) : Goes K H0 F (tAsg te (gName i)) D G := g_asg (b := .l xs) ⟨h, p⟩ k
theorem g_drop (h : EvE K H0 F G te x) (k : Aft K H0 F D.nx G) : Goes K H0 F (tDrop te) D G := fun σ H o => h σ H o _ fun v H1 e1 _ => k σ H1 (o.mono e1)
theorem g_par (h1 : EvB K H0 F G ta b1) (h2 : EvB K H0 F G tb b2) (k : Aft K H0 F D.nx ((G.set i b1).set j b2)) : Goes K H0 F (tPar i j (tCons ta (tCons tb tNil))) D G := fun σ H o => by
  have fin : ∀ (v : V) (H1 : Hp), Own K H0 F G σ H1 → Own K H0 F (G.set i b1) (σ.set i (some v)) H1 → tCons tb tNil σ H1 fun vs H2 => ∃ v' w', v :: vs = [v', w'] ∧ D.nx ((σ.set i (some v')).set j (some w')) H2 := fun v H1 o1 o2 => by
    cases b2 with
    | d x => exact h2.1 σ H1 o1 _ fun w H2 e2 d2 => ⟨v, w, rfl, k _ _ ((o2.mono e2).setD j h2.2 d2)⟩
    | l xs => exact h2.1 σ H1 o1 _ fun p vs H2 hp e2 hH d2 => ⟨v, _, rfl, k _ _ (o2.setL j hp e2 hH d2 h2.2)⟩
    | u => exact h2.elim
    | r _ => exact h2.elim
    | g _ _ _ _ _ _ => exact h2.elim
    | bg _ _ _ _ => exact h2.elim
  cases b1 with
  | d x => exact h1.1 σ H o _ fun v H1 e1 d1 => fin v H1 (o.mono e1) ((o.mono e1).setD i h1.2 d1)
  | l xs => exact h1.1 σ H o _ fun p vs H1 hp e1 hH d1 => fin _ H1 (o.mono e1) (o.setL i hp e1 hH d1 h1.2)
  | u => exact h1.elim
  | r _ => exact h1.elim
  | g _ _ _ _ _ _ => exact h1.elim
  | bg _ _ _ _ => exact h1.elim
theorem g_ret (h : EvE K H0 F G te x) (k : Rt K H0 D x) : Goes K H0 F (tRet te) D G := fun σ H o => h σ H o _ fun v H1 e1 d1 => k v H1 (o.same.trans e1) d1
theorem g_retL {xs : List PyData} (h : EvL K H0 F G te xs) (k : RtL K H0 D xs) : Goes K H0 F (tRet te) D G := fun σ H o => h σ H o _ fun p us H1 hp e1 hH d1 => k p us H1 (o.same.free hp) (o.same.trans e1) hH d1
theorem g_retV {xs : List PyData} (e : G[i]? = some (.l xs)) (k : RtL K H0 D xs) : Goes K H0 F (tRet (tVar i)) D G := fun σ H o => by
  obtain ⟨_, a, vs, e1, h0, e2, e3⟩ := o.l e
  exact ⟨_, e1, k a vs H h0 o.same e2 e3⟩
theorem g_if {b : Bool} (h : EvT K H0 F G c b) (h1 : b = true → Goes K H0 F t D G) (h2 : b = false → Goes K H0 F u D G) : Goes K H0 F (tIfS c t u) D G := fun σ H o => h σ H o _ fun H1 e1 => by
  cases b with
  | true => exact h1 rfl σ H1 (o.mono e1)
  | false => exact h2 rfl σ H1 (o.mono e1)
theorem g_no (h : EvT K H0 F G c false) (h2 : Goes K H0 F u D G) : Goes K H0 F (tIfS c t u) D G := g_if h (fun e => nomatch e) fun _ => h2
theorem g_yes (h : EvT K H0 F G c true) (h2 : Goes K H0 F t D G) : Goes K H0 F (tIfS c t u) D G := g_if h (fun _ => h2) fun e => nomatch e
theorem g_aug {f : Int → Int → Int} {a b : Int} (hx : G[i]? = some (.d (.int a))) (h : EvE K H0 F G te (.int b)) (k : Aft K H0 F D.nx (G.set i (.d (.int (f a b))))) : Goes K H0 F (tAug i te (ipI f)) D G := fun σ H o => by
  obtain ⟨_, v, e1, e2⟩ := o.d hx
  cases e2
  refine ⟨_, e1, h σ H o _ fun w H1 e1 d1 => ?_⟩
  cases d1
  exact ⟨a, b, rfl, rfl, k _ _ ((o.mono e1).setD i rfl (.int _))⟩
theorem ix_nat {n k : Nat} (h : k < n) : ixN n (k : Int) = some k := by
  unfold ixN
  rw [if_pos (by omega), if_pos (by omega)]
  simp
theorem g_setI {xs : List PyData} (hx : G[i]? = some (.l xs)) (h : EvE K H0 F G te x) (p : pr x = true) (hi : EvE K H0 F G ti (.int (k : Int))) (hk : k < xs.length) (n : Aft K H0 F D.nx (G.set i (.l (xs.set k x)))) :
    Goes K H0 F (tAsg te (gSub (tVar i) ti rSetL)) D G := fun σ H o => h σ H o _ fun v H1 e1 d1 => by
  have o1 := o.mono e1
  obtain ⟨_, a0, vs0, s0, _, _, _⟩ := o1.l hx
  refine ⟨_, s0, hi σ H1 o1 _ fun w H2 e2 d2 => ?_⟩
  cases d2
  have o2 := o1.mono e2
  obtain ⟨a, vs, s2, q0, q1, q2, ps, wr⟩ := o2.wr hx
  obtain rfl : a0 = a := by rw [s0] at s2; cases s2; rfl
  exact ⟨a0, vs, _, k, rfl, rfl, q1, ix_nat (by rw [dps_len q2]; exact hk), n _ _ (wr _ _ (prs_set ps p) (dps_set (dp_same e2 _ _ d1) k q2))⟩
theorem g_app {xs : List PyData} (hx : G[i]? = some (.l xs)) (h : EvE K H0 F G te x) (p : pr x = true) (hl : xs.length < 100000) (n : Aft K H0 F D.nx (G.set i (.l (xs ++ [x])))) :
    Goes K H0 F (tDrop (tBM K "list" rAppend (tVar i) (tCons te tNil))) D G := fun σ H o => by
  obtain ⟨_, a0, vs0, s0, _, l0, _⟩ := o.l hx
  refine ⟨_, s0, .inl ⟨rfl, vs0, SqL.of l0⟩, h σ H o _ fun v H1 e1 d1 => ?_⟩
  have o1 := o.mono e1
  obtain ⟨a, vs, s2, q0, q1, q2, ps, wr⟩ := o1.wr hx
  obtain rfl : a0 = a := by rw [s0] at s2; cases s2; rfl
  exact ⟨a0, vs, v, rfl, rfl, q1, by rw [dps_len q2]; exact Nat.lt_of_lt_of_le hl (by decide : 100000 ≤ sizeLine), n _ _ (wr _ _ (prs_append ps (prs_cons p rfl)) (dps_append q2 (.cons d1 .nil)))⟩
theorem dps_dropLast {H : Hp} {vs : List V} {ds : List PyData} (h : DpAll K H vs ds) : DpAll K H vs.dropLast ds.dropLast := by
  rw [List.dropLast_eq_take, List.dropLast_eq_take, dps_len h]
  exact dps_take _ h
theorem g_pop {xs : List PyData} (hx : G[i]? = some (.l xs)) (h : xs ≠ []) (n : Aft K H0 F D.nx (G.set i (.l xs.dropLast))) :
    Goes K H0 F (tDrop (tBM0 K "list" rPop (tVar i))) D G := fun σ H o => by
  obtain ⟨a, vs, s0, q0, q1, q2, ps, wr⟩ := o.wr hx
  have hl : 0 < vs.length := by
    rw [dps_len q2]
    exact List.length_pos_iff.mpr h
  exact ⟨_, s0, .inl ⟨rfl, vs, SqL.of q1⟩, a, vs, _, rfl, rfl, q1, List.getElem?_eq_getElem (by omega), n _ _ (wr _ _ (prs_of fun x m => prs_mem ps ((List.dropLast_sublist _).mem m)) (dps_dropLast q2))⟩

/-! ### while -/
theorem g_while {α : Type} (I : α → List B) (ok : α → Prop) (cf : α → Bool) (f : α → α) (μ : α → Nat) (a0 : α) (h0 : LeG G (I a0)) (hok : ok a0) (ht : ∀ a, ok a → EvT K H0 F (I a) c (cf a))
    (hb : ∀ a, ok a → cf a = true → ok (f a) ∧ μ (f a) < μ a ∧ Goes K H0 F t { D with nx := Own K H0 F (I (f a)), ct := Own K H0 F (I (f a)), bk := D.nx } (I a))
    (hd : ∀ a, ok a → cf a = false → Aft K H0 F D.nx (I a)) : Goes K H0 F (tWhile c t) D G := fun σ H o => by
  refine ⟨fun m σ H => ∃ a, ok a ∧ μ a = m ∧ Own K H0 F (I a) σ H, ⟨_, a0, hok, rfl, o.le h0⟩, ?_⟩
  rintro m σ H ⟨a, oa, rfl, o⟩
  refine ht a oa σ H o _ fun H1 e1 => ?_
  cases hc : cf a with
  | true =>
    rw [if_pos rfl]
    obtain ⟨b1, b2, b3⟩ := hb a oa hc
    exact ⟨_, fun σ' H' o' => ⟨_, b2, f a, b1, rfl, o'⟩, b3 σ H1 (o.mono e1)⟩
  | false =>
    rw [if_neg Bool.false_ne_true]
    exact hd a oa hc σ H1 (o.mono e1)

/-! ### what is walked -/
structure WalkD (K : Fg) (H0 : Hp) (J : It) (F1 : List FE) (ds : List PyData) : Prop where
  goes : ∀ i H, i < ds.length → Same H0 H → (∀ f ∈ F1, f.ok K H) → J.go i H
  stops : ∀ H, Same H0 H → (∀ f ∈ F1, f.ok K H) → J.stop ds.length H
  yields : ∀ i H x H', i < ds.length → Same H0 H → (∀ f ∈ F1, f.ok K H) → J.yld i H x H' → Same H H' ∧ ∃ d, ds[i]? = some d ∧ Dp K H' x d
def EvI (K : Fg) (H0 : Hp) (F : List FE) (G : List B) (wi : TI) (ds : List PyData) : Prop := ∀ σ H, Own K H0 F G σ H → ∀ R : It → Hp → Prop,
  (∀ J H1 F1, Same H H1 → (∀ f ∈ F1, f.ok K H1 ∧ (f.isL = true → H f.a = none)) → WalkD K H0 J F1 ds → R J H1) → wi σ H R
/-- .. where nothing is written -/
structure WalkC (K : Fg) (H1 : Hp) (J : It) (ds : List PyData) : Prop where
  goes : ∀ i H, i < ds.length → Same H1 H → J.go i H
  stops : ∀ H, Same H1 H → J.stop ds.length H
  yields : ∀ i H x H', i < ds.length → Same H1 H → J.yld i H x H' → Same H H' ∧ ∃ d, ds[i]? = some d ∧ Dp K H' x d
def EvC (K : Fg) (H0 : Hp) (F : List FE) (G : List B) (wi : TI) (ds : List PyData) : Prop := ∀ σ H, Own K H0 F G σ H → ∀ R : It → Hp → Prop,
  (∀ J H1, Same H H1 → WalkC K H1 J ds → R J H1) → wi σ H R
theorem EvI.toC {wi : TI} {ds : List PyData} (h : EvI K H0 F G wi ds) : EvC K H0 F G wi ds := fun σ H o R k => h σ H o R fun J H1 F1 e1 hf w =>
  k J H1 e1 ⟨fun i H2 hi e2 => w.goes i H2 hi ((o.same.trans e1).trans e2) fun f m => (hf f m).1.same e2, fun H2 e2 => w.stops H2 ((o.same.trans e1).trans e2) fun f m => (hf f m).1.same e2,
    fun i H2 x H3 hi e2 y => w.yields i H2 x H3 hi ((o.same.trans e1).trans e2) (fun f m => (hf f m).1.same e2) y⟩

/-! ### targets -/
theorem wipe_comm (σ : St) (i : Nat) (s : Option V) (h : ∀ v : Nat, v ≠ i → True) : True := trivial
theorem wipe_set {σ : St} {s : Option V} : ∀ {vs : List Nat}, i ∈ vs → wipe (σ.set i s) vs = wipe σ vs
  | [], h => by cases h
  | v :: vs, h => by
    show (wipe (σ.set i s) vs).set v none = (wipe σ vs).set v none
    have out : ∀ ws : List Nat, wipe (σ.set i s) ws = wipe σ ws ∨ wipe (σ.set i s) ws = (wipe σ ws).set i s := by
      intro ws
      induction ws with
      | nil => exact .inr rfl
      | cons w ws ih =>
        show (wipe (σ.set i s) ws).set w none = (wipe σ ws).set w none ∨ (wipe (σ.set i s) ws).set w none = ((wipe σ ws).set w none).set i s
        rcases ih with e | e
        · exact .inl (by rw [e])
        · rw [e]
          by_cases hw : w = i
          · subst hw
            rw [List.set_set]
            exact .inl rfl
          · exact .inr (List.set_comm _ _ (fun z => hw z.symm))
    rcases List.mem_cons.mp h with e | m
    · subst e
      rcases out vs with e | e
      · rw [e]
      · rw [e, List.set_set]
    · rw [wipe_set m]
def wipeB (G : List B) : List Nat → List B
  | [] => G
  | v :: vs => (wipeB G vs).set v .u
theorem Own.wipe {σ : St} {H : Hp} (o : Own K H0 F G σ H) : ∀ vs : List Nat, Own K H0 F (wipeB G vs) (L2.wipe σ vs) H
  | [] => o
  | v :: vs => (o.wipe vs).setU v none
/-- an item d is stored in the target -/
def TgE (K : Fg) (H0 : Hp) (F : List FE) (g : TG) (G : List B) (d : PyData) (G' : List B) (vs : List Nat) : Prop :=
  ∀ v σ H, Own K H0 F G σ H → Dp K H v d → ∀ Q : St → Hp → Prop, (∀ σ' H', Same H H' → Own K H0 F G' σ' H' → L2.wipe σ' vs = L2.wipe σ vs → Q σ' H') → g v σ H Q
theorem tg_name {vs : List Nat} (p : pr d = true) (m : i ∈ vs) : TgE K H0 F (gName i) G d (G.set i (.d d)) vs := fun v σ H o h Q q => q _ H (Same.refl H) (o.setD i p h) (wipe_set m)
/-- an item that is kept for reading only -/
theorem tg_tup2 {vs : List Nat} (p : pr x = true) (p' : pr y = true) (m : i ∈ vs) (m' : j ∈ vs) : TgE K H0 F (gTup K 2 (gCons (gName i) (gCons (gName j) gNil))) G (.tuple [x, y]) ((G.set i (.d x)).set j (.d y)) vs := fun v σ H o h Q q => by
  obtain ⟨a, ws, rfl, hs, ha⟩ := dp_tup h
  obtain ⟨v1, v2, rfl, h1, h2⟩ := dps2 ha
  exact ⟨a, _, rfl, hs, rfl, v1, [v2], rfl, v2, [], rfl, rfl, q _ H (Same.refl H) ((o.setD i p h1).setD j p' h2) ((wipe_set m').trans (wipe_set m))⟩
theorem tg_tup3 {vs : List Nat} (p : pr x = true) (p' : pr y = true) (p'' : pr z = true) (m : i ∈ vs) (m' : j ∈ vs) (m'' : k ∈ vs) : TgE K H0 F (gTup K 3 (gCons (gName i) (gCons (gName j) (gCons (gName k) gNil)))) G (.tuple [x, y, z]) (((G.set i (.d x)).set j (.d y)).set k (.d z)) vs := fun v σ H o h Q q => by
  obtain ⟨a, ws, rfl, hs, ha⟩ := dp_tup h
  cases ha with
  | @cons v1 vs1 _ _ h1 t =>
    obtain ⟨v2, v3, rfl, h2, h3⟩ := dps2 t
    exact ⟨a, _, rfl, hs, rfl, v1, [v2, v3], rfl, v2, [v3], rfl, v3, [], rfl, rfl, q _ H (Same.refl H) (((o.setD i p h1).setD j p' h2).setD k p'' h3) ((wipe_set m'').trans ((wipe_set m').trans (wipe_set m)))⟩
/-- a, b = a pair, a list among them read only is not served: pure data -/
theorem g_unp {g : TG} {vs : List Nat} (h : EvE K H0 F G te d) (hg : TgE K H0 F g G d G' vs) (k : Aft K H0 F D.nx G') : Goes K H0 F (tAsg te g) D G := fun σ H o => h σ H o _ fun v H1 e1 d1 => hg v σ H1 (o.mono e1) d1 _ fun σ' H' e2 o' _ => k σ' H' o'

/-! ### for -/
theorem g_for {wi : TI} {g : TG} {ds : List PyData} (vs : List Nat) (hi : EvI K H0 F G wi ds) (I : Nat → List B) (h0 : LeG G (I 0))
    (turn : ∀ (F1 : List FE) (i : Nat) (d : PyData), ds[i]? = some d → ∃ G1, TgE K H0 F1 g (I i) d G1 vs ∧ Goes K H0 F1 t { D with nx := Own K H0 F1 (I (i + 1)), ct := Own K H0 F1 (I (i + 1)), bk := D.nx } G1)
    (hd : Aft K H0 F D.nx (I ds.length)) : Goes K H0 F (tFor wi g t) D G := fun σ H o => hi σ H o _ fun J H1 F1 e1 hf w => by
  have o1 : Own K H0 (F1 ++ F) (I 0) σ H1 := (o.more e1 hf).le h0
  refine ⟨fun i m σ H => m = ds.length - i ∧ i ≤ ds.length ∧ Own K H0 (F1 ++ F) (I i) σ H, ⟨_, rfl, Nat.zero_le _, o1⟩, ?_⟩
  rintro i m σ H ⟨rfl, hi, o⟩
  by_cases hlt : i < ds.length
  · refine .inr ⟨w.goes i H hlt o.same o.fe, Own K H0 (F1 ++ F) (I (i + 1)), fun σ' H' o' => ⟨_, by omega, rfl, hlt, o'⟩, fun x H' y => ?_⟩
    obtain ⟨e, d, hd, hx⟩ := w.yields i H x H' hlt o.same o.fe y
    obtain ⟨G1, tg, bd⟩ := turn (F1 ++ F) i d hd
    exact tg x σ H' (o.mono e) hx _ fun σ2 H2 _ o2 _ => bd σ2 H2 o2
  · have e : i = ds.length := by omega
    subst e
    exact .inl ⟨w.stops H o.same o.fe, hd σ H o.less⟩
/-- a for over a list of a slot, which is not asked for any more -/
theorem g_forOwn {g : TG} {ds : List PyData} (vs : List Nat) (hx : G[i]? = some (.l ds)) (I : Nat → List B) (h0 : LeG (G.set i .u) (I 0))
    (turn : ∀ (F1 : List FE) (i : Nat) (d : PyData), ds[i]? = some d → ∃ G1, TgE K H0 F1 g (I i) d G1 vs ∧ Goes K H0 F1 t { D with nx := Own K H0 F1 (I (i + 1)), ct := Own K H0 F1 (I (i + 1)), bk := D.nx } G1)
    (hd : Aft K H0 F D.nx (I ds.length)) : Goes K H0 F (tFor (iList K (tVar i)) g t) D G := fun σ H o => by
  obtain ⟨a, ws, s0, hl, da, of⟩ := o.freeze hx
  refine ⟨_, s0, a, rfl, ⟨ws, SqL.of hl⟩, ?_⟩
  have ll := dps_len da
  refine ⟨fun i m σ H => m = ds.length - i ∧ i ≤ ds.length ∧ Own K H0 (⟨a, true, ws, ds⟩ :: F) (I i) σ H, ⟨_, rfl, Nat.zero_le _, of.le h0⟩, ?_⟩
  rintro i m σ H ⟨rfl, hi, o⟩
  have fe : FE.ok K H ⟨a, true, ws, ds⟩ := o.fe (F1 := [⟨a, true, ws, ds⟩]) _ (List.mem_singleton.mpr rfl)
  have hl : H a = some (.lst ws) := fe.1
  by_cases hlt : i < ds.length
  · refine .inr ⟨⟨ws, ws[i], SqL.of hl, List.getElem?_eq_getElem (by omega)⟩, Own K H0 (⟨a, true, ws, ds⟩ :: F) (I (i + 1)), fun σ' H' o' => ⟨_, by omega, rfl, hlt, o'⟩, fun x H' y => ?_⟩
    obtain ⟨rfl, hx⟩ := y
    obtain ⟨d, hd, hx⟩ := dps_get' fe.2.2 (hx ws (SqL.of hl))
    obtain ⟨G1, tg, bd⟩ := turn _ i d hd
    exact tg x σ _ o hx _ fun σ2 H2 _ o2 _ => bd σ2 H2 o2
  · have e : i = ds.length := by omega
    subst e
    exact .inl ⟨⟨ws, SqL.of hl, by omega⟩, hd σ H (o.less (F1 := [⟨a, true, ws, ds⟩]))⟩

/-! ### comprehensions -/
theorem el_lc {wi : TI} {g : TG} {vs : List Nat} {ds : List PyData} (ys : List PyData) (hi : EvC K H0 F G wi ds) (hl : ys.length = ds.length) (hz : ds.length < 100000) (py : prs ys = true)
    (turn : ∀ (i : Nat) (d y : PyData), ds[i]? = some d → ys[i]? = some y → ∃ G1, TgE K H0 F g (wipeB G vs) d G1 vs ∧ EvE K H0 F G1 te y) : EvL K H0 F G (tLc wi g tYes te vs) ys := fun σ H o Q q => hi σ H o _ fun J H1 e1 w Dl hD => by
  have o1 := o.mono e1
  refine ⟨fun i m H' => m = ds.length - i ∧ i ≤ ds.length ∧ Same H1 H' ∧ ∃ acc, H' Dl = some (.lst acc) ∧ DpAll K H' acc (ys.take i), ⟨_, rfl, Nat.zero_le _, same_new hD, [], upd_same, .nil⟩, ?_⟩
  rintro i m H' ⟨rfl, hi, e, acc, hacc, da⟩
  by_cases hlt : i < ds.length
  · refine .inr ⟨w.goes i H' hlt e, fun H2 => Same H1 H2 ∧ ∃ acc, H2 Dl = some (.lst acc) ∧ DpAll K H2 acc (ys.take (i + 1)), fun H2 hn => ⟨_, by omega, rfl, hlt, hn⟩, fun x H2 y => ?_⟩
    obtain ⟨e2, d, hd, hx⟩ := w.yields i H' x H2 hlt e y
    have hy : ys[i]? = some ys[i] := List.getElem?_eq_getElem (by omega)
    obtain ⟨G1, tg, ev⟩ := turn i d _ hd hy
    have e12 := e.trans e2
    refine tg x (wipe σ vs) H2 ((o1.mono e12).wipe vs) hx _ fun σ2 H3 e3 o3 hw => ⟨?_, ?_⟩
    · have ww : ∀ us : List Nat, (∀ u ∈ us, u ∈ vs) → wipe (wipe σ vs) us = wipe σ vs := by
        have idem : ∀ (us : List Nat) (τ : St) (v : Nat), v ∈ us → (wipe τ us).set v none = wipe τ us := by
          intro us
          induction us with
          | nil => intro τ v h; cases h
          | cons u us ih =>
            intro τ v h
            show ((wipe τ us).set u none).set v none = (wipe τ us).set u none
            rcases List.mem_cons.mp h with e | m
            · subst e; rw [List.set_set]
            · by_cases hu : u = v
              · subst hu; rw [List.set_set]
              · rw [List.set_comm _ _ hu, ih τ v m]
        intro us
        induction us with
        | nil => intro _; rfl
        | cons u us ih =>
          intro h
          show (wipe (wipe σ vs) us).set u none = wipe σ vs
          rw [ih fun x m => h x (List.mem_cons_of_mem _ m)]
          exact idem vs σ u (h u (List.mem_cons_self ..))
      rw [hw]
      exact ww vs fun _ m => m
    · unfold tYes
      dsimp only
      rw [if_pos rfl]
      refine ev σ2 H3 o3 _ fun v H4 e4 d4 => ?_
      have e24 := (e2.trans e3).trans e4
      have hD4 := e24 _ _ hacc
      have la := dps_len da
      refine ⟨acc, hD4, ?_, same_mut (e.trans e24) hD, _, upd_same, ?_⟩
      · rw [la, List.length_take]
        exact Nat.lt_of_lt_of_le (by omega) (by decide : 100000 ≤ sizeLine)
      · rw [List.take_add_one, hy]
        refine dps_kt (kt_upd hD4) _ _ ?_ (dps_append (dps_same e24 _ _ da) (.cons d4 .nil))
        exact prs_append (prs_of fun x m => prs_mem py (List.mem_of_mem_take m)) (prs_cons (prs_get py hy) rfl)
  · have e' : i = ds.length := by omega
    subst e'
    rw [← hl, List.take_length] at da
    exact .inl ⟨w.stops H' e, q Dl acc H' (fresh_back e1 hD) (e1.trans e) hacc da⟩
/-- .. with a test: ys tells for each item what it makes, none where it is left out -/
theorem el_lcf {wi : TI} {g : TG} {tt : TT} {vs : List Nat} {ds : List PyData} (ys : List (Option PyData)) (hi : EvC K H0 F G wi ds) (hl : ys.length = ds.length) (hz : ds.length < 100000) (py : ∀ y, some y ∈ ys → pr y = true)
    (turn : ∀ (i : Nat) (d : PyData) (y : Option PyData), ds[i]? = some d → ys[i]? = some y → ∃ G1, TgE K H0 F g (wipeB G vs) d G1 vs ∧ EvT K H0 F G1 tt y.isSome ∧ ∀ z, y = some z → EvE K H0 F G1 te z) : EvL K H0 F G (tLc wi g tt te vs) (ys.filterMap id) := fun σ H o Q q => hi σ H o _ fun J H1 e1 w Dl hD => by
  have o1 := o.mono e1
  have pf : ∀ i, prs ((ys.take i).filterMap id) = true := fun i => prs_of fun x m => by
    obtain ⟨y, m1, m2⟩ := List.mem_filterMap.mp m
    have : y = some x := m2
    subst this
    exact py x (List.mem_of_mem_take m1)
  refine ⟨fun i m H' => m = ds.length - i ∧ i ≤ ds.length ∧ Same H1 H' ∧ ∃ acc, H' Dl = some (.lst acc) ∧ DpAll K H' acc ((ys.take i).filterMap id), ⟨_, rfl, Nat.zero_le _, same_new hD, [], upd_same, .nil⟩, ?_⟩
  rintro i m H' ⟨rfl, hi, e, acc, hacc, da⟩
  by_cases hlt : i < ds.length
  · refine .inr ⟨w.goes i H' hlt e, fun H2 => Same H1 H2 ∧ ∃ acc, H2 Dl = some (.lst acc) ∧ DpAll K H2 acc ((ys.take (i + 1)).filterMap id), fun H2 hn => ⟨_, by omega, rfl, hlt, hn⟩, fun x H2 y => ?_⟩
    obtain ⟨e2, d, hd, hx⟩ := w.yields i H' x H2 hlt e y
    have hy : ys[i]? = some ys[i] := List.getElem?_eq_getElem (by omega)
    obtain ⟨G1, tg, ett, ev⟩ := turn i d _ hd hy
    have e12 := e.trans e2
    refine tg x (wipe σ vs) H2 ((o1.mono e12).wipe vs) hx _ fun σ2 H3 e3 o3 hw => ⟨?_, ?_⟩
    · have ww : ∀ us : List Nat, (∀ u ∈ us, u ∈ vs) → wipe (wipe σ vs) us = wipe σ vs := by
        have idem : ∀ (us : List Nat) (τ : St) (v : Nat), v ∈ us → (wipe τ us).set v none = wipe τ us := by
          intro us
          induction us with
          | nil => intro τ v h; cases h
          | cons u us ih =>
            intro τ v h
            show ((wipe τ us).set u none).set v none = (wipe τ us).set u none
            rcases List.mem_cons.mp h with e | m
            · subst e; rw [List.set_set]
            · by_cases hu : u = v
              · subst hu; rw [List.set_set]
              · rw [List.set_comm _ _ hu, ih τ v m]
        intro us
        induction us with
        | nil => intro _; rfl
        | cons u us ih =>
          intro h
          show (wipe (wipe σ vs) us).set u none = wipe σ vs
          rw [ih fun x m => h x (List.mem_cons_of_mem _ m)]
          exact idem vs σ u (h u (List.mem_cons_self ..))
      rw [hw]
      exact ww vs fun _ m => m
    · refine ett σ2 H3 o3 _ fun H3' e3' => ?_
      have e23 := (e2.trans e3).trans e3'
      cases hys : ys[i] with
      | none =>
        refine iteF ?_
        refine ⟨e.trans e23, acc, e23 _ _ hacc, ?_⟩
        rw [List.take_add_one, hy, hys, List.filterMap_append]
        simp only [Option.toList_some, List.filterMap_cons, List.filterMap_nil, id]
        rw [List.append_nil]
        exact dps_same e23 _ _ da
      | some z =>
        refine iteT ?_
        refine ev z hys σ2 H3' (o3.mono e3') _ fun v H4 e4 d4 => ?_
        have e24 := e23.trans e4
        have hD4 := e24 _ _ hacc
        have la := dps_len da
        refine ⟨acc, hD4, ?_, same_mut (e.trans e24) hD, _, upd_same, ?_⟩
        · rw [la]
          have := List.length_filterMap_le id (ys.take i)
          rw [List.length_take] at this
          exact Nat.lt_of_lt_of_le (by omega) (by decide : 100000 ≤ sizeLine)
        · have e5 : (ys.take (i + 1)).filterMap id = (ys.take i).filterMap id ++ [z] := by
            rw [List.take_add_one, hy, hys, List.filterMap_append]
            rfl
          have p5 := pf (i + 1)
          rw [e5] at p5 ⊢
          exact dps_kt (kt_upd hD4) _ _ p5 (dps_append (dps_same e24 _ _ da) (.cons d4 .nil))
  · have e' : i = ds.length := by omega
    subst e'
    rw [← hl, List.take_length] at da
    exact .inl ⟨w.stops H' e, q Dl acc H' (fresh_back e1 hD) (e1.trans e) hacc da⟩

/-! ### sources -/
theorem ei_tup {ds : List PyData} (h : EvE K H0 F G te (.tuple ds)) (p : prs ds = true) : EvI K H0 F G (iTup K te) ds := fun σ H o R k => h σ H o _ fun v H1 e1 d1 => by
  obtain ⟨a, ws, rfl, hs, ha⟩ := dp_tup d1
  have ll := dps_len ha
  refine ⟨a, rfl, ⟨ws, hs⟩, k _ H1 [⟨a, false, ws, ds⟩] e1 (fun f m => ?_) ⟨fun i H2 hi _ hf => ?_, fun H2 _ hf => ?_, fun i H2 x H3 hi _ hf y => ?_⟩⟩
  · rw [List.mem_singleton.mp m]
    exact ⟨⟨hs, p, ha⟩, fun z => nomatch z⟩
  · have fe := hf _ (List.mem_singleton.mpr rfl)
    exact ⟨ws, ws[i], fe.1, List.getElem?_eq_getElem (by omega)⟩
  · have fe := hf _ (List.mem_singleton.mpr rfl)
    exact ⟨ws, fe.1, by omega⟩
  · have fe := hf _ (List.mem_singleton.mpr rfl)
    obtain ⟨rfl, hx⟩ := y
    exact ⟨Same.refl _, dps_get' fe.2.2 (hx ws fe.1)⟩
theorem ei_listR {ds : List PyData} (e : G[i]? = some (.r (.list ds))) : EvI K H0 F G (iList K (tVar i)) ds := fun σ H o R k => by
  obtain ⟨v, e1, h0, _⟩ := o.r e
  obtain ⟨a, ws, rfl, hs, ha⟩ := dp_lst h0
  have ll := dps_len ha
  refine ⟨_, e1, a, rfl, ⟨ws, o.same.seq hs⟩, k _ H [] (Same.refl H) (fun f m => by cases m) ⟨fun i H2 hi s2 hf => ⟨ws, ws[i], s2.seq hs, List.getElem?_eq_getElem (by omega)⟩, fun H2 s2 hf => ⟨ws, s2.seq hs, by omega⟩, fun i H2 x H3 hi s2 hf y => ?_⟩⟩
  obtain ⟨rfl, hx⟩ := y
  exact ⟨Same.refl _, dps_get' (dps_same s2 _ _ ha) (hx ws (s2.seq hs))⟩
theorem ei_new {ds : List PyData} (h : EvL K H0 F G te ds) (p : prs ds = true) : EvI K H0 F G (iList K te) ds := fun σ H o R k => h σ H o _ fun a ws H1 hp e1 hH ha => by
  have ll := dps_len ha
  refine ⟨a, rfl, ⟨ws, SqL.of hH⟩, k _ H1 [⟨a, true, ws, ds⟩] e1 (fun f m => ?_) ⟨fun i H2 hi _ hf => ?_, fun H2 _ hf => ?_, fun i H2 x H3 hi _ hf y => ?_⟩⟩
  · rw [List.mem_singleton.mp m]
    exact ⟨⟨hH, p, ha⟩, fun _ => hp⟩
  · have fe := hf _ (List.mem_singleton.mpr rfl)
    exact ⟨ws, ws[i], SqL.of fe.1, List.getElem?_eq_getElem (by omega)⟩
  · have fe := hf _ (List.mem_singleton.mpr rfl)
    exact ⟨ws, SqL.of fe.1, by omega⟩
  · have fe := hf _ (List.mem_singleton.mpr rfl)
    obtain ⟨rfl, hx⟩ := y
    exact ⟨Same.refl _, dps_get' fe.2.2 (hx ws (SqL.of fe.1))⟩
theorem ec_list {ds : List PyData} (h : EvE K H0 F G te (.list ds)) : EvC K H0 F G (iList K te) ds := fun σ H o R k => h σ H o _ fun v H1 e1 d1 => by
  obtain ⟨a, ws, rfl, hs, ha⟩ := dp_lst d1
  have ll := dps_len ha
  refine ⟨a, rfl, ⟨ws, hs⟩, k _ H1 e1 ⟨fun i H2 hi e2 => ⟨ws, ws[i], e2.seq hs, List.getElem?_eq_getElem (by omega)⟩, fun H2 e2 => ⟨ws, e2.seq hs, by omega⟩, fun i H2 x H3 hi e2 y => ?_⟩⟩
  obtain ⟨rfl, hx⟩ := y
  exact ⟨Same.refl _, dps_get' (dps_same e2 _ _ ha) (hx ws (e2.seq hs))⟩
theorem ec_tup {ds : List PyData} (h : EvE K H0 F G te (.tuple ds)) : EvC K H0 F G (iTup K te) ds := fun σ H o R k => h σ H o _ fun v H1 e1 d1 => by
  obtain ⟨a, ws, rfl, hs, ha⟩ := dp_tup d1
  have ll := dps_len ha
  refine ⟨a, rfl, ⟨ws, hs⟩, k _ H1 e1 ⟨fun i H2 hi e2 => ⟨ws, ws[i], same_t e2 hs, List.getElem?_eq_getElem (by omega)⟩, fun H2 e2 => ⟨ws, same_t e2 hs, by omega⟩, fun i H2 x H3 hi e2 y => ?_⟩⟩
  obtain ⟨rfl, hx⟩ := y
  exact ⟨Same.refl _, dps_get' (dps_same e2 _ _ ha) (hx ws (same_t e2 hs))⟩
/-- the intR lo, lo + c, .. -/
def intR (lo c : Int) (n : Nat) : List PyData := (List.range n).map fun i => .int (lo + (i : Nat) * c)
theorem intR_len (lo c : Int) (n : Nat) : (intR lo c n).length = n := by unfold intR; rw [List.length_map, List.length_range]
theorem intR_get {lo c : Int} {n i : Nat} (h : i < n) : (intR lo c n)[i]? = some (.int (lo + (i : Nat) * c)) := by
  unfold intR
  rw [List.getElem?_map, List.getElem?_range h]
  rfl
theorem intR_get' {lo c : Int} {n i : Nat} (h : (intR lo c n)[i]? = some d) : d = .int (lo + (i : Nat) * c) ∧ i < n := by
  have hl := (List.getElem?_eq_some_iff.mp h).1
  rw [intR_len] at hl
  rw [intR_get hl] at h
  exact ⟨(Option.some.inj h).symm, hl⟩
theorem ei_range1 {ta : TA} {n : Int} (h : EvA K H0 F G ta [.int n]) (hn : -1000000 ≤ n ∧ n ≤ 1000000) : EvI K H0 F G (iRng1 ta) (intR 0 1 n.toNat) := fun σ H o R k => h σ H o _ fun vs H1 e1 d1 => by
  obtain ⟨v, rfl, hv⟩ := dps1 d1
  cases hv
  refine ⟨n, rfl, by omega, by omega, k _ H1 [] e1 (fun f m => by cases m) ⟨fun i H2 hi _ _ => ?_, fun H2 _ _ => ?_, fun i H2 x H3 hi _ _ y => ?_⟩⟩
  · rw [intR_len] at hi
    exact hi
  · rw [intR_len]
    exact Nat.le_refl _
  · rw [intR_len] at hi
    obtain ⟨rfl, rfl⟩ := y
    refine ⟨Same.refl _, _, intR_get hi, ?_⟩
    rw [Int.mul_one]
    exact .int _
theorem ei_range2 {ta : TA} {a b : Int} (h : EvA K H0 F G ta [.int a, .int b]) (hn : -1000000 ≤ a ∧ a ≤ 1000000 ∧ -1000000 ≤ b ∧ b ≤ 1000000) : EvI K H0 F G (iRng2 ta) (intR a 1 (b - a).toNat) := fun σ H o R k => h σ H o _ fun vs H1 e1 d1 => by
  obtain ⟨v, w, rfl, hv, hw⟩ := dps2 d1
  cases hv; cases hw
  refine ⟨a, b, rfl, ⟨by omega, by omega, by omega, by omega⟩, k _ H1 [] e1 (fun f m => by cases m) ⟨fun i H2 hi _ _ => ?_, fun H2 _ _ => ?_, fun i H2 x H3 hi _ _ y => ?_⟩⟩
  · rw [intR_len] at hi
    exact hi
  · rw [intR_len]
    exact Nat.le_refl _
  · rw [intR_len] at hi
    obtain ⟨rfl, rfl⟩ := y
    refine ⟨Same.refl _, _, intR_get hi, ?_⟩
    rw [Int.mul_one]
    exact .int _
theorem ei_range3 {ta : TA} {a b c : Int} {n : Nat} (h : EvA K H0 F G ta [.int a, .int b, .int c]) (hn : RgC a b c n) : EvI K H0 F G (iRng3 ta) (intR a c n) := fun σ H o R k => h σ H o _ fun vs H1 e1 d1 => by
  cases d1 with
  | cons h1 t =>
    obtain ⟨v, w, rfl, h2, h3⟩ := dps2 t
    cases h1; cases h2; cases h3
    refine ⟨a, b, c, n, rfl, hn, k _ H1 [] e1 (fun f m => by cases m) ⟨fun i H2 hi _ _ => ?_, fun H2 _ _ => ?_, fun i H2 x H3 hi _ _ y => ?_⟩⟩
    · rw [intR_len] at hi
      exact hi
    · rw [intR_len]
      exact Nat.le_refl _
    · rw [intR_len] at hi
      obtain ⟨rfl, rfl⟩ := y
      exact ⟨Same.refl _, _, intR_get hi, .int _⟩
end

/-! ### defs by their names -/
/-- the def x stands at the module's top -/
def Dfn (K : Fg) (mg : Str → Option Value) (x : Str) (st : Stmt) : Prop := ∃ f fd, mg x = some (.ref f) ∧ Fun K x x st f fd
/-- the def x keeps the promise sp -/
def Cal (P : Program) (w : World) (K : Fg) (mg : Str → Option Value) (base : Heap) (x : Str) (ps : List Str) (k : Nat) (sp : Sp) : Prop :=
  ∃ f fd, mg x = some (.ref f) ∧ PySem.W.keepIn K (.ref f) = true ∧ Binds K fd ps [] ∧ FnOk P w K mg base CX0 k f fd ps sp
theorem pe_cal {X : Cx} {x : Str} {ps : List Str} {k : Nat} {sp : Sp} {p pos : Pos} {e : Expr} {es : List Expr} {t : TA} (c : Cal X.prog X.w X.K X.mg X.base x ps k sp) (hr : Room k X.A) (hg : Gl X x) (ha : PA X (e :: es) t) (hd : (x == ("__debug__" : Str)) = false := by decide)
    (he : starEach (e :: es) X.env = (false, eval e X.env) :: starEach es X.env := by rfl) (hpl : (backTo pos (starEach es X.env)).any (·.1) = false := by rfl) : PE X (.Call (.Name x p) (e :: es) [] pos) (tCall sp [] E0 t) := by
  obtain ⟨f, fd, hm, hk, hb, F⟩ := c
  exact pe_call F hr hg hm hk hb .nil pass0 ha (hdb := hd) (he := he) (hpl := hpl)
end Sw

namespace L2
open PySem PySem.Spec PyProof.Rows

/-! ### enumerate(tuple) -/
set_option maxHeartbeats 1000000 in
theorem meets_enumerate_newB1 {v : Value} {o : Obj} {H : Heap → Prop} (B : Begins v o H) :
    Meets (Builtin.«enumerate.__new__» ⟨[.type "enumerate", v], []⟩) (fun _ R s => H s.heap ∧
      R (.ok (.ret (.ref (s.heap.push o).objs.size))) { s with heap := (s.heap.push o).push { cls := .type "enumerate", data := .fields #[.none, .bool false, .ref s.heap.objs.size, rawInt 0, .none, .none] } }) :=
  .of_wp fun prog w A R s h => by
    obtain ⟨hp, g, d, tk, os⟩ := s; obtain ⟨h1, h⟩ := h
    have hsub := sub_enumerate
    have q1 : ∀ {A' : Around} {E : Value → Shared → Prop} {Q : Value → Shared → Prop}, Q (.ref hp.objs.size) ⟨hp.push o, g, d, tk, os⟩ → wpAny (model prog w) A' (pyIter v) Q E ⟨hp, g, d, tk, os⟩ :=
      fun q => B.iter prog w _ _ ⟨hp, g, d, tk, os⟩ _ h1 q
    wp_walk using q1
    refine wpAny_stack_any fun st => wpAny_pure ?_
    split
    · rename_i c _ _ _ _ _
      cases (c == Value.type "enumerate")
      · wp_walk using q1
        exact ⟨_, rfl, h⟩
      · wp_walk using q1
        exact ⟨_, rfl, h⟩
    · wp_walk using q1
      exact ⟨_, rfl, h⟩
section
variable {prog : Program} {w : World} {A : Around} {E : Value → Shared → Prop} {s : Shared}
theorem enum_begins1 {v : Value} {o : Obj} {H : Heap → Prop} {Q : Value → Shared → Prop} (B : Begins v o H) (h1 : H s.heap)
    (h : ∀ h', IsEnum h' (s.heap.objs.size + 1) s.heap.objs.size 0 .none → h'.get? s.heap.objs.size = some o → h'.objs.size = s.heap.objs.size + 2 →
      (∀ b o, s.heap.get? b = some o → h'.get? b = some o) → Q (.ref (s.heap.objs.size + 1)) { s with heap := h' }) :
    wpAny (model prog w) A (call (.type "enumerate") [v]) Q E s := by
  refine callType_new F.called_enumerate (by decide) (F.typeCall_enumerate_1 _) (F.newCall_enumerate_1 _) (fun obj => F.args_object_init_2 obj _) F.entry_enumerate_new
    (meets_enumerate_newB1 B) ⟨h1, ?_⟩
  have hz : (s.heap.push o).objs.size = s.heap.objs.size + 1 := Heap.size_push ..
  show _ ∧ _
  rw [hz]
  have he : IsEnum ((s.heap.push o).push { cls := .type "enumerate", data := .fields #[.none, .bool false, .ref s.heap.objs.size, rawInt 0, .none, .none] }) (s.heap.objs.size + 1) s.heap.objs.size 0 .none := by
    have := Heap.get?_push_size (s.heap.push o) (o := { cls := .type "enumerate", data := .fields #[.none, .bool false, .ref s.heap.objs.size, rawInt 0, .none, .none] }) rfl
    rw [hz] at this; exact this
  refine ⟨⟨_, he, rfl⟩, h _ he (Heap.get?_push_of_some _ (Heap.get?_push_size _ B.free)) (by rw [Heap.size_push, hz]) fun b o x => Heap.get?_push_of_some _ (Heap.get?_push_of_some _ x)⟩
end
/-- the tuple at a, each item in a new pair -/
def IteT (K : PySem.W.Frag) (a : Addr) : It :=
  ⟨fun i H => ∃ (xs : List V) (x : V), SqT K H a xs ∧ xs[i]? = some x, fun i H v H' => ∃ T x, v = .ref T ∧ H T = none ∧ H' = upd H T (.tup [.int (i : Nat), x]) ∧ ∀ xs, SqT K H a xs → xs[i]? = some x, fun i H => ∃ xs : List V, SqT K H a xs ∧ xs.length ≤ i⟩
theorem turn_enumT {P : Program} {w : World} {K : PySem.W.Frag} {elts : List Expr} {kk : Nat} {tpos : Pos} (a e it : Addr) :
    Turn P w K (.Tuple elts kk tpos) (IteT K a) [e, it] e (fun i h => (∃ old, IsEnum h e it ((i : Nat) : Int) old) ∧ h.IsTupleIter it a i ∧ e ≠ it ∧ a ≠ it ∧ a ≠ e) where
  mem := by simp
  obj := fun i h st b hb => by
    obtain ⟨⟨old, he⟩, ⟨o, ho, hc, hd⟩, _⟩ := st
    have e' : b = e ∨ b = it := by simpa using hb
    rcases e' with z | z
    · rw [z]; exact ⟨_, he, fun v q => nomatch q⟩
    · rw [z]; exact ⟨o, ho, fun v q => by rw [hd] at q; cases q⟩
  keep := fun i h h' st k => let ⟨⟨old, he⟩, hi, hne⟩ := st; ⟨⟨old, k e (by simp) _ he⟩, hi.at fun o q => k it (by simp) o q, hne⟩
  item := by
    intro X hP hw hK hc i pins s σ H E I hf st hg
    subst hP hw hK
    obtain ⟨⟨old, he⟩, hit, hne, hai, hae⟩ := st
    obtain ⟨xs, x, hq, hx⟩ := hg
    obtain ⟨its, rv, p, hz⟩ := I.tuple hq
    obtain ⟨u, hu, ru⟩ := rv.get hx
    have hel : e < s.heap.objs.size := Heap.lt_size he
    have hil : it < s.heap.objs.size := by obtain ⟨_, q, _⟩ := hit; exact Heap.lt_size q
    have hlt : i < its.toArray.size := by
      have := (List.getElem?_eq_some_iff.mp hu).1
      simpa using this
    refine wpAny_pyNext_enum_itemD (Draws.tuple (prog := X.prog) (w := X.w) (A := X.A.in1) (I.ok.hd hc) it a hai its.toArray) he ⟨hit, p⟩ hlt hne (by simp only [List.mem_cons, List.not_mem_nil, or_false, not_or]; exact ⟨hne, Ne.symm hae⟩) fun x' h' tk hP ho hst hT hsz hk => ?_
    obtain rfl : x' = u := by
      rw [List.getElem?_toArray, hu] at hP
      exact (Option.some.inj hP).symm
    obtain ⟨hit', _⟩ := hst
    refine ⟨_, rfl, wpAny_letOwnedTupleGo_enum (s := { s with heap := h', toks := tk + 1 }) ho fun h'' he' sb => ?_⟩
    have hT2 : h''.get? s.heap.objs.size = some { cls := .type "tuple", data := .seq #[.int i tk, x'] } := (sb.2 _ (Nat.ne_of_gt hel)).trans hT
    have new : ObjOk X.prog X.w (upd H s.heap.objs.size (.tup [.int (i : Nat), x])) h'' s.heap.objs.size (.tup [.int (i : Nat), x]) :=
      ⟨by show 2 ≤ sizeLine; decide, [.int i tk, x'], .cons ⟨_, rfl⟩ (.cons ru .nil), ⟨_, hT2, rfl, _, rfl⟩⟩
    have I1 : Inv X pins σ (upd H s.heap.objs.size (.tup [.int (i : Nat), x])) { s with heap := h'', toks := tk + 1 } :=
      I.turnedNew (ch := [e, it]) (fun b ob hb q => (sb.2 b (fun z => hb (by simp [z]))).trans (hk b ob (fun z => hb (by simp [z])) (fun z => hb (by simp [z])) q)) hf (Nat.le_refl _) new
    refine ⟨.ref s.heap.objs.size, _, I1, rfl, ⟨_, x, rfl, I.hok.fresh (Nat.le_refl _), rfl, fun ys hy => by rw [I.tuple_inj hy hq]; exact hx⟩, ⟨⟨x', ?_⟩, hit'.at fun o q => (sb.2 it (Ne.symm hne)).trans q, hne, hai, hae⟩, fun b hb => ?_⟩
    · have e1 : ((i + 1 : Nat) : Int) = (i : Int) + 1 := by omega
      rw [e1]; exact he'
    · have hb' : b < s.heap.objs.size := by
        have e' : b = e ∨ b = it := by simpa using hb
        rcases e' with z | z
        · rw [z]; exact hel
        · rw [z]; exact hil
      rw [upd_ne (Nat.ne_of_lt hb')]
      exact (hf b hb).1
  done := by
    intro X hP hw hK hc i pins s σ H E I hf st hg
    subst hP hw hK
    obtain ⟨⟨old, he⟩, hit, hne, hai, hae⟩ := st
    obtain ⟨xs, hq, hx⟩ := hg
    obtain ⟨its, rv, p, hz⟩ := I.tuple hq
    obtain ⟨f0, f1, f2, f3, f4, f5⟩ := hf it (by simp)
    have hl := rv.length
    have hT : s.TypeIs (.ref e) "enumerate" := ⟨_, he, rfl⟩
    unfold pyNext
    refine wpAny_bind (wpAny_attempt (wpAny_callSpecial?_slot (name := Str.ofString "__next__") hT F.slot_enumerate_next
      (wpAny_call_entry F.slot_enumerate_next hT F.entry_enumerate_next ?_ (F.args_enumerate_next_1 _))))
    show wpAny _ _ (field (.ref e) 2 >>= _) _ _ _
    refine wpAny_bind (wpAny_field he rfl (x := .ref it) rfl ?_)
    refine wpAny_bind (wpAny_nextOf_tuple_end (I.ok.hd hc) hit p (by simp; omega) fun h' x he' hx' => ?_)
    obtain ⟨o, ho, hc'⟩ := hx'
    refine wpAny_bind (wpAny_isInstance (T := "StopIteration") (b := true) ⟨o, ho, hc'⟩ isSubtype_stop ?_)
    exact wpAny_pure ⟨rfl, I.turned (t' := s.toks) (fun b o hb q => he' b o hb q) f0 f1 f3 f4 f5⟩
  self := fun A i s Q E st h => let ⟨⟨_, he⟩, _⟩ := st; wpAny_pyIter_enum he h
def iEnumT (K : PySem.W.Frag) (ta : TA) : TI := fun σ H R => ta σ H fun vs H1 => ∃ a xs, vs = [.ref a] ∧ SqT K H1 a xs ∧ R (IteT K a) H1
theorem pi_enumT {X : Cx} {e : Expr} {ta : TA} {p pos tpos : Pos} {elts : List Expr} {kk : Nat} (hg : Gl X "enumerate") (hm : X.mg "enumerate" = none) (ha : PA X [e] ta) (hs : starEach [e] X.env = [(false, eval e X.env)] := by rfl) :
    PI X (.Tuple elts kk tpos) (.Call (.Name "enumerate" p) [e] [] pos) (iEnumT X.K ta) := by
  refine ⟨fun pins s σ H R I h => ?_⟩
  refine Call_ (ld_blt I hg hm boot_enumerate (PyProof.Rows.callWith_type1 (thn (ha.run pos pins s σ H _ I h) fun us s1 ⟨vs, H1, I1, r1, q1⟩ => ?_) hs rfl))
  obtain ⟨a, xs, ex, hq, q⟩ := q1
  subst ex
  cases r1 with
  | cons r rr =>
    cases rr
    cases r
    obtain ⟨its, rv, p', hz⟩ := I1.tuple hq
    have hal : a < s1.heap.objs.size := by obtain ⟨_, e, _⟩ := p'; exact Heap.lt_size e
    refine enum_begins1 (begins_tuple a its.toArray) p' fun h' he hit hsz hk => wpAny_pyIter_enum he ?_
    have I2 : Inv X pins σ H1 { s1 with heap := h' } := I1.kept (t' := s1.toks) hk
    refine ⟨s1.heap.objs.size + 1, [s1.heap.objs.size + 1, s1.heap.objs.size], _, _, H1, rfl, I2, turn_enumT a (s1.heap.objs.size + 1) s1.heap.objs.size, ⟨⟨.none, he⟩, ⟨_, hit, rfl, rfl⟩, Nat.succ_ne_self _, Nat.ne_of_lt hal, Nat.ne_of_lt (Nat.lt_succ_of_lt hal)⟩, fun b hb => ?_, q⟩
    have e' : b = s1.heap.objs.size + 1 ∨ b = s1.heap.objs.size := by simpa using hb
    have hle : s1.heap.objs.size ≤ b := by
      rcases e' with z | z
      · rw [z]; exact Nat.le_add_right _ _
      · rw [z]; exact Nat.le_refl _
    exact I1.fpOk hle (I1.hok.fresh hle)

/-! ### t[::-1] -/
section
variable {prog : Program} {w : World} {A : Around} {E : Value → Shared → Prop} {s : Shared}
theorem fm_congr {α β : Type} {f g : α → Option β} : ∀ {l : List α}, (∀ x ∈ l, f x = g x) → l.filterMap f = l.filterMap g
  | [], _ => rfl
  | a :: r, h => by
    rw [List.filterMap_cons, List.filterMap_cons, h a (List.mem_cons_self ..), fm_congr fun x m => h x (List.mem_cons_of_mem _ m)]
theorem places_rev (n : Nat) : Builtin.Slice.slicePlaces ((n : Int) - 1) (-1) (-1) = n := by
  unfold Builtin.Slice.slicePlaces
  have h1 : ¬ ((-1 : Int) > 0) := by omega
  rw [if_neg h1, show (-(-1) : Int) = 1 by decide, Int.ediv_one]
  split <;> omega
theorem sliceApplied_rev {sl : Addr} {vs : Value} {n : Nat} {Q : Int × Int × Nat → Shared → Prop} (hs : s.heap.IsSliceOf sl .none .none vs) (ps : IsPart vs (some (-1))) (h : Q ((n : Int) - 1, -1, n) s) :
    wpAny (model prog w) A (Builtin.Slice.sliceApplied (.ref sl) (pure (n : Int))) Q E s := by
  obtain ⟨os, hos, hcs, hds⟩ := id hs
  unfold Builtin.Slice.sliceApplied Builtin.Slice.sliceFields
  refine wpAny_bind (wpAny_bind (wpAny_field hos hds (x := .none) rfl (wpAny_bind (wpAny_field hos hds (x := .none) rfl (wpAny_bind (wpAny_field hos hds (x := vs) rfl (wpAny_pure ?_)))))))
  refine wpAny_bind (HT.slicePart_ ps ?_)
  show wpAny _ _ (if ((-1 : Int) == 0) = true then _ else _) _ _ s
  rw [if_neg (by decide)]
  refine wpAny_bind (HT.slicePart_ .none (wpAny_bind (HT.slicePart_ .none (wpAny_bind (wpAny_pure ?_)))))
  show wpAny _ _ (pure ((n : Int) - 1, (-1 : Int), Builtin.Slice.slicePlaces ((n : Int) - 1) (-1) (-1))) _ _ s
  rw [places_rev]
  exact wpAny_pure h
theorem pick_rev (xs : Array Value) : ((List.range xs.size).filterMap fun (m : Nat) => xs[(((xs.size : Int) - 1) + (m : Int) * (-1)).toNat]?).toArray = xs.toList.reverse.toArray := by
  have e : (List.range xs.size).filterMap (fun (m : Nat) => xs[(((xs.size : Int) - 1) + (m : Int) * (-1)).toNat]?) = ((List.range xs.size).map fun k => xs.size - 1 - k).filterMap (xs[·]?) := by
    rw [List.filterMap_map]
    apply fm_congr
    intro m hm
    have := List.mem_range.mp hm
    have q : (((xs.size : Int) - 1) + (m : Int) * (-1)).toNat = xs.size - 1 - m := by omega
    show xs[(((xs.size : Int) - 1) + (m : Int) * (-1)).toNat]? = xs[xs.size - 1 - m]?
    rw [q]
  rw [e, PySem.W.krv_range, List.filterMap_reverse, PySem.W.krv_all]
theorem getItem_tuple_rev {t sl : Addr} {items : Array Value} {vs : Value} {Q : Value → Shared → Prop} (ht : IsTup s.heap t items) (hs : s.heap.IsSliceOf sl .none .none vs) (ps : IsPart vs (some (-1)))
    (h : Q (.ref s.heap.objs.size) { s with heap := s.heap.push { cls := .type "tuple", data := .seq items.toList.reverse.toArray } })
    (hsz : items.size ≤ sizeLine) : wpAny (model prog w) A (getItem (.ref t) (.ref sl)) Q E s := by
  have htake : sizeOk (.seq items.toList.reverse.toArray) := by
    show items.toList.reverse.toArray.size ≤ sizeLine
    rw [List.size_toArray, List.length_reverse, Array.length_toList]
    exact hsz
  obtain ⟨os, hos, hcs, hds⟩ := id hs
  have hTs : s.TypeIs (.ref sl) "slice" := ⟨os, hos, hcs⟩
  unfold getItem
  try with_reducible refine wpAny_holding ?_
  first | refine wpAny_bind (wpAny_pure ?_) | skip
  refine wpAny_bind (wpAny_sequenceKey ht.typeIs (by decide) ?_)
  refine wpAny_bind (wpAny_callSpecial?_slot (name := Str.ofString "__getitem__") ht.typeIs PyProof.Rows.slot_tuple_getitem
    (wpAny_call_entry PyProof.Rows.slot_tuple_getitem ht.typeIs entry_tuple_getitem ?_ (args_tuple_getitem _ _)))
  show wpAny _ _ (Builtin.Tuple.tupleItemsOf (.ref t) >>= _) _ _ s
  refine wpAny_bind (tupleItemsOf_ ht ?_)
  refine wpAny_bind (wpAny_typeOf hTs ?_)
  rw [if_pos (by decide)]
  refine wpAny_bind (sliceApplied_rev hs ps ?_)
  have hno : ¬ ((((items.size : Int) - 1) == 0 && (-1 : Int) == 1 && items.size == items.size) = true) := by
    intro q
    rw [Bool.and_eq_true, Bool.and_eq_true] at q
    exact absurd q.1.2 (by decide)
  show wpAny _ _ (if (((items.size : Int) - 1) == 0 && (-1 : Int) == 1 && items.size == items.size) = true then _ else _) _ _ s
  rw [if_neg hno, pick_rev]
  first
    | exact wpAny_bind (m := Builtin.Tuple.tupleExact _) (wpAny_newObj_type (wpAny_pure ⟨_, rfl, wpAny_pure h⟩) htake)
    | exact wpAny_bind (m := Builtin.Tuple.tupleExact _) (wpAny_newObj_type (wpAny_bind (wpAny_pure (wpAny_pure ⟨_, rfl, wpAny_pure h⟩))) htake)
    | exact wpAny_bind (wpAny_bind (m := Builtin.Tuple.tupleExact _) (wpAny_newObj_type (wpAny_pure (wpAny_pure ⟨_, rfl, wpAny_pure h⟩)) htake))
    | exact wpAny_bind (wpAny_bind (m := Builtin.Tuple.tupleExact _) (wpAny_newObj_type (wpAny_pure ⟨_, rfl, wpAny_pure h⟩) htake))
end
def tRevT (K : PySem.W.Frag) (te : TE) : TE := fun σ H Q => te σ H fun x H1 => ∃ a xs, x = .ref a ∧ SqT K H1 a xs ∧ ∀ p, H1 p = none → Q (.ref p) (upd H1 p (.tup xs.reverse))
theorem pe_revT {X : Cx} {e : Expr} {te : TE} {k : Nat} {p1 p2 p3 pos : Pos} (he : PE X e te) : PE X (.Subscript e (.Slice none none (some (.UnaryOp .USub (.Constant (.int 1) k p1) p2)) p3) pos) (tRevT X.K te) := by
  refine ⟨fun pins s σ H Q I h => ?_⟩
  refine Subscript_ (thn (he.run pins s σ H _ I h) fun v s1 ⟨x, H1, I1, r1, q1⟩ => ?_)
  obtain ⟨a, xs, ex, hx, q⟩ := q1
  subst ex
  cases r1
  have hst : PO X (some (.UnaryOp .USub (.Constant (.int 1) k p1) p2)) (tPart (tUn (rU fun i => .int (-i)) (tC (.int 1)))) := po_some (pe_un un_neg pe_int)
  refine wpAny_Slice (thn (po_none.run pins s1 σ H1 (fun o H2 => o = none ∧ H2 = H1) I1 ⟨rfl, rfl⟩) fun vl s2 ⟨l, H2, I2, pl, el, e2⟩ => ?_)
  subst el e2
  refine thn (po_none.run pins s2 σ H2 (fun o H3 => o = none ∧ H3 = H2) I2 ⟨rfl, rfl⟩) fun vu s3 ⟨u, H3, I3, pu, eu, e3⟩ => ?_
  subst eu e3
  refine thn (hst.run pins s3 σ H3 (fun o H4 => o = some (-1) ∧ H4 = H3) I3 ⟨1, rfl, -1, rfl, rfl, rfl⟩) fun vs s4 ⟨o, H4, I4, ps, eo, e4⟩ => ?_
  subst eo e4
  obtain rfl : vl = .none := by cases pl; rfl
  obtain rfl : vu = .none := by cases pu; rfl
  have I5 : Inv X pins σ H4 { s4 with heap := s4.heap.push { cls := .type "slice", data := .fields #[.none, .none, vs] } } := I4.kept (t' := s4.toks) fun b ob q => Heap.get?_push_of_some _ q
  obtain ⟨its, r, ht, hz⟩ := I5.tuple hx
  have hlen := r.length
  show wpAny (model X.prog X.w) X.A (subscriptTail e (.Slice none none (some (.UnaryOp .USub (.Constant (.int 1) k p1) p2)) p3) (.ref a) (.ref s4.heap.objs.size)) (EP X pins σ Q) X.xe { s4 with heap := s4.heap.push { cls := .type "slice", data := .fields #[.none, .none, vs] } }
  refine tail_any (ops := [.ref a, .ref s4.heap.objs.size]) ht.typeIs PyProof.Rows.slot_tuple_getitem.lookup ?_ (by with_unfolding_all rfl)
  refine getItem_tuple_rev ht (Heap.IsSliceOf.new _ .none .none vs) ps ?_ (by rw [List.size_toArray]; omega)
  refine ⟨.ref _, _, I5.laid (t' := s4.toks) (o := .tup xs.reverse) (fun b ob q => Heap.get?_push_of_some _ q) (Nat.le_refl _) ?_, rfl, q _ (I5.hok.fresh (Nat.le_refl _))⟩
  exact ⟨by rw [List.length_reverse]; exact hz, _, r.reverse, IsTup.new _ _⟩

/-! ### x in t, t a tuple of data of any depth -/
def rInTD (K : PySem.W.Frag) : R2 := fun x y H Q => ∃ d ds, Dp K H x d ∧ Dp K H y (.tuple ds) ∧ SeqAt.shaped d = true ∧ SeqAt.shaped (.tuple ds) = true ∧ Q (.bl (ds.any fun z => PyData.eqv z d)) H
theorem room_in_shapedT {A : Around} {d : PyData} {ds : List PyData} (h : SeqAt.shaped d = true) (hu : A.units + 65 < cLine) : A.units + 1 + min (PyData.depthAll ds) d.depth < cLine := room_in_shaped h hu
theorem op_inTD {X : Cx} (hu : X.A.units + 65 < cLine) : OpR X (compareOp .In) (rInTD X.K) := by
  intro pins s σ H x y v u Q I rx ry h
  obtain ⟨d, ds, hd, he, sd, se, q⟩ := h
  obtain ⟨as, r1⟩ := Dp.reads I d x v hd rx
  obtain ⟨bs, r2⟩ := Dp.reads I (.tuple ds) y u he ry
  exact SeqAt.in_tuple_reads r2 r1 (SeqAt.canLay_of_shaped se) (SeqAt.canLay_of_shaped sd) (room_in_shaped sd hu) ⟨.bl _, H, I, rfl, q⟩

/-! ### // where stock's own long division is not asked -/
def CDivX (i j : Int) : Prop := 0 < j ∧ Builtin.divisionGoesByPylong i j = false
theorem op_fdivX {X : Cx} : OpR X (binaryOp .FloorDiv) (rI CDivX fun i j => .int (i / j)) := opI fun i j _ _ _ _ _ hc q => by
  have h1 : (0 : Int) < j := hc.1
  exact floordiv_int (by omega) (by rw [Int.fdiv_eq_ediv_of_nonneg i (by omega)]; exact q) (.inl hc.2)

/-! ### o[i] op= e, o a list -/
def rGetL (K : PySem.W.Frag) : V → V → Hp → VK → Prop := fun x y H Q => ∃ p xs i v, x = .ref p ∧ y = .int i ∧ SqL K H p xs ∧ atI xs i = some v ∧ Q v H
/-! ### tuple * int, any int -/
theorem tuple_mul1 (l : Addr) (items : Array Value) (n : Nat) (dd : Option Addr) (sl : Array (Option Value)) (u : Tok) :
    Meets (Builtin.«tuple.__mul__» ⟨[.ref l, .int 1 u], []⟩) (fun _ R s => s.heap.get? l = some { cls := .type "tuple", dict := dd, data := .seq items n, slots := sl } ∧ R (.ok (.ret (.ref l))) s) :=
  .of_wp fun prog w A R s h => by
    obtain ⟨hp, g, d, tk, os⟩ := s
    obtain ⟨hl, h⟩ := h
    have f1 := AutoSeq1.idx_int
    have c1 : (items.isEmpty || (1 : Int) == 1) = true := by rw [show ((1 : Int) == 1) = true by decide, Bool.or_true]
    have hT : (⟨hp, g, d, tk, os⟩ : Shared).TypeIs (.ref l) "tuple" := ⟨_, hl, rfl⟩
    wp_walk using wpAny_loadPart' hl, wpAny_typeOf hT
    repeat (first
      | (refine wpAny_ite_true (by rw [c1] <;> rfl) ?_; wp_walk using wpAny_loadPart' hl, wpAny_typeOf hT)
      | (refine wpAny_ite_false (by decide) ?_; wp_walk using wpAny_loadPart' hl, wpAny_typeOf hT))
    exact ⟨_, rfl, h⟩
theorem tuple_mul0 (l : Addr) (items : Array Value) (n : Nat) (dd : Option Addr) (sl : Array (Option Value)) (u : Tok) (hne : items.isEmpty = false) :
    Meets (Builtin.«tuple.__mul__» ⟨[.ref l, .int 0 u], []⟩) (fun _ R s => s.heap.get? l = some { cls := .type "tuple", dict := dd, data := .seq items n, slots := sl } ∧
      R (.ok (.ret (.ref s.heap.objs.size))) { s with heap := s.heap.push { cls := .type "tuple", data := .seq #[] } }) :=
  .of_wp fun prog w A R s h => by
    obtain ⟨hp, g, d, tk, os⟩ := s
    obtain ⟨hl, h⟩ := h
    have f1 := AutoSeq1.idx_int
    have c1 : (items.isEmpty || (0 : Int) == 1) = false := by rw [hne] <;> rfl
    have c2 : (decide ((0 : Int) ≤ 0) || items.isEmpty) = true := by rw [hne] <;> rfl
    wp_walk using wpAny_loadPart' hl
    repeat (first
      | (refine wpAny_ite_false (by rw [c1]; exact Bool.false_ne_true) ?_; wp_walk using wpAny_loadPart' hl)
      | (refine wpAny_ite_true (by rw [c2] <;> rfl) ?_; wp_walk using wpAny_loadPart' hl)
      | (refine wpAny_ite_false (by decide) ?_; wp_walk using wpAny_loadPart' hl))
    exact ⟨_, rfl, h⟩
def rRepT2 (K : PySem.W.Frag) : R2 := fun x y H Q => ∃ l k xs, x = .ref l ∧ y = .int k ∧ SqT K H l xs ∧ xs ≠ [] ∧ 0 ≤ k ∧ k ≤ 1000 ∧ xs.length ≤ 1000 ∧ (k = 1 → Q (.ref l) H) ∧ (k ≠ 1 → ∀ p, H p = none → Q (.ref p) (upd H p (.tup (List.replicate k.toNat xs).flatten)))
theorem op_repT2 {X : Cx} : OpR X (binaryOp .Mult) (rRepT2 X.K) := by
  intro pins s σ H x y v u Q I rx ry h
  obtain ⟨l, k, xs, rfl, rfl, hT, hne, h0, h2, hz, q1, q2⟩ := h
  by_cases hk : 2 ≤ k
  · exact op_repT pins s σ H _ _ v u Q I rx ry ⟨l, k, xs, rfl, rfl, hT, hne, hk, h2, hz, q2 (by omega)⟩
  · cases rx
    obtain ⟨t, rfl⟩ := ry
    obtain ⟨its, r, ⟨⟨cls, dd, data, sl⟩, ho, hc, n, hd⟩, hs⟩ := I.tuple hT
    simp only at hc hd
    subst hc hd
    have hle : its.length = xs.length := r.length.symm
    have hn : its ≠ [] := fun e => hne (by
      rw [e] at hle
      exact List.eq_nil_of_length_eq_zero hle.symm)
    have hi : its.toArray.isEmpty = false := by
      cases its with
      | nil => exact absurd rfl hn
      | cons a b => rfl
    by_cases h1 : k = 1
    · subst h1
      exact wpAny_binaryOp_repeat_ref (T := "tuple") (U := "int") (by decide) ⟨_, ho, rfl⟩ (fun s' => typeIs_int s' 1 t) noFill_tuple_mul F.fills_int_mul F.slot_int_rmul repeat_tuple F.slot_int_index.lookup
        (call_meets F.slot_int_rmul (typeIs_int s 1 t) F.entry_int_rmul (F.args_int_rmul_2 _ _) (int_rmul_tuple 1 t l its.toArray n dd sl)
          ⟨ho, rfl, ⟨_, ho, rfl⟩, call_meets F.slot_tuple_mul ⟨_, ho, rfl⟩ F.entry_tuple_mul (F.args_tuple_mul_2 _ _) (tuple_mul1 l its.toArray n dd sl t) ⟨ho, ⟨.ref l, H, I, rfl, q1 rfl⟩⟩⟩)
    · have hk0 : k = 0 := by omega
      subst hk0
      refine wpAny_binaryOp_repeat_ref (T := "tuple") (U := "int") (by decide) ⟨_, ho, rfl⟩ (fun s' => typeIs_int s' 0 t) noFill_tuple_mul F.fills_int_mul F.slot_int_rmul repeat_tuple F.slot_int_index.lookup
        (call_meets F.slot_int_rmul (typeIs_int s 0 t) F.entry_int_rmul (F.args_int_rmul_2 _ _) (int_rmul_tuple 0 t l its.toArray n dd sl)
          ⟨ho, rfl, ⟨_, ho, rfl⟩, call_meets F.slot_tuple_mul ⟨_, ho, rfl⟩ F.entry_tuple_mul (F.args_tuple_mul_2 _ _) (tuple_mul0 l its.toArray n dd sl t hi) ⟨ho, ?_⟩⟩)
      refine ⟨.ref s.heap.objs.size, _, I.laid (t' := s.toks) (o := .tup []) (fun b ob q => Heap.get?_push_of_some _ q) (Nat.le_refl _) ⟨Nat.zero_le _, [], .nil, IsTup.new _ _⟩, rfl, q2 h1 _ (I.hok.fresh (Nat.le_refl _))⟩

/-! ### o[i] op= e, o a list -/
theorem pget_list {X : Cx} : PGet X (rGetL X.K) := by
  intro pins s σ H x y v u Q I rx ry h
  obtain ⟨p, xs, i, z, rfl, rfl, hq, he, q⟩ := h
  cases rx
  obtain ⟨t, rfl⟩ := ry
  obtain ⟨its, r, pl, hz⟩ := I.list hq
  obtain ⟨j, h1, h2, h3, h4, h5⟩ := atI_get he
  obtain ⟨w, ew, rw'⟩ := r.get h2
  have hl := r.length
  have hn := line63
  have fin : EP X pins σ Q w s := ⟨z, H, I, rw', q⟩
  by_cases h0 : 0 ≤ i
  · have hj : i.toNat = j := by
      rw [seqIndex_of h0 h5] at h1
      exact Option.some.inj h1
    exact wpAny_getItem_list pl.isList h0 (by omega) (by rw [hj]; simpa using ew) fin
  · have hj : (i + (its.toArray.size : Int)).toNat = j := by
      rw [seqIndex_neg (by omega) h4] at h1
      rw [List.size_toArray, ← hl]
      exact Option.some.inj h1
    exact wpAny_getItem_list_neg pl.isList (by omega) (by rw [List.size_toArray] <;> omega) (by omega) (by rw [hj]; simpa using ew) fin
end L2

namespace Sw
open PySem PySem.Spec L2

/-! ### operators of any kind -/
def rAddI : R2 := rI0 fun i j => .int (i + j)
def rAddAny (K : Fg) : R2 := fun x y H Q => rAddI x y H Q ∨ (rCat x y H Q ∨ rCatA K x y H Q)
theorem op_addAny {X : Cx} : OpR X (binaryOp .Add) (rAddAny X.K) := OpR.or op_add (OpR.or op_cat op_catA)
def rMulI : R2 := rI CMulW fun i j => .int (i * j)
def rMulAny (K : Fg) : R2 := fun x y H Q => rMulI x y H Q ∨ (rRep x y H Q ∨ rRepT2 K x y H Q)
theorem op_mulAny {X : Cx} : OpR X (binaryOp .Mult) (rMulAny X.K) := OpR.or op_mulW (OpR.or op_rep op_repT2)
def rSubI : R2 := rI0 fun i j => .int (i - j)
theorem op_subS {X : Cx} : OpR X (binaryOp .Sub) rSubI := op_sub
def rDivI : R2 := rI CDivX fun i j => .int (i / j)
theorem op_divS {X : Cx} : OpR X (binaryOp .FloorDiv) rDivI := op_fdivX
def rModI : R2 := rI (fun _ j => 0 < j) fun i j => .int (i % j)
theorem op_modS {X : Cx} : OpR X (binaryOp .Mod) rModI := op_mod
def rPowI : R2 := rI CPow fun i j => .int (i ^ j.toNat)
theorem op_powS {X : Cx} : OpR X (binaryOp .Pow) rPowI := op_pow
def rLtI : R2 := rI0 fun i j => .bl (decide (i < j))
theorem op_ltS {X : Cx} : OpR X (compareOp .Lt) rLtI := op_lt
def rLeI : R2 := rI0 fun i j => .bl (decide (i ≤ j))
theorem op_leS {X : Cx} : OpR X (compareOp .LtE) rLeI := op_le
def rGtI : R2 := rI0 fun i j => .bl (decide (j < i))
theorem op_gtS {X : Cx} : OpR X (compareOp .Gt) rGtI := op_gt
def rGeI : R2 := rI0 fun i j => .bl (decide (j ≤ i))
theorem op_geS {X : Cx} : OpR X (compareOp .GtE) rGeI := op_ge
def rNegI : V → Hp → VK → Prop := rU fun i => .int (-i)
theorem un_negS {X : Cx} : UnR X (unaryOp .USub) rNegI := un_neg

/-! ### globals that hold data -/
def Kon (K : Fg) (mg : Str → Option Value) (x : Str) (d : PyData) : Prop := ∃ v u, mg x = some u ∧ RelV v u ∧ ∀ H, Dp K H v d
def tKon (K : Fg) (d : PyData) : TE := fun _ H Q => ∀ v, (∀ H, Dp K H v d) → Q v H
theorem pe_kon {X : Cx} {x : Str} {pos : Pos} {d : PyData} (hg : Gl X x) (c : Kon X.K X.mg x d) (hd : (x == ("__debug__" : Str)) = false := by decide) : PE X (.Name x pos) (tKon X.K d) := by
  obtain ⟨v, u, hm, r, h⟩ := c
  refine ⟨fun pins s σ H Q I q => ?_⟩
  exact (pe_glob (v := v) hg hm r hd).run pins s σ H Q I (q v h)

section
variable {K : Fg} {H0 : Hp} {F : List FE} {G G' : List B} {ta tb tc te ti : TE} {t u : TS} {x y z d : PyData} {i j k : Nat}
theorem ev_kon : EvE K H0 F G (tKon K d) d := fun σ H o Q q v h => q v H (Same.refl H) (h H)
theorem ev_add {a b : Int} (ha : EvE K H0 F G ta (.int a)) (hb : EvE K H0 F G tb (.int b)) : EvE K H0 F G (tOp (rAddAny K) ta tb) (.int (a + b)) := ev_op ha hb (rd_or1 (r := rAddI) (rd_I0 (g := fun i j => i + j)))
theorem ev_catT {xs ys : List PyData} (ha : EvE K H0 F G ta (.tuple xs)) (hb : EvE K H0 F G tb (.tuple ys)) (hl : xs.length + ys.length ≤ 100000) : EvE K H0 F G (tOp (rAddAny K) ta tb) (.tuple (xs ++ ys)) := ev_op ha hb (rd_or2 (rd_or2 (rd_catT hl)))
theorem el_imp {r r' : R2} {xs : List PyData} (h : EvL K H0 F G (tOp r ta tb) xs) (hr : ∀ x y H Q, r x y H Q → r' x y H Q)
    (mono : ∀ σ H (P P' : V → V → Hp → Prop), (∀ x y H, P x y H → P' x y H) → ta σ H (fun x H1 => tb σ H1 fun y H2 => P x y H2) → ta σ H (fun x H1 => tb σ H1 fun y H2 => P' x y H2)) : EvL K H0 F G (tOp r' ta tb) xs := fun σ H o Q q =>
  mono σ H _ _ (fun x y H p => hr x y H Q p) (h σ H o Q q)
theorem el_cat' {xs ys : List PyData} (ha : EvL K H0 F G ta xs) (hb : EvL K H0 F G tb ys) (hl : xs.length + ys.length ≤ 100000) : EvL K H0 F G (tOp (rAddAny K) ta tb) (xs ++ ys) := fun σ H o Q q =>
  ha σ H o _ fun p vs H1 hp e1 hH d1 => hb σ H1 (o.mono e1) _ fun p2 ws H2 hp2 e2 hH2 d2 => by
    have l1 := dps_len d1
    have l2 := dps_len d2
    refine .inr (.inl ⟨p, p2, vs, ws, rfl, rfl, e2 _ _ hH, hH2, Nat.le_trans (by omega) (by decide : 100000 ≤ sizeLine), fun p' hp' => ?_⟩)
    have e12 := e1.trans e2
    exact q p' _ _ (fresh_back e12 hp') (e12.trans (same_new hp')) upd_same (dps_same (same_new hp') _ _ (dps_append (dps_same e2 _ _ d1) d2))
theorem ev_sub {a b : Int} (ha : EvE K H0 F G ta (.int a)) (hb : EvE K H0 F G tb (.int b)) : EvE K H0 F G (tOp rSubI ta tb) (.int (a - b)) := ev_op ha hb (rd_I0 (g := fun i j => i - j))
theorem ev_mul {a b : Int} (ha : EvE K H0 F G ta (.int a)) (hb : EvE K H0 F G tb (.int b)) (hc : CMulW a b) : EvE K H0 F G (tOp (rMulAny K) ta tb) (.int (a * b)) := ev_op ha hb (rd_or1 (r := rMulI) (rd_I (g := fun i j => i * j) hc))
theorem el_rep' {xs : List PyData} {n : Int} (ha : EvL K H0 F G ta xs) (hb : EvE K H0 F G tb (.int n)) (h1 : -1000000 ≤ n ∧ n ≤ 100000) (h2 : xs.length ≤ 1) : EvL K H0 F G (tOp (rMulAny K) ta tb) (List.replicate n.toNat xs).flatten := fun σ H o Q q =>
  ha σ H o _ fun p vs H1 hp e1 hH d1 => hb σ H1 (o.mono e1) _ fun w H2 e2 d2 => by
    cases d2
    have l1 := dps_len d1
    refine .inr (.inl ⟨p, n, vs, rfl, rfl, e2 _ _ hH, by omega, by omega, ?_, fun p' hp' => q p' _ _ (fresh_back (e1.trans e2) hp') ((e1.trans e2).trans (same_new hp')) upd_same (dps_same (e2.trans (same_new hp')) _ _ (dps_rep d1 _))⟩)
    refine Nat.le_trans ?_ (by decide : 100000 ≤ sizeLine)
    have : vs.length * n.toNat ≤ 1 * 100000 := Nat.mul_le_mul (by omega) (by omega)
    omega
theorem rep_one (x : PyData) : ∀ n : Nat, (List.replicate n [x]).flatten = List.replicate n x
  | 0 => rfl
  | n + 1 => by rw [List.replicate_succ, List.flatten_cons, rep_one x n, List.replicate_succ]; rfl
/-- [x] * n -/
theorem el_rep1 {n : Int} (ha : EvE K H0 F G ta x) (hb : EvE K H0 F G tb (.int n)) (h1 : -1000000 ≤ n ∧ n ≤ 100000) : EvL K H0 F G (tOp (rMulAny K) (tLst (tCons ta tNil)) tb) (List.replicate n.toNat x) :=
  (el_rep' (el_lst (ea_cons ha ea_nil)) hb h1 (Nat.le_refl _)).to (rep_one x _)
/-- (x,) * n -/
theorem ev_repT {n : Int} (ha : EvE K H0 F G ta (.tuple [x])) (hb : EvE K H0 F G tb (.int n)) (h1 : 0 ≤ n ∧ n ≤ 1000) : EvE K H0 F G (tOp (rMulAny K) ta tb) (.tuple (List.replicate n.toNat x)) := ev_op ha hb (rd_or2 (rd_or2 fun v w H h1' h2 Q q => by
  obtain ⟨a, vs, rfl, hs, ha⟩ := dp_tup h1'
  cases h2
  have l := dps_len ha
  refine ⟨a, n, vs, rfl, rfl, hs, (fun e => by rw [e] at l; cases l), h1.1, h1.2, by rw [l]; exact Nat.le_of_ble_eq_true rfl, fun e => ?_, fun _ p hp => ?_⟩
  · subst e
    exact q _ H (Same.refl H) h1'
  · have := dps_rep ha n.toNat
    rw [rep_one] at this
    exact q _ _ (same_new hp) (dp_new hp this)))
theorem ev_div {a b : Int} (ha : EvE K H0 F G ta (.int a)) (hb : EvE K H0 F G tb (.int b)) (hc : CDivX a b) : EvE K H0 F G (tOp rDivI ta tb) (.int (a / b)) := ev_op ha hb (rd_I (g := fun i j => i / j) hc)
theorem ev_mod {a b : Int} (ha : EvE K H0 F G ta (.int a)) (hb : EvE K H0 F G tb (.int b)) (hc : 0 < b) : EvE K H0 F G (tOp rModI ta tb) (.int (a % b)) := ev_op ha hb (rd_I (C := fun _ j => 0 < j) (g := fun i j => i % j) hc)
theorem ev_pow {a b : Int} (ha : EvE K H0 F G ta (.int a)) (hb : EvE K H0 F G tb (.int b)) (hc : CPow a b) : EvE K H0 F G (tOp rPowI ta tb) (.int (a ^ b.toNat)) := ev_op ha hb (rd_I (g := fun i j => i ^ j.toNat) hc)
theorem ev_lt {a b : Int} (ha : EvE K H0 F G ta (.int a)) (hb : EvE K H0 F G tb (.int b)) : EvE K H0 F G (tOp rLtI ta tb) (.bool (decide (a < b))) := ev_op ha hb (rd_B0 (g := fun i j => decide (i < j)))
theorem ev_le {a b : Int} (ha : EvE K H0 F G ta (.int a)) (hb : EvE K H0 F G tb (.int b)) : EvE K H0 F G (tOp rLeI ta tb) (.bool (decide (a ≤ b))) := ev_op ha hb (rd_B0 (g := fun i j => decide (i ≤ j)))
theorem ev_gt {a b : Int} (ha : EvE K H0 F G ta (.int a)) (hb : EvE K H0 F G tb (.int b)) : EvE K H0 F G (tOp rGtI ta tb) (.bool (decide (b < a))) := ev_op ha hb (rd_B0 (g := fun i j => decide (j < i)))
theorem ev_ge {a b : Int} (ha : EvE K H0 F G ta (.int a)) (hb : EvE K H0 F G tb (.int b)) : EvE K H0 F G (tOp rGeI ta tb) (.bool (decide (b ≤ a))) := ev_op ha hb (rd_B0 (g := fun i j => decide (j ≤ i)))
theorem ev_ng {a : Int} (ha : EvE K H0 F G ta (.int a)) : EvE K H0 F G (tUn rNegI ta) (.int (-a)) := ev_un ha fun _ _ q => ⟨a, rfl, q⟩
theorem ev_eq {b : Bool} (ha : EvE K H0 F G ta x) (hb : EvE K H0 F G tb y) (hx : SeqAt.shaped x = true) (hy : SeqAt.shaped y = true) (e : PyData.eqv x y = b) : EvE K H0 F G (tOp (rEqD K) ta tb) (.bool b) := ev_op ha hb (rd_eq hx hy e)
theorem ev_ne {b : Bool} (ha : EvE K H0 F G ta x) (hb : EvE K H0 F G tb y) (hx : SeqAt.shaped x = true) (hy : SeqAt.shaped y = true) (e : (!PyData.eqv x y) = b) : EvE K H0 F G (tOp (rNeD K) ta tb) (.bool b) := ev_op ha hb (rd_ne hx hy e)
theorem ev_ixT {ds : List PyData} {i : Int} (ha : EvE K H0 F G ta (.tuple ds)) (hb : EvE K H0 F G tb (.int i)) (e : atI ds i = some d) : EvE K H0 F G (tOp (rIx K) ta tb) d := ev_op ha hb (rd_ixT e)
theorem ev_ixL {ds : List PyData} {i : Int} (ha : EvE K H0 F G ta (.list ds)) (hb : EvE K H0 F G tb (.int i)) (e : atI ds i = some d) : EvE K H0 F G (tOp (rIx K) ta tb) d := ev_op ha hb (rd_ixL e)
theorem ev_isN (ha : EvE K H0 F G ta x) : EvE K H0 F G (tOp rIsN ta (tC .non)) (.bool (isNone x)) := ev_op ha ev_non rd_isN
theorem ev_notN (ha : EvE K H0 F G ta x) : EvE K H0 F G (tOp rNotN ta (tC .non)) (.bool (!isNone x)) := ev_op ha ev_non rd_notN
theorem ev_isB {a b : Bool} (ha : EvE K H0 F G ta (.bool a)) : EvE K H0 F G (tOp rIsB ta (tC (.bl b))) (.bool (a == b)) := ev_op ha ev_bl rd_isB
theorem ev_notB {a b : Bool} (ha : EvE K H0 F G ta (.bool a)) : EvE K H0 F G (tOp rNotB ta (tC (.bl b))) (.bool (!(a == b))) := ev_op ha ev_bl rd_notB
theorem ev_inT {ds : List PyData} {b : Bool} (ha : EvE K H0 F G ta x) (hb : EvE K H0 F G tb (.tuple ds)) (hx : SeqAt.shaped x = true) (hy : SeqAt.shaped (.tuple ds) = true) (e : (ds.any fun z => PyData.eqv z x) = b) : EvE K H0 F G (tOp (rInTD K) ta tb) (.bool b) :=
  ev_op ha hb fun v w H h1 h2 Q q => ⟨x, ds, h1, h2, hx, hy, by rw [e]; exact q _ H (Same.refl H) (.bl _)⟩
theorem ev_revT {xs : List PyData} (h : EvE K H0 F G te (.tuple xs)) : EvE K H0 F G (tRevT K te) (.tuple xs.reverse) := fun σ H o Q q => h σ H o _ fun v H1 e1 d1 => by
  obtain ⟨a, vs, rfl, hs, ha⟩ := dp_tup d1
  exact ⟨a, vs, rfl, hs, fun p hp => q _ _ (e1.trans (same_new hp)) (dp_new hp (dps_rev ha))⟩
theorem el_revL {xs : List PyData} (h : EvE K H0 F G te (.list xs)) : EvL K H0 F G (tRevL K te) xs.reverse := fun σ H o Q q => h σ H o _ fun v H1 e1 d1 => by
  obtain ⟨a, vs, rfl, hs, ha⟩ := dp_lst d1
  exact ⟨a, vs, rfl, hs, fun p hp => q p _ _ (fresh_back e1 hp) (e1.trans (same_new hp)) upd_same (dps_same (same_new hp) _ _ (dps_rev ha))⟩

/-! ### enumerate, zip -/
def enumD (ds : List PyData) : List PyData := ds.mapIdx fun i d => .tuple [.int (i : Nat), d]
theorem enumD_len (ds : List PyData) : (enumD ds).length = ds.length := by unfold enumD; rw [List.length_mapIdx]
theorem enumD_get {ds : List PyData} {i : Nat} (h : ds[i]? = some d) : (enumD ds)[i]? = some (.tuple [.int (i : Nat), d]) := by
  unfold enumD
  rw [List.getElem?_mapIdx, h]
  rfl
theorem enumD_get' {ds : List PyData} {i : Nat} (h : (enumD ds)[i]? = some d) : ∃ x, ds[i]? = some x ∧ d = .tuple [.int (i : Nat), x] := by
  unfold enumD at h
  rw [List.getElem?_mapIdx] at h
  cases e : ds[i]? with
  | none => rw [e] at h; cases h
  | some x =>
    rw [e] at h
    exact ⟨x, rfl, (Option.some.inj h).symm⟩
theorem ei_enumT {ta : TA} {ds : List PyData} (h : EvA K H0 F G ta [.tuple ds]) (p : prs ds = true) : EvI K H0 F G (iEnumT K ta) (enumD ds) := fun σ H o R k => h σ H o _ fun vs H1 e1 d1 => by
  obtain ⟨v, rfl, hv⟩ := dps1 d1
  obtain ⟨a, ws, rfl, hs, ha⟩ := dp_tup hv
  have ll := dps_len ha
  refine ⟨a, ws, rfl, hs, k _ H1 [⟨a, false, ws, ds⟩] e1 (fun f m => ?_) ⟨fun i H2 hi _ hf => ?_, fun H2 _ hf => ?_, fun i H2 x H3 hi _ hf y => ?_⟩⟩
  · rw [List.mem_singleton.mp m]
    exact ⟨⟨hs, p, ha⟩, fun z => nomatch z⟩
  · rw [enumD_len] at hi
    have fe := hf _ (List.mem_singleton.mpr rfl)
    exact ⟨ws, ws[i], fe.1, List.getElem?_eq_getElem (by omega)⟩
  · rw [enumD_len]
    have fe := hf _ (List.mem_singleton.mpr rfl)
    exact ⟨ws, fe.1, by omega⟩
  · rw [enumD_len] at hi
    have fe := hf _ (List.mem_singleton.mpr rfl)
    obtain ⟨T, x', rfl, hT, rfl, hx⟩ := y
    obtain ⟨d, hd, hx⟩ := dps_get' fe.2.2 (hx ws fe.1)
    exact ⟨same_new hT, _, enumD_get hd, dp_new hT (.cons (.int _) (.cons hx .nil))⟩
theorem ec_enumT {ta : TA} {ds : List PyData} (h : EvA K H0 F G ta [.tuple ds]) : EvC K H0 F G (iEnumT K ta) (enumD ds) := fun σ H o R k => h σ H o _ fun vs H1 e1 d1 => by
  obtain ⟨v, rfl, hv⟩ := dps1 d1
  obtain ⟨a, ws, rfl, hs, ha⟩ := dp_tup hv
  have ll := dps_len ha
  refine ⟨a, ws, rfl, hs, k _ H1 e1 ⟨fun i H2 hi e2 => ?_, fun H2 e2 => ?_, fun i H2 x H3 hi e2 y => ?_⟩⟩
  · rw [enumD_len] at hi
    exact ⟨ws, ws[i], same_t e2 hs, List.getElem?_eq_getElem (by omega)⟩
  · rw [enumD_len]
    exact ⟨ws, same_t e2 hs, by omega⟩
  · rw [enumD_len] at hi
    obtain ⟨T, x', rfl, hT, rfl, hx⟩ := y
    obtain ⟨d, hd, hx⟩ := dps_get' (dps_same e2 _ _ ha) (hx ws (same_t e2 hs))
    exact ⟨same_new hT, _, enumD_get hd, dp_new hT (.cons (.int _) (.cons hx .nil))⟩
def zipD (xs ys : List PyData) : List PyData := (xs.zip ys).map fun p => .tuple [p.1, p.2]
theorem zipD_len (xs ys : List PyData) : (zipD xs ys).length = min xs.length ys.length := by unfold zipD; rw [List.length_map, List.length_zip]
theorem zipD_get {xs ys : List PyData} {i : Nat} {a b : PyData} (h : xs[i]? = some a) (h' : ys[i]? = some b) : (zipD xs ys)[i]? = some (.tuple [a, b]) := by
  unfold zipD
  rw [List.getElem?_map, (List.getElem?_zip_eq_some (z := (a, b))).mpr ⟨h, h'⟩]
  rfl
theorem ec_zip {ta : TA} {xs ys : List PyData} (h : EvA K H0 F G ta [.list xs, .list ys]) : EvC K H0 F G (iZip K ta) (zipD xs ys) := fun σ H o R k => h σ H o _ fun vs H1 e1 d1 => by
  obtain ⟨v, w, rfl, hv, hw⟩ := dps2 d1
  obtain ⟨a, us, rfl, hs, ha⟩ := dp_lst hv
  obtain ⟨b, ws, rfl, hs', hb⟩ := dp_lst hw
  have l1 := dps_len ha
  have l2 := dps_len hb
  refine ⟨a, b, us, ws, rfl, hs, hs', k _ H1 e1 ⟨fun i H2 hi e2 => ?_, fun H2 e2 => ?_, fun i H2 x H3 hi e2 y => ?_⟩⟩
  · rw [zipD_len] at hi
    exact ⟨us, ws, us[i]'(by omega), ws[i]'(by omega), e2.seq hs, e2.seq hs', List.getElem?_eq_getElem (by omega), List.getElem?_eq_getElem (by omega)⟩
  · rw [zipD_len]
    exact ⟨us, ws, e2.seq hs, e2.seq hs', by omega⟩
  · rw [zipD_len] at hi
    obtain ⟨T, x', y', rfl, hT, rfl, hx, hy⟩ := y
    obtain ⟨d, hd, hx⟩ := dps_get' (dps_same e2 _ _ ha) (hx us (e2.seq hs))
    obtain ⟨d', hd', hy⟩ := dps_get' (dps_same e2 _ _ hb) (hy ws (e2.seq hs'))
    exact ⟨same_new hT, _, zipD_get hd hd', dp_new hT (.cons hx (.cons hy .nil))⟩
theorem rc_isi {t : String} {b : Bool} {H : Hp} : True := trivial

/-! ### isinstance -/
def tyD : PyData → String
  | .none => "NoneType"
  | .bool _ => "bool"
  | .int _ => "int"
  | .str _ => "str"
  | .list _ => "list"
  | .tuple _ => "tuple"
  | .dict _ => "dict"
end
end Sw

namespace L2
open PySem PySem.Spec PyProof.Rows
/-! ### // of any sizes, where the heap's start-up is as it was -/
theorem op_fdivP {X : Cx} {env : Env} {l : List Env} (hN : X.base.NoSeer) (ht : X.prog.given.tree = none) (hst : X.stack = env :: l) (hg : env.scope.isGenerator = false) (hc : env.scope.isCoroutine = false) (hb : env.builtins = builtinsNs) (hm : env.globals = mainGlobals)
    (hd : X.A.depth + Builtin.pylongFrames < recursionLimit) : OpR X (binaryOp .FloorDiv) (rI (fun _ j => j ≠ 0) fun i j => .int (i.fdiv j)) := by
  intro pins s σ H x y v u Q I rx ry h
  obtain ⟨i, j, rfl, rfl, hc', q⟩ := h
  obtain ⟨t, rfl⟩ := rx
  obtain ⟨t', rfl⟩ := ry
  have h1 : j ≠ 0 := hc'
  have hf : X.A.frames = some (env :: l) := by rw [I.ok.frames, hst]
  refine floordiv_int (by omega) ?_ (.inr (PylongRoom.of I.nolimit hd (SeerAt.of (hN.keeps I.bk) ht hf hg hc hb hm)))
  exact ⟨.int (i.fdiv j), H, I.tok _, ⟨_, rfl⟩, q⟩
end L2
namespace Sw
open PySem PySem.Spec L2
open PyProof.Rows (envOfC)
def rDivP : R2 := rI (fun _ j => j ≠ 0) fun i j => .int (i.fdiv j)
theorem op_divP {X : Cx} {env : Env} {l : List Env} (hN : X.base.NoSeer) (ht : X.prog.given.tree = none) (hd : X.A.depth + Builtin.pylongFrames < recursionLimit) (hst : X.stack = env :: l := by rfl) (hg : env.scope.isGenerator = false := by rfl) (hc : env.scope.isCoroutine = false := by rfl) (hb : env.builtins = builtinsNs := by rfl) (hm : env.globals = mainGlobals := by rfl) : OpR X (binaryOp .FloorDiv) rDivP := op_fdivP hN ht hst hg hc hb hm hd
theorem room_div {k : Nat} {A : Around} (h : Room (k + 40) A) : A.depth + Builtin.pylongFrames < recursionLimit := by
  have := h.dp
  have e : Builtin.pylongFrames = 100 := rfl
  omega
theorem room_eq {k : Nat} {A : Around} (h : Room (k + 40) A) : A.units + 64 < cLine := by
  have := h.un
  omega
theorem room_in {k : Nat} {A : Around} (h : Room (k + 40) A) : A.units + 65 < cLine := by
  have := h.un
  omega
section
variable {K : Fg} {H0 : Hp} {F : List FE} {G G' : List B} {ta tb tc te ti : TE} {t u : TS} {x y z d : PyData} {i j k : Nat}
theorem ev_divP {a b : Int} (ha : EvE K H0 F G ta (.int a)) (hb : EvE K H0 F G tb (.int b)) (hc : 0 < b) : EvE K H0 F G (tOp rDivP ta tb) (.int (a / b)) := (ev_op ha hb (rd_I (C := fun _ j => j ≠ 0) (g := fun i j => i.fdiv j) (by omega))).to (by rw [Int.fdiv_eq_ediv_of_nonneg a (by omega)])
theorem ev_divN {a b : Int} (ha : EvE K H0 F G ta (.int a)) (hb : EvE K H0 F G tb (.int b)) (hc : b ≠ 0) : EvE K H0 F G (tOp rDivP ta tb) (.int (a.fdiv b)) := ev_op ha hb (rd_I (C := fun _ j => j ≠ 0) (g := fun i j => i.fdiv j) hc)

/-! ### isinstance -/
theorem dp_tyx {H : Hp} {v : V} (h : Dp K H v x) : TyX K H v (.type (tyD x)) := by
  cases h with
  | non => exact .base .non
  | bl b => exact .base (.bl b)
  | int i => exact .base (.int i)
  | str z => exact .base (.str z)
  | lst hs ha =>
    rcases hs with (h | ⟨o, h⟩) | ⟨o, us, n, h1, h2, _⟩
    · exact .base (.lst h)
    · exact .base (.frz h)
    · exact .kList h1 h2
  | tup hs ha =>
    rcases hs with (h | ⟨o, h⟩) | ⟨o, us, n, h1, h2, _⟩
    · exact .base (.tup h)
    · exact .fTuple h
    · exact .kTuple h1 h2
theorem pe_isi {X : Cx} {p p2 pos : Pos} {e : Expr} {te : TE} {T : Str} {n : String} (hg : Gl X "isinstance") (hm : X.mg "isinstance" = none) (hT : Gl X T) (hTm : X.mg T = none) (hTb : bootBuiltins T = some (.type n)) (he : PE X e te)
    (hn : T ≠ "__name__" := by decide) (hdb : (T == ("__debug__" : Str)) = false := by decide)
    (h1 : starEach [e, .Name T p2] X.env = (false, eval e X.env) :: starEach [.Name T p2] X.env := by rfl) (h2 : (backTo pos (starEach [.Name T p2] X.env)).any (·.1) = false := by rfl) (hbi : bootBuiltins "isinstance" = some (.builtin "isinstance") := by rfl) :
    PE X (.Call (.Name "isinstance" p) [e, .Name T p2] [] pos) (tCB (rIsi X.K) (tCons te (tCons (tC (.ty n)) tNil))) :=
  pe_callB call_isi hg hm hbi (pa_cons he (pa_cons (pe_bltn hT hTm hTb (show RelV (.ty n) (.type n) from rfl) hn hdb) pa_nil) h1) (by decide) (by decide) h1 h2
def isiB (x : PyData) (n : String) : Bool := (kitB (tyD x) n).getD false
theorem ev_isi {n : String} {b : Bool} (h : EvE K H0 F G te x) (e : kitB (tyD x) n = some b) : EvE K H0 F G (tCB (rIsi K) (tCons te (tCons (tC (.ty n)) tNil))) (.bool b) := fun σ H o Q q =>
  h σ H o _ fun v H1 e1 d1 => ⟨v, _, _, _, b, rfl, .ty n, dp_tyx d1, kit_ty e, q _ H1 e1 (.bl b)⟩

/-! ### tests whose answer is known -/
section
variable {t u : TT}
theorem et_or0 (h1 : EvT K H0 F G t false) (h2 : EvT K H0 F G u false) : EvT K H0 F G (tOr t u) false := et_or h1 fun _ => h2
theorem et_or1 (h1 : EvT K H0 F G t true) : EvT K H0 F G (tOr t u) true := fun σ H o Q q => h1 σ H o _ fun H1 e1 => q H1 e1
theorem et_or2 (h1 : EvT K H0 F G t false) (h2 : EvT K H0 F G u true) : EvT K H0 F G (tOr t u) true := et_or h1 fun _ => h2
theorem et_and1 (h1 : EvT K H0 F G t true) (h2 : EvT K H0 F G u true) : EvT K H0 F G (tAnd t u) true := et_and h1 fun _ => h2
theorem et_and0 (h1 : EvT K H0 F G t false) : EvT K H0 F G (tAnd t u) false := fun σ H o Q q => h1 σ H o _ fun H1 e1 => q H1 e1
theorem et_not0 (h1 : EvT K H0 F G t true) : EvT K H0 F G (tNot t) false := et_not h1
theorem et_not1 (h1 : EvT K H0 F G t false) : EvT K H0 F G (tNot t) true := et_not h1
end
/-! ### list(range(..)) -/
/-! ### list(range(..)) -/
def rgD (a b : Int) : List PyData := intR a 1 (b - a).toNat
theorem el_lstRg1 {n : Int} (h : EvE K H0 F G te (.int n)) (hn : 0 ≤ n ∧ n ≤ 100000) : EvL K H0 F G (tLstRg (tRg1 te)) (intR 0 1 n.toNat) := fun σ H o Q q =>
  h σ H o _ fun v H1 e1 d1 => by
    cases d1
    refine ⟨n, rfl, RgOk.of_le (by omega) (by omega) (by omega) (by omega), fun p hp => q p _ _ (fresh_back e1 hp) (e1.trans (same_new hp)) upd_same ?_⟩
    unfold rgV intR
    rw [Int.sub_zero]
    have : ∀ l : List Nat, DpAll K (upd H1 p (.lst ((List.range n.toNat).map fun i => V.int (0 + (i : Nat))))) (l.map fun i => V.int (0 + (i : Nat))) (l.map fun i => PyData.int (0 + (i : Nat) * 1)) := by
      intro l
      induction l with
      | nil => exact .nil
      | cons a l ih =>
        refine .cons ?_ ih
        show Dp K _ (V.int (0 + (a : Nat))) (PyData.int (0 + (a : Nat) * 1))
        rw [Int.mul_one]
        exact .int _
    exact this _
end

/-! ### statements ahead of others -/
section
variable {K : Fg} {H0 : Hp} {F : List FE} {G G' : List B} {ta tb tc te ti : TE} {t u : TS} {c : TT} {x y z d : PyData} {D : Ends} {b b1 b2 : B} {i j k : Nat}
theorem q_set (h : EvE K H0 F G te x) (p : pr x = true) (k : Goes K H0 F u D (G.set i (.d x))) : Goes K H0 F (tSeq (tAsg te (gName i)) u) D G := g_seq (g_set h p k)
theorem q_setL {xs : List PyData} (h : EvL K H0 F G te xs) (p : prs xs = true) (k : Goes K H0 F u D (G.set i (.l xs))) : Goes K H0 F (tSeq (tAsg te (gName i)) u) D G := g_seq (g_setL h p k)
theorem q_par (h1 : EvB K H0 F G ta b1) (h2 : EvB K H0 F G tb b2) (k : Goes K H0 F u D ((G.set i b1).set j b2)) : Goes K H0 F (tSeq (tPar i j (tCons ta (tCons tb tNil))) u) D G := g_seq (g_par h1 h2 k)
theorem q_unp {g : TG} {vs : List Nat} (h : EvE K H0 F G te d) (hg : TgE K H0 F g G d G' vs) (k : Goes K H0 F u D G') : Goes K H0 F (tSeq (tAsg te g) u) D G := g_seq (g_unp h hg k)
theorem q_no (h : EvT K H0 F G c false) (k : Goes K H0 F u D G) : Goes K H0 F (tSeq (tIfS c t tNext) u) D G := g_seq (g_no h (g_next k))
theorem q_yes (h : EvT K H0 F G c true) (k : Goes K H0 F t { D with nx := u D } G) : Goes K H0 F (tSeq (tIfS c t tNext) u) D G := g_seq (g_yes h k)
theorem q_drop (h : EvE K H0 F G te x) (k : Goes K H0 F u D G) : Goes K H0 F (tSeq (tDrop te) u) D G := g_seq (g_drop h k)
theorem q_aug {f : Int → Int → Int} {a b : Int} (hx : G[i]? = some (.d (.int a))) (h : EvE K H0 F G te (.int b)) (k : Goes K H0 F u D (G.set i (.d (.int (f a b))))) : Goes K H0 F (tSeq (tAug i te (ipI f)) u) D G := g_seq (g_aug hx h k)
theorem q_setI {xs : List PyData} (hx : G[i]? = some (.l xs)) (h : EvE K H0 F G te x) (p : pr x = true) (hi : EvE K H0 F G ti (.int (k : Int))) (hk : k < xs.length) (n : Goes K H0 F u D (G.set i (.l (xs.set k x)))) :
    Goes K H0 F (tSeq (tAsg te (gSub (tVar i) ti rSetL)) u) D G := g_seq (g_setI hx h p hi hk n)
theorem q_app {xs : List PyData} (hx : G[i]? = some (.l xs)) (h : EvE K H0 F G te x) (p : pr x = true) (hl : xs.length < 100000) (n : Goes K H0 F u D (G.set i (.l (xs ++ [x])))) :
    Goes K H0 F (tSeq (tDrop (tBM K "list" rAppend (tVar i) (tCons te tNil))) u) D G := g_seq (g_app hx h p hl n)
theorem q_for {wi : TI} {g : TG} {ds : List PyData} (vs : List Nat) (hi : EvI K H0 F G wi ds) (I : Nat → List B) (h0 : LeG G (I 0))
    (turn : ∀ (F1 : List FE) (i : Nat) (d : PyData), ds[i]? = some d → ∃ G1, TgE K H0 F1 g (I i) d G1 vs ∧ Goes K H0 F1 t { D with nx := Own K H0 F1 (I (i + 1)), ct := Own K H0 F1 (I (i + 1)), bk := u D } G1)
    (hd : Goes K H0 F u D (I ds.length)) : Goes K H0 F (tSeq (tFor wi g t) u) D G := g_seq (g_for vs hi I h0 turn hd)
theorem q_while {α : Type} (I : α → List B) (ok : α → Prop) (cf : α → Bool) (f : α → α) (μ : α → Nat) (a0 : α) (h0 : LeG G (I a0)) (hok : ok a0) (ht : ∀ a, ok a → EvT K H0 F (I a) c (cf a))
    (hb : ∀ a, ok a → cf a = true → ok (f a) ∧ μ (f a) < μ a ∧ Goes K H0 F t { D with nx := Own K H0 F (I (f a)), ct := Own K H0 F (I (f a)), bk := u D } (I a))
    (hd : ∀ a, ok a → cf a = false → Goes K H0 F u D (I a)) : Goes K H0 F (tSeq (tWhile c t) u) D G := g_seq (g_while I ok cf f μ a0 h0 hok ht hb hd)
/-- a loop whose turn tells its next state itself -/
theorem q_whileX {α : Type} (I : α → List B) (ok : α → Prop) (cf : α → Bool) (μ : α → Nat) (a0 : α) (h0 : LeG G (I a0)) (hok : ok a0) (ht : ∀ a, ok a → EvT K H0 F (I a) c (cf a))
    (hb : ∀ a, ok a → cf a = true → Goes K H0 F t { D with nx := fun σ H => ∃ a', ok a' ∧ μ a' < μ a ∧ Own K H0 F (I a') σ H, ct := fun σ H => ∃ a', ok a' ∧ μ a' < μ a ∧ Own K H0 F (I a') σ H, bk := u D } (I a))
    (hd : ∀ a, ok a → cf a = false → Goes K H0 F u D (I a)) : Goes K H0 F (tSeq (tWhile c t) u) D G := fun σ H o => by
  refine ⟨fun m σ H => ∃ a, ok a ∧ μ a = m ∧ Own K H0 F (I a) σ H, ⟨_, a0, hok, rfl, o.le h0⟩, ?_⟩
  rintro m σ H ⟨a, oa, rfl, o⟩
  refine ht a oa σ H o _ fun H1 e1 => ?_
  cases hc : cf a with
  | true =>
    rw [if_pos rfl]
    refine ⟨fun σ' H' => ∃ a', ok a' ∧ μ a' < μ a ∧ Own K H0 F (I a') σ' H', fun σ' H' h => ?_, hb a oa hc σ H1 (o.mono e1)⟩
    obtain ⟨a', o1, o2, o3⟩ := h
    exact ⟨_, o2, a', o1, rfl, o3⟩
  | false =>
    rw [if_neg Bool.false_ne_true]
    exact hd a oa hc σ H1 (o.mono e1)
theorem q_pop {xs : List PyData} (hx : G[i]? = some (.l xs)) (h : xs ≠ []) (n : Goes K H0 F u D (G.set i (.l xs.dropLast))) : Goes K H0 F (tSeq (tDrop (tBM0 K "list" rPop (tVar i))) u) D G := g_seq (g_pop hx h n)
/-- the end of a loop's body -/
theorem a_le (l : LeG G G') : Aft K H0 F (Own K H0 F G') G := fun _ _ o => o.le l
end
/-! ### a tuple as a target within a comprehension -/
theorem pg_tupB {X : Cx} {s : Shared} {H : Hp} {scope : Scope} {cenv : Env} {fp : List Addr} {es : List Expr} {k : Nat} {t : TGs} {n : Nat} {pos : Pos} (h : PGs (X.blk s H scope cenv fp) es t) (hc : X.calm = true := by rfl)
    (hn : (assignEach es (X.blk s H scope cenv fp).env).length = n := by rfl) (hst : (assignEach es (X.blk s H scope cenv fp).env).findIdx? (·.1) = none := by rfl) : PG (X.blk s H scope cenv fp) (.Tuple es k pos) (gTup X.K n t) :=
  pg_tup (X := X.blk s H scope cenv fp) hc h hn hst
theorem pg_tupBB {X : Cx} {s s' : Shared} {H H' : Hp} {scope scope' : Scope} {cenv cenv' : Env} {fp fp' : List Addr} {es : List Expr} {k : Nat} {t : TGs} {n : Nat} {pos : Pos} (h : PGs ((X.blk s H scope cenv fp).blk s' H' scope' cenv' fp') es t) (hc : X.calm = true := by rfl)
    (hn : (assignEach es ((X.blk s H scope cenv fp).blk s' H' scope' cenv' fp').env).length = n := by rfl) (hst : (assignEach es ((X.blk s H scope cenv fp).blk s' H' scope' cenv' fp').env).findIdx? (·.1) = none := by rfl) : PG ((X.blk s H scope cenv fp).blk s' H' scope' cenv' fp') (.Tuple es k pos) (gTup X.K n t) :=
  pg_tup (X := (X.blk s H scope cenv fp).blk s' H' scope' cenv' fp') hc h hn hst
theorem pe_konB {X : Cx} {s : Shared} {H : Hp} {scope : Scope} {cenv : Env} {fp : List Addr} {x : Str} {pos : Pos} {d : PyData} (hg : Gl (X.blk s H scope cenv fp) x) (c : Kon X.K X.mg x d) (hd : (x == ("__debug__" : Str)) = false := by decide) : PE (X.blk s H scope cenv fp) (.Name x pos) (tKon X.K d) := pe_kon (X := X.blk s H scope cenv fp) hg c hd
section
variable {X : Cx} {s : Shared} {H : Hp} {scope : Scope} {cenv : Env} {fp : List Addr}
theorem op_eqDB (hu : X.A.units + 64 < cLine) : OpR (X.blk s H scope cenv fp) (compareOp .Eq) (rEqD X.K) := op_eqD (X := X.blk s H scope cenv fp) hu
theorem op_neDB (hu : X.A.units + 64 < cLine) : OpR (X.blk s H scope cenv fp) (compareOp .NotEq) (rNeD X.K) := op_neD (X := X.blk s H scope cenv fp) hu
theorem op_inTDB (hu : X.A.units + 65 < cLine) : OpR (X.blk s H scope cenv fp) (compareOp .In) (rInTD X.K) := op_inTD (X := X.blk s H scope cenv fp) hu
theorem op_addAnyB : OpR (X.blk s H scope cenv fp) (binaryOp .Add) (rAddAny X.K) := op_addAny
theorem op_mulAnyB : OpR (X.blk s H scope cenv fp) (binaryOp .Mult) (rMulAny X.K) := op_mulAny
theorem ix_seqB : IxR (X.blk s H scope cenv fp) (rIx X.K) := ix_seq
theorem pi_listB {tg l : Expr} {tl : TE} (hl : PE (X.blk s H scope cenv fp) l tl) : PI (X.blk s H scope cenv fp) tg l (iList X.K tl) := pi_list (X := X.blk s H scope cenv fp) hl
theorem pi_tupB {tg l : Expr} {tl : TE} (hl : PE (X.blk s H scope cenv fp) l tl) : PI (X.blk s H scope cenv fp) tg l (iTup X.K tl) := pi_tup (X := X.blk s H scope cenv fp) hl
theorem sl_anyB : SlR (X.blk s H scope cenv fp) (rSlAny X.K) := sl_any
end
/-! ### a def's theorem -/
theorem paired_own {K : Fg} {H : Hp} : ∀ {vs : List V} {ds : List PyData}, DpAll K H vs ds → prs ds = true → Paired (fun v b => OwnS K H H b (some v) []) vs (ds.map B.d)
  | _, _, .nil, _ => .nil
  | _, _, .cons h t, p => by
    simp only [prs, Bool.and_eq_true] at p
    exact .cons ⟨rfl, p.1, _, rfl, h⟩ (paired_own t p.2)
theorem own_entry {K : Fg} {H : Hp} {N : List Str} {vs : List V} {ds : List PyData} (h : DpAll K H vs ds) (p : prs ds = true) : Own K H [] (ds.map B.d ++ List.replicate (N.length - ds.length) .u) (start N vs) H := by
  have e := dps_len h
  rw [← e]
  exact Own.entry (paired_own h p)
/-- .. where the params may be lists, which are read only -/
theorem paired_ownR {K : Fg} {H : Hp} : ∀ {vs : List V} {ds : List PyData}, DpAll K H vs ds → Paired (fun v b => OwnS K H H b (some v) []) vs (ds.map B.r)
  | _, _, .nil => .nil
  | _, _, .cons h t => .cons ⟨rfl, _, rfl, h⟩ (paired_ownR t)
theorem own_entryR {K : Fg} {H : Hp} {N : List Str} {vs : List V} {ds : List PyData} (h : DpAll K H vs ds) : Own K H [] (ds.map B.r ++ List.replicate (N.length - ds.length) .u) (start N vs) H := by
  have e := dps_len h
  rw [← e]
  exact Own.entry (paired_ownR h)
section
variable {P : Program} {w : World} {K : Fg} {mg : Str → Option Value} {base : Heap}
abbrev bindsHyp (x : Str) (st : Stmt) (ps : List Str) : Prop := ∀ (kV doc pm : Value) (an : Option Addr) (cdv ct : Value) (us : List Value), us.length = ps.length → bindArgs (PySem.W.fnOf x x (defArgs st) (defBody st) (defScope st) .none kV doc pm an cdv ct) ⟨us, []⟩ = pure (ps.zip us)
theorem def_ok {α : Type} {enc : α → List PyData} {pre : α → Prop} {res : α → PyData} {x : Str} {st : Stmt} {N ps : List Str} {k : Nat} (F : Dfn K mg x st) (S : FnScope N ps (defScope st)) (hb : bindsHyp x st ps) (hl : ∀ a, (enc a).length = ps.length) (hp : ∀ a, prs (enc a) = true)
    (body : ∀ (cdv : Value) (f : Addr) (A : Around) (outer : List Env) (s : Shared) (H : Hp) (E : XK), Room k (A.deeper (envOfC x (defScope st) s.heap.objs.size f cdv)) → ∀ a, pre a →
      ∃ t, PSs (cxOf CX0 P w K mg base N x (defScope st) f cdv A outer s H E).nox (defBody st) t ∧ ∀ D : Ends, Rt K H D (res a) → Goes K H [] t D ((enc a).map B.d ++ List.replicate (N.length - ps.length) .u)) :
    Cal P w K mg base x ps (k + 1) (spT K enc pre res) := by
  obtain ⟨f, fd, hm, F⟩ := F
  refine ⟨f, fd, hm, F.kp, F.binds hb, F.ok S (fun vs H Q E ⟨a, h, _⟩ => by rw [dps_len h, hl]) fun cdv A outer s H vs Q E hr ⟨a, h, hpre, q⟩ => ?_⟩
  obtain ⟨t, h1, h2⟩ := body cdv f A outer s H E hr a hpre
  refine ⟨t, h1, h2 _ (fun v H' e d => q v H' e d) _ _ ?_⟩
  rw [← hl a]
  exact own_entry h (hp a)
/-- .. params read only, lists among them -/
theorem def_okR {α : Type} {enc : α → List PyData} {pre : α → Prop} {res : α → PyData} {x : Str} {st : Stmt} {N ps : List Str} {k : Nat} (F : Dfn K mg x st) (S : FnScope N ps (defScope st)) (hb : bindsHyp x st ps) (hl : ∀ a, (enc a).length = ps.length)
    (body : ∀ (cdv : Value) (f : Addr) (A : Around) (outer : List Env) (s : Shared) (H : Hp) (E : XK), Room k (A.deeper (envOfC x (defScope st) s.heap.objs.size f cdv)) → ∀ a, pre a →
      ∃ t, PSs (cxOf CX0 P w K mg base N x (defScope st) f cdv A outer s H E).nox (defBody st) t ∧ ∀ D : Ends, Rt K H D (res a) → Goes K H [] t D ((enc a).map B.r ++ List.replicate (N.length - ps.length) .u)) :
    Cal P w K mg base x ps (k + 1) (spT K enc pre res) := by
  obtain ⟨f, fd, hm, F⟩ := F
  refine ⟨f, fd, hm, F.kp, F.binds hb, F.ok S (fun vs H Q E ⟨a, h, _⟩ => by rw [dps_len h, hl]) fun cdv A outer s H vs Q E hr ⟨a, h, hpre, q⟩ => ?_⟩
  obtain ⟨t, h1, h2⟩ := body cdv f A outer s H E hr a hpre
  refine ⟨t, h1, h2 _ (fun v H' e d => q v H' e d) _ _ ?_⟩
  rw [← hl a]
  exact own_entryR h
/-- .. a new list comes back -/
theorem def_okL {α : Type} {enc : α → List PyData} {pre : α → Prop} {res : α → List PyData} {x : Str} {st : Stmt} {N ps : List Str} {k : Nat} (F : Dfn K mg x st) (S : FnScope N ps (defScope st)) (hb : bindsHyp x st ps) (hl : ∀ a, (enc a).length = ps.length)
    (body : ∀ (cdv : Value) (f : Addr) (A : Around) (outer : List Env) (s : Shared) (H : Hp) (E : XK), Room k (A.deeper (envOfC x (defScope st) s.heap.objs.size f cdv)) → ∀ a, pre a →
      ∃ t, PSs (cxOf CX0 P w K mg base N x (defScope st) f cdv A outer s H E).nox (defBody st) t ∧ ∀ D : Ends, RtL K H D (res a) → Goes K H [] t D ((enc a).map B.r ++ List.replicate (N.length - ps.length) .u)) :
    Cal P w K mg base x ps (k + 1) (spL K enc pre res) := by
  obtain ⟨f, fd, hm, F⟩ := F
  refine ⟨f, fd, hm, F.kp, F.binds hb, F.ok S (fun vs H Q E ⟨a, h, _⟩ => by rw [dps_len h, hl]) fun cdv A outer s H vs Q E hr ⟨a, h, hpre, q⟩ => ?_⟩
  obtain ⟨t, h1, h2⟩ := body cdv f A outer s H E hr a hpre
  refine ⟨t, h1, h2 _ (fun p us H' hp e hH d => q p us H' hp e hH d) _ _ ?_⟩
  rw [← hl a]
  exact own_entryR h
/-! ### a tuple of a datum and a new list -/
def RtTL (K : Fg) (H0 : Hp) (D : Ends) (x : PyData) (xs : List PyData) : Prop := ∀ a p us v H, H0 p = none → Same H0 H → SqT K H a [v, .ref p] → Dp K H v x → H p = some (.lst us) → DpAll K H us xs → D.rt (.ref a) H
def spTL {α : Type} (K : Fg) (enc : α → List PyData) (pre : α → Prop) (res : α → PyData × List PyData) : Sp := fun vs H Q _ => ∃ a, DpAll K H vs (enc a) ∧ pre a ∧
  ∀ t p us v H', H p = none → Same H H' → SqT K H' t [v, .ref p] → Dp K H' v (res a).1 → H' p = some (.lst us) → DpAll K H' us (res a).2 → Q (.ref t) H'
theorem g_retTL {H0 : Hp} {F : List FE} {G : List B} {te : TE} {x : PyData} {xs : List PyData} {i : Nat} {D : Ends} (h : EvE K H0 F G te x) (e : G[i]? = some (.l xs)) (k : RtTL K H0 D x xs) : Goes K H0 F (tRet (tTup (tCons te (tCons (tVar i) tNil)))) D G := fun σ H o => by
  refine h σ H o _ fun v H1 e1 d1 => ?_
  have o1 := o.mono e1
  obtain ⟨_, a, vs, s1, h0, l1, da⟩ := o1.l e
  refine ⟨_, s1, ?_⟩
  refine ⟨Nat.le_trans (show 2 ≤ 100000 by decide) (by decide : 100000 ≤ sizeLine), fun q hq => ?_⟩
  have en := same_new (o := .tup [v, .ref a]) hq
  exact k q a vs v _ h0 (o1.same.trans en) (SqT.of upd_same) (dp_same en _ _ d1) (en _ _ l1) (dps_same en _ _ da)
theorem q_unpTL {H0 : Hp} {F : List FE} {G : List B} {ta : TA} {u : TS} {i j : Nat} {D : Ends} {α : Type} {enc : α → List PyData} {pre : α → Prop} {res : α → PyData × List PyData} {E : XK} (a : α) (h : EvA K H0 F G ta (enc a)) (hp : pre a) (p1 : pr (res a).1 = true) (p2 : prs (res a).2 = true) (hij : i ≠ j)
    (k : Goes K H0 F u D ((G.set i (.d (res a).1)).set j (.l (res a).2))) : Goes K H0 F (tSeq (tAsg (tCall (spTL K enc pre res) [] E ta) (gTup K 2 (gCons (gName i) (gCons (gName j) gNil)))) u) D G := fun σ H o => by
  refine h σ H o _ fun vs H1 e1 d1 => ?_
  rw [List.append_nil]
  refine ⟨a, d1, hp, fun t p us v H2 hp2 e2 ht hv hl hus => ?_⟩
  refine ⟨t, _, rfl, ht, rfl, v, [.ref p], rfl, .ref p, [], rfl, rfl, ?_⟩
  have o1 := ((o.mono e1).setL j hp2 e2 hl hus p2).setD i p1 hv
  rw [List.set_comm _ _ (fun z => hij z.symm), List.set_comm _ _ (fun z => hij z.symm)] at o1
  exact k _ _ o1
theorem def_okTL {α : Type} {enc : α → List PyData} {pre : α → Prop} {res : α → PyData × List PyData} {x : Str} {st : Stmt} {N ps : List Str} {k : Nat} (F : Dfn K mg x st) (S : FnScope N ps (defScope st)) (hb : bindsHyp x st ps) (hl : ∀ a, (enc a).length = ps.length) (hp : ∀ a, prs (enc a) = true)
    (body : ∀ (cdv : Value) (f : Addr) (A : Around) (outer : List Env) (s : Shared) (H : Hp) (E : XK), Room k (A.deeper (envOfC x (defScope st) s.heap.objs.size f cdv)) → ∀ a, pre a →
      ∃ t, PSs (cxOf CX0 P w K mg base N x (defScope st) f cdv A outer s H E).nox (defBody st) t ∧ ∀ D : Ends, RtTL K H D (res a).1 (res a).2 → Goes K H [] t D ((enc a).map B.d ++ List.replicate (N.length - ps.length) .u)) :
    Cal P w K mg base x ps (k + 1) (spTL K enc pre res) := by
  obtain ⟨f, fd, hm, F⟩ := F
  refine ⟨f, fd, hm, F.kp, F.binds hb, F.ok S (fun vs H Q E ⟨a, h, _⟩ => by rw [dps_len h, hl]) fun cdv A outer s H vs Q E hr ⟨a, h, hpre, q⟩ => ?_⟩
  obtain ⟨t, h1, h2⟩ := body cdv f A outer s H E hr a hpre
  refine ⟨t, h1, h2 _ (fun a p us v H' h0 e ht hv hl hd => q a p us v H' h0 e ht hv hl hd) _ _ ?_⟩
  rw [← hl a]
  exact own_entry h (hp a)
/-- a def that ends without a return -/
theorem def_okN {α : Type} {enc : α → List PyData} {pre : α → Prop} {res : α → PyData} {x : Str} {st : Stmt} {N ps : List Str} {k : Nat} (F : Dfn K mg x st) (S : FnScope N ps (defScope st)) (hb : bindsHyp x st ps) (hl : ∀ a, (enc a).length = ps.length) (hp : ∀ a, prs (enc a) = true) (hn : ∀ a, res a = .none)
    (body : ∀ (cdv : Value) (f : Addr) (A : Around) (outer : List Env) (s : Shared) (H : Hp) (E : XK), Room k (A.deeper (envOfC x (defScope st) s.heap.objs.size f cdv)) → ∀ a, pre a →
      ∃ t, PSs (cxOf CX0 P w K mg base N x (defScope st) f cdv A outer s H E).nox (defBody st) t ∧ ∀ D : Ends, (∀ σ H', Same H H' → D.nx σ H') → Goes K H [] t D ((enc a).map B.d ++ List.replicate (N.length - ps.length) .u)) :
    Cal P w K mg base x ps (k + 1) (spT K enc pre res) := by
  obtain ⟨f, fd, hm, F⟩ := F
  refine ⟨f, fd, hm, F.kp, F.binds hb, F.ok S (fun vs H Q E ⟨a, h, _⟩ => by rw [dps_len h, hl]) fun cdv A outer s H vs Q E hr ⟨a, h, hpre, q⟩ => ?_⟩
  obtain ⟨t, h1, h2⟩ := body cdv f A outer s H E hr a hpre
  refine ⟨t, h1, h2 _ (fun _ H' e => q .non H' e (by rw [hn]; exact .non)) _ _ ?_⟩
  rw [← hl a]
  exact own_entry h (hp a)
end
end Sw

/-! a bag of draws: a list of three ints and a list, that is written -/
namespace Sw
open PySem PySem.Spec L2
open PyProof.Rows (envOfC)
section
variable {K : Fg} {H0 H H' : Hp} {F : List FE} {G G' : List B} {σ : St} {as : List Addr} {a c : Addr} {x0 x1 x2 : Int} {cells : List Int} {i j : Nat}
theorem OwnL.openB {T : Nat} (h : OwnL K H0 H G σ as) : ∀ {i : Nat}, G[i]? = some (.bg T a c cells) → ∃ x0 x1 x2, BagOk T x0 x1 x2 cells ∧ OwnL K H0 H (G.set i (.g a c x0 x1 x2 cells)) σ as := by
  induction h with
  | nil => intro i e; simp at e
  | @cons b0 s0 as0 bs0 G σ h1 h2 ih =>
    intro i e
    cases i with
    | zero =>
      simp at e; subst e
      obtain ⟨x0, x1, x2, rfl, hn, h3, h4, h5, h6, h7, h8⟩ := h1
      exact ⟨x0, x1, x2, h8, OwnL.cons (b := .g a c x0 x1 x2 cells) ⟨rfl, hn, h3, h4, h5, h6, h7⟩ h2⟩
    | succ i =>
      obtain ⟨x0, x1, x2, k, o⟩ := ih (i := i) (by simpa using e)
      exact ⟨x0, x1, x2, k, .cons h1 o⟩
theorem Own.openB {T : Nat} (h : Own K H0 F G σ H) (e : G[i]? = some (.bg T a c cells)) : ∃ x0 x1 x2, BagOk T x0 x1 x2 cells ∧ Own K H0 F (G.set i (.g a c x0 x1 x2 cells)) σ H := by
  obtain ⟨h1, as, h2, h3, h4⟩ := h
  obtain ⟨x0, x1, x2, k, o⟩ := h2.openB e
  exact ⟨x0, x1, x2, k, h1, as, o, h3, h4⟩
theorem OwnL.atB (h : OwnL K H0 H G σ as) : ∀ {i : Nat}, G[i]? = some (.g a c x0 x1 x2 cells) → σ[i]? = some (some (.ref a)) ∧ H0 a = none ∧ H0 c = none ∧ BagAt H a c x0 x1 x2 cells ∧ a ∈ as ∧ c ∈ as := by
  induction h with
  | nil => intro i e; simp at e
  | @cons b0 s0 as0 bs0 G σ h1 h2 ih =>
    intro i e
    cases i with
    | zero =>
      simp at e; subst e
      obtain ⟨rfl, hn, rfl, h4, h5, h6, h7⟩ := h1
      exact ⟨rfl, h4, h5, ⟨hn, h6, h7⟩, List.mem_append_left _ (by simp), List.mem_append_left _ (by simp)⟩
    | succ i =>
      obtain ⟨k1, k2, k3, k4, k5, k6⟩ := ih (i := i) (by simpa using e)
      exact ⟨by simpa using k1, k2, k3, k4, List.mem_append_right _ k5, List.mem_append_right _ k6⟩
theorem Own.atB (h : Own K H0 F G σ H) (e : G[i]? = some (.g a c x0 x1 x2 cells)) : σ[i]? = some (some (.ref a)) ∧ H0 a = none ∧ H0 c = none ∧ BagAt H a c x0 x1 x2 cells := by
  obtain ⟨h1, as, h2, h3, h4⟩ := h
  obtain ⟨k1, k2, k3, k4, _⟩ := h2.atB e
  exact ⟨k1, k2, k3, k4⟩
/-- another state, the same but for the bag's first list -/
def Off (a : Addr) (H H' : Hp) : Prop := ∀ b o, b ≠ a → H b = some o → H' b = some o
theorem off_kt {vs : List V} (h : Off a H H') (ha : H a = some (.lst vs)) : Kt H H' := fun b xs r => by
  have hb : b ≠ a := by
    rintro rfl
    rcases r with r | ⟨o, r⟩
    · rw [ha] at r; cases r
    · rw [ha] at r; cases r
  rcases r with r | ⟨o, r⟩
  · exact .inl (h b _ hb r)
  · exact .inr ⟨o, h b _ hb r⟩
theorem OwnS.off {b : B} {s : Option V} {as : List Addr} {vs : List V} (h : OwnS K H0 H b s as) (of : Off a H H') (ha : H a = some (.lst vs)) (n : a ∉ as) : OwnS K H0 H' b s as := by
  have k := off_kt of ha
  cases b with
  | u => exact h
  | d x => obtain ⟨h1, h2, v, h3, h4⟩ := h; exact ⟨h1, h2, v, h3, dp_kt k _ _ h2 h4⟩
  | r x => exact h
  | l xs =>
    obtain ⟨p, a', vs', rfl, h2, h3, h4, h5⟩ := h
    exact ⟨p, a', vs', rfl, h2, h3, of _ _ (fun q => n (by rw [q]; exact List.mem_singleton.mpr rfl)) h4, dps_kt k _ _ p h5⟩
  | g a' c x0 x1 x2 cells =>
    obtain ⟨rfl, hn, h2, h3, h4, h5, h6⟩ := h
    exact ⟨rfl, hn, h2, h3, h4, of _ _ (fun q => n (by rw [q]; exact List.mem_cons_self ..)) h5, of _ _ (fun q => n (by rw [q]; exact List.mem_cons_of_mem _ (List.mem_singleton.mpr rfl))) h6⟩
  | bg T a' c cells =>
    obtain ⟨x0, x1, x2, rfl, hn, h2, h3, h4, h5, h6, h7⟩ := h
    exact ⟨x0, x1, x2, rfl, hn, h2, h3, h4, of _ _ (fun q => n (by rw [q]; exact List.mem_cons_self ..)) h5, of _ _ (fun q => n (by rw [q]; exact List.mem_cons_of_mem _ (List.mem_singleton.mpr rfl))) h6, h7⟩
theorem OwnL.off {vs : List V} (h : OwnL K H0 H G σ as) (of : Off a H H') (ha : H a = some (.lst vs)) (n : a ∉ as) : OwnL K H0 H' G σ as := by
  induction h with
  | nil => exact .nil
  | cons h1 _ ih => exact .cons (h1.off of ha fun m => n (List.mem_append_left _ m)) (ih fun m => n (List.mem_append_right _ m))
theorem OwnL.chg {y0 y1 y2 : Int} {b : B} (h : OwnL K H0 H G σ as) (nd : as.Nodup) (of : Off a H H') (hb : ∀ s as, s = some (.ref a) → as = [a, c] → H0 a = none → H0 c = none → a ≠ c → OwnS K H0 H' b s as) : ∀ {i : Nat}, G[i]? = some (.g a c x0 x1 x2 cells) → OwnL K H0 H' (G.set i b) σ as := by
  induction h with
  | nil => intro i e; simp at e
  | @cons b0 s0 as0 bs0 G σ h1 h2 ih =>
    intro i e
    rw [List.nodup_append] at nd
    cases i with
    | zero =>
      simp at e; subst e
      obtain ⟨rfl, hn, rfl, h4, h5, h6, h7⟩ := h1
      have n : a ∉ bs0 := fun m => nd.2.2 a (List.mem_cons_self ..) a m rfl
      exact .cons (hb _ _ rfl rfl h4 h5 hn) (h2.off of h6 n)
    | succ i =>
      have e' : G[i]? = some (.g a c x0 x1 x2 cells) := by simpa using e
      obtain ⟨k1, k2, k3, k4, k5, k6⟩ := h2.atB e'
      have n : a ∉ as0 := fun m => nd.2.2 a m a k5 rfl
      exact .cons (h1.off of k4.2.1 n) (ih nd.2.1 e')
theorem Own.chg {b : B} (h : Own K H0 F G σ H) (e : G[i]? = some (.g a c x0 x1 x2 cells)) (of : Off a H H') (hb : ∀ s as, s = some (.ref a) → as = [a, c] → H0 a = none → H0 c = none → a ≠ c → OwnS K H0 H' b s as) : Own K H0 F (G.set i b) σ H' := by
  obtain ⟨h1, as, h2, h3, h4⟩ := h
  obtain ⟨k1, k2, k3, k4, k5, k6⟩ := h2.atB e
  refine ⟨fun b o hb => of b o (fun z => by rw [z, k2] at hb; cases hb) (h1 b o hb), as, h2.chg (y0 := 0) (y1 := 0) (y2 := 0) h3 of hb e, h3, fun f mf => ⟨?_, (h4 f mf).2⟩⟩
  obtain ⟨f1, f2⟩ := h4 f mf
  obtain ⟨g1, g2, g3⟩ := f1
  have kt := off_kt of k4.2.1
  refine ⟨?_, g2, dps_kt kt _ _ g2 g3⟩
  unfold FE.at at g1 ⊢
  split
  · rename_i hl
    rw [if_pos hl] at g1
    exact of _ _ (fun z => f2 hl (by rw [z]; exact k5)) g1
  · rename_i hl
    rw [if_neg hl] at g1
    exact kt_t kt g1
theorem own_bg {T : Nat} {s : Option V} (hs : s = some (.ref a)) (as : List Addr) (ha : as = [a, c]) (h1 : H0 a = none) (h2 : H0 c = none) (hn : a ≠ c) (hb : BagAt H a c x0 x1 x2 cells) (k : BagOk T x0 x1 x2 cells) : OwnS K H0 H (.bg T a c cells) s as :=
  ⟨x0, x1, x2, ha, hn, hs, h1, h2, hb.2.1, hb.2.2, k⟩
theorem Own.closeB {T : Nat} (h : Own K H0 F G σ H) (e : G[i]? = some (.g a c x0 x1 x2 cells)) (k : BagOk T x0 x1 x2 cells) : Own K H0 F (G.set i (.bg T a c cells)) σ H :=
  h.chg e (fun _ _ _ q => q) fun s as hs ha h1 h2 hn => own_bg hs as ha h1 h2 hn (h.atB e).2.2.2 k
theorem set_twice {b b' : B} : (G.set i b).set i b' = G.set i b' := List.set_set ..
theorem get_set {b b' : B} (h : G[i]? = some b) : (G.set i b')[i]? = some b' := by
  have hl := (List.getElem?_eq_some_iff.mp h).1
  simp [hl]
theorem Own.moreB {T T' : Nat} (h : Own K H0 F G σ H) (e : G[i]? = some (.bg T a c cells)) (k : T ≤ T') : Own K H0 F (G.set i (.bg T' a c cells)) σ H := by
  obtain ⟨x0, x1, x2, ok, o⟩ := h.openB e
  have := o.closeB (T := T') (get_set e) (by obtain ⟨h0, h1, h2, h3, h4, h5⟩ := ok; exact ⟨h0, h1, h2, h3, by omega, h5⟩)
  rwa [set_twice] at this
/-! ### reading and writing it -/
theorem ev_bag (e : G[i]? = some (.g a c x0 x1 x2 cells)) : EvE K H0 F G (tVar i) (.list [.int x0, .int x1, .int x2, .list (cells.map .int)]) := fun σ H o Q q => by
  obtain ⟨s, _, _, hn, ha, hc⟩ := o.atB e
  refine ⟨_, s, q _ H (Same.refl H) (.lst (SqL.of ha) (.cons (.int _) (.cons (.int _) (.cons (.int _) (.cons (.lst (SqL.of hc) (dps_ints _)) .nil)))))⟩
theorem off_upd {ws : List V} : Off a H (upd H a (.lst ws)) := fun b o hb e => by rw [upd_ne hb]; exact e
theorem g_setG {te ti : TE} {D : Ends} {y y0 y1 y2 : Int} {k : Nat} (e : G[i]? = some (.g a c x0 x1 x2 cells)) (h : EvE K H0 F G te (.int y)) (hi : EvE K H0 F G ti (.int (k : Nat))) (hk : k < 3) (hs : [x0, x1, x2].set k y = [y0, y1, y2]) (n : Aft K H0 F D.nx (G.set i (.g a c y0 y1 y2 cells))) :
    Goes K H0 F (tAsg te (gSub (tVar i) ti rSetL)) D G := fun σ H o => h σ H o _ fun v H1 e1 d1 => by
  have o1 := o.mono e1
  obtain ⟨s, _⟩ := o1.atB e
  refine ⟨_, s, hi σ H1 o1 _ fun w H2 e2 d2 => ?_⟩
  cases d1; cases d2
  have o2 := o1.mono e2
  obtain ⟨s2, h1, h2, hn, ha, hc⟩ := o2.atB e
  refine ⟨a, _, _, k, rfl, rfl, ha, ix_nat (by simp; omega), ?_⟩
  have el : ([.int x0, .int x1, .int x2, .ref c] : List V).set k (.int y) = [.int y0, .int y1, .int y2, .ref c] := by
    have : ([.int x0, .int x1, .int x2, .ref c] : List V) = [x0, x1, x2].map V.int ++ [.ref c] := rfl
    rw [this, List.set_append_left _ _ (by simpa using hk), ← List.map_set, hs]
    rfl
  rw [el]
  refine n _ _ (o2.chg e off_upd fun s as hs ha h1 h2 hn' => ⟨ha, hn', hs, h1, h2, upd_same, ?_⟩)
  rw [upd_ne (fun z => hn z.symm)]
  exact hc
theorem g_augG {te ti : TE} {D : Ends} {f : Int → Int → Int} {y z y0 y1 y2 : Int} {k : Nat} (e : G[i]? = some (.g a c x0 x1 x2 cells)) (hi : EvE K H0 F G ti (.int (k : Nat))) (hk : k < 3) (hz : [x0, x1, x2][k]? = some z) (h : EvE K H0 F G te (.int y)) (hs : [x0, x1, x2].set k (f z y) = [y0, y1, y2]) (n : Aft K H0 F D.nx (G.set i (.g a c y0 y1 y2 cells))) :
    Goes K H0 F (tAugS (tVar i) ti te (rGetL K) (ipI f) rSetL) D G := fun σ H o => by
  obtain ⟨s, _⟩ := o.atB e
  refine ⟨_, s, hi σ H o _ fun w H1 e1 d1 => ?_⟩
  have o1 := o.mono e1
  cases d1
  obtain ⟨s1, _, _, hn1, ha1, hc1⟩ := o1.atB e
  have hz' : ([.int x0, .int x1, .int x2, .ref c] : List V)[k]? = some (.int z) := by
    have : ([.int x0, .int x1, .int x2, .ref c] : List V) = [x0, x1, x2].map V.int ++ [.ref c] := rfl
    rw [this, List.getElem?_append_left (by simpa using hk), List.getElem?_map, hz]
    rfl
  refine ⟨a, _, _, .int z, rfl, rfl, SqL.of ha1, by unfold atI; rw [ix_nat (by simp; omega)]; exact hz', ?_⟩
  refine h σ H1 o1 _ fun w H2 e2 d2 => ?_
  have o2 := o1.mono e2
  cases d2
  obtain ⟨s2, h1, h2, hn, ha, hc⟩ := o2.atB e
  refine ⟨z, y, rfl, rfl, a, _, _, k, rfl, rfl, ha, ix_nat (by simp; omega), ?_⟩
  have el : ([.int x0, .int x1, .int x2, .ref c] : List V).set k (.int (f z y)) = [.int y0, .int y1, .int y2, .ref c] := by
    have : ([.int x0, .int x1, .int x2, .ref c] : List V) = [x0, x1, x2].map V.int ++ [.ref c] := rfl
    rw [this, List.set_append_left _ _ (by simpa using hk), ← List.map_set, hs]
    rfl
  rw [el]
  refine n _ _ (o2.chg e off_upd fun s as hs ha h1 h2 hn' => ⟨ha, hn', hs, h1, h2, upd_same, ?_⟩)
  rw [upd_ne (fun z => hn z.symm)]
  exact hc
end

/-! ### what a def with a bag promises -/
def spM {α : Type} (K : Fg) (enc : α → List PyData) (pre : α → Prop) (n : Nat) (R : α → PyData → Prop) : Sp := fun vs H Q _ => ∃ (al : α) (a c : Addr) (T : Nat) (x0 x1 x2 : Int) (cells : List Int) (ws : List V), vs = .ref a :: ws ∧ DpAll K H ws (enc al) ∧ pre al ∧ T + n ≤ 100000 ∧ BagOk T x0 x1 x2 cells ∧ BagAt H a c x0 x1 x2 cells ∧
  ∀ v H' y y0 y1 y2, R al y → pr y = true → BagOk (T + n) y0 y1 y2 cells → BagAt H' a c y0 y1 y2 cells → Off a H H' → Dp K H' v y → Q v H'
def spML {α : Type} (K : Fg) (enc : α → List PyData) (pre : α → Prop) (n : Nat) (R : α → List PyData → Prop) : Sp := fun vs H Q _ => ∃ (al : α) (a c : Addr) (T : Nat) (x0 x1 x2 : Int) (cells : List Int) (ws : List V), vs = .ref a :: ws ∧ DpAll K H ws (enc al) ∧ pre al ∧ T + n ≤ 100000 ∧ BagOk T x0 x1 x2 cells ∧ BagAt H a c x0 x1 x2 cells ∧
  ∀ p us H' ys y0 y1 y2, R al ys → prs ys = true → BagOk (T + n) y0 y1 y2 cells → BagAt H' a c y0 y1 y2 cells → Off a H H' → H p = none → H' p = some (.lst us) → DpAll K H' us ys → Q (.ref p) H'
/-- the heap without the bag -/
def hid (a c : Addr) (H : Hp) : Hp := fun b => if b = a ∨ b = c then none else H b
theorem hid_a {a c : Addr} {H : Hp} : hid a c H a = none := if_pos (.inl rfl)
theorem hid_c {a c : Addr} {H : Hp} : hid a c H c = none := if_pos (.inr rfl)
theorem hid_same {a c : Addr} {H : Hp} : Same (hid a c H) H := fun b o e => by
  unfold hid at e
  split at e
  · cases e
  · exact e
theorem hid_off {a c : Addr} {x0 x1 x2 y0 y1 y2 : Int} {cells : List Int} {H H' : Hp} (hb : BagAt H a c x0 x1 x2 cells) (hb' : BagAt H' a c y0 y1 y2 cells) (s : Same (hid a c H) H') : Off a H H' := fun b o hne e => by
  by_cases hc : b = c
  · subst hc
    rw [hb.2.2] at e
    rw [← e]
    exact hb'.2.2
  · exact s b o (by unfold hid; rw [if_neg (fun z => z.elim hne hc)]; exact e)
theorem ownL_ds {K : Fg} {H0 H : Hp} : ∀ {vs : List V} {ds : List PyData} (m : Nat), DpAll K H vs ds → prs ds = true → OwnL K H0 H (ds.map B.d ++ List.replicate m .u) (vs.map some ++ List.replicate m none) []
  | _, _, 0, .nil, _ => .nil
  | _, _, m + 1, .nil, p => .cons (b := .u) (as := []) rfl (ownL_ds m .nil p)
  | _, _, m, .cons h t, p => by
    simp only [prs, Bool.and_eq_true] at p
    exact .cons (as := []) ⟨rfl, p.1, _, rfl, h⟩ (ownL_ds m t p.2)
theorem own_entryB {K : Fg} {H : Hp} {N : List Str} {ws : List V} {ds : List PyData} {a c : Addr} {x0 x1 x2 : Int} {cells : List Int} (hb : BagAt H a c x0 x1 x2 cells) (h : DpAll K H ws ds) (p : prs ds = true) :
    Own K (hid a c H) [] (.g a c x0 x1 x2 cells :: (ds.map B.d ++ List.replicate (N.length - (ds.length + 1)) .u)) (L2.start N (.ref a :: ws)) H := by
  refine ⟨hid_same, [a, c] ++ [], ?_, ?_, fun f m => by cases m⟩
  · have l := dps_len h
    have e : L2.start N (.ref a :: ws) = some (.ref a) :: (ws.map some ++ List.replicate (N.length - (ds.length + 1)) none) := by
      unfold L2.start
      rw [List.map_cons, List.length_cons, l]
      rfl
    rw [e]
    exact .cons ⟨rfl, hb.1, rfl, hid_a, hid_c, hb.2.1, hb.2.2⟩ (ownL_ds _ h p)
  · rw [List.append_nil]
    exact List.nodup_cons.mpr ⟨by simpa using hb.1, by simp⟩

/-! ### expressions that draw -/
/-- what te gives where the bag in slot i may be written: at most n draws -/
def EvM (K : Fg) (H0 : Hp) (F : List FE) (i : Nat) (T : Nat) (a c : Addr) (cells : List Int) (G : List B) (te : TE) (n : Nat) (R : PyData → Prop) : Prop := ∀ σ H, Own K H0 F G σ H → ∀ Q : VK, (∀ v x H', R x → pr x = true → Own K H0 F (G.set i (.bg (T + n) a c cells)) σ H' → Kt H H' → Dp K H' v x → Q v H') → te σ H Q
def EvMA (K : Fg) (H0 : Hp) (F : List FE) (i : Nat) (T : Nat) (a c : Addr) (cells : List Int) (G : List B) (ta : TA) (n : Nat) (R : List PyData → Prop) : Prop := ∀ σ H, Own K H0 F G σ H → ∀ Q : List V → Hp → Prop, (∀ vs xs H', R xs → prs xs = true → Own K H0 F (G.set i (.bg (T + n) a c cells)) σ H' → Kt H H' → DpAll K H' vs xs → Q vs H') → ta σ H Q
def EvML (K : Fg) (H0 : Hp) (F : List FE) (i : Nat) (T : Nat) (a c : Addr) (cells : List Int) (G : List B) (te : TE) (n : Nat) (R : List PyData → Prop) : Prop := ∀ σ H, Own K H0 F G σ H → ∀ Q : VK, (∀ p us xs H1 H', R xs → prs xs = true → Own K H0 F (G.set i (.bg (T + n) a c cells)) σ H1 → H1 p = none → Same H1 H' → Kt H H' → H' p = some (.lst us) → DpAll K H' us xs → Q (.ref p) H') → te σ H Q
section
variable {K : Fg} {H0 : Hp} {F : List FE} {G : List B} {i j T n m : Nat} {a c : Addr} {cells : List Int} {ta tb te : TE} {tr : TA} {R R2 : PyData → Prop}
theorem em_imp (h : EvM K H0 F i T a c cells G te n R) (hR : ∀ x, R x → R2 x) : EvM K H0 F i T a c cells G te n R2 := fun σ H o Q q => h σ H o Q fun v x H' r p o' k d => q v x H' (hR x r) p o' k d
theorem em_pure {x : PyData} (e : G[i]? = some (.bg T a c cells)) (h : EvE K H0 F G te x) (p : pr x = true) : EvM K H0 F i T a c cells G te 0 (fun y => y = x) := fun σ H o Q q => h σ H o Q fun v H1 e1 d1 => by
  have o1 := o.mono e1
  have eg : G.set i (.bg (T + 0) a c cells) = G := by
    apply List.ext_getElem?
    intro k
    rw [List.getElem?_set]
    split
    · rename_i h
      subst h
      have hl := (List.getElem?_eq_some_iff.mp e).1
      rw [if_pos hl, e]; rfl
    · rfl
  exact q v x H1 rfl p (by rw [eg]; exact o1) (same_kt e1) d1
theorem ema_nil (e : G[i]? = some (.bg T a c cells)) : EvMA K H0 F i T a c cells G tNil 0 (fun y => y = []) := fun σ H o Q q => by
  have eg : G.set i (.bg (T + 0) a c cells) = G := by
    apply List.ext_getElem?
    intro k
    rw [List.getElem?_set]
    split
    · rename_i h
      subst h
      have hl := (List.getElem?_eq_some_iff.mp e).1
      rw [if_pos hl, e]; rfl
    · rfl
  exact q [] [] H rfl rfl (by rw [eg]; exact o) (fun _ _ h => h) .nil
theorem ema_cons {S : PyData → List PyData → Prop} (h : EvM K H0 F i T a c cells G ta n R) (hr : ∀ x, R x → EvMA K H0 F i (T + n) a c cells (G.set i (.bg (T + n) a c cells)) tr m (S x)) : EvMA K H0 F i T a c cells G (tCons ta tr) (n + m) (fun ys => ∃ x xs, ys = x :: xs ∧ R x ∧ S x xs) := fun σ H o Q q =>
  h σ H o _ fun v x H1 r p o1 k1 d1 => hr x r σ H1 o1 _ fun vs xs H2 r2 p2 o2 k2 d2 => by
    rw [set_twice, Nat.add_assoc] at o2
    exact q _ (x :: xs) H2 ⟨x, xs, rfl, r, r2⟩ (prs_cons p p2) o2 (k1.trans k2) (.cons (dp_kt k2 _ _ p d1) d2)
/-- a def without the bag, of drawn arguments -/
theorem em_call {α : Type} {enc : α → List PyData} {pre : α → Prop} {res : α → PyData} {E : XK} {S : List PyData → Prop} (h : EvMA K H0 F i T a c cells G tr n S) (hs : ∀ xs, S xs → ∃ al, xs = enc al ∧ pre al ∧ pr (res al) = true ∧ R (res al)) : EvM K H0 F i T a c cells G (tCall (spT K enc pre res) [] E tr) n R := fun σ H o Q q =>
  h σ H o _ fun vs xs H1 r p o1 k1 d1 => by
    obtain ⟨al, rfl, hp, hp2, hR⟩ := hs xs r
    rw [List.append_nil]
    exact ⟨al, d1, hp, fun v H2 e2 d2 => q v (res al) H2 hR hp2 (o1.mono e2) (k1.trans (same_kt e2)) d2⟩
/-- a def with the bag -/
theorem em_bag {α : Type} {enc : α → List PyData} {pre : α → Prop} {S : α → PyData → Prop} {E : XK} {ta : TA} (al : α) (e : G[i]? = some (.bg T a c cells)) (h : EvA K H0 F G ta (enc al)) (hp : pre al) (hT : T + n ≤ 100000) : EvM K H0 F i T a c cells G (tCall (spM K enc pre n S) [] E (tCons (tVar i) ta)) n (S al) := fun σ H o Q q => by
  obtain ⟨x0, x1, x2, ok, o'⟩ := o.openB e
  obtain ⟨s, k1, k2, k3⟩ := o'.atB (get_set e)
  refine ⟨_, s, h σ H o _ fun ws H1 e1 d1 => ?_⟩
  show spM K enc pre n S ((.ref a :: ws) ++ []) H1 Q E
  rw [List.append_nil]
  have o1 := o'.mono e1
  obtain ⟨s1, _, _, b1⟩ := o1.atB (get_set e)
  refine ⟨al, a, c, T, x0, x1, x2, cells, ws, rfl, d1, hp, hT, ok, b1, fun v H' y y0 y1 y2 r p ok' b' of d => ?_⟩
  have o2 := o1.chg (b := .bg (T + n) a c cells) (get_set e) of fun s as hs ha h1 h2 hn => own_bg hs as ha h1 h2 hn b' ok'
  rw [set_twice] at o2
  exact q v y H' r p o2 ((same_kt e1).trans (off_kt of b1.2.1)) d
theorem em_bagL {α : Type} {enc : α → List PyData} {pre : α → Prop} {S : α → List PyData → Prop} {E : XK} {ta : TA} (al : α) (e : G[i]? = some (.bg T a c cells)) (h : EvA K H0 F G ta (enc al)) (hp : pre al) (hT : T + n ≤ 100000) : EvML K H0 F i T a c cells G (tCall (spML K enc pre n S) [] E (tCons (tVar i) ta)) n (S al) := fun σ H o Q q => by
  obtain ⟨x0, x1, x2, ok, o'⟩ := o.openB e
  obtain ⟨s, k1, k2, k3⟩ := o'.atB (get_set e)
  refine ⟨_, s, h σ H o _ fun ws H1 e1 d1 => ?_⟩
  show spML K enc pre n S ((.ref a :: ws) ++ []) H1 Q E
  rw [List.append_nil]
  have o1 := o'.mono e1
  obtain ⟨s1, _, _, b1⟩ := o1.atB (get_set e)
  refine ⟨al, a, c, T, x0, x1, x2, cells, ws, rfl, d1, hp, hT, ok, b1, fun p us H' ys y0 y1 y2 r pp ok' b' of hp0 hl d => ?_⟩
  -- the state ahead of the new list: H' without it
  have hne : p ≠ a := fun z => by rw [z, b1.2.1] at hp0; cases hp0
  have of2 : Off a H1 (fun b => if b = p then none else H' b) := fun b o hb eb => by
    have hbp : b ≠ p := fun z => by rw [z, hp0] at eb; cases eb
    show (if b = p then none else H' b) = some o
    rw [if_neg hbp]
    exact of b o hb eb
  have hnc : c ≠ p := fun z => by have := b1.2.2; rw [z, hp0] at this; cases this
  have b2 : BagAt (fun b => if b = p then none else H' b) a c y0 y1 y2 cells := ⟨b'.1, by show (if a = p then none else H' a) = _; rw [if_neg (fun z => hne z.symm)]; exact b'.2.1, by show (if c = p then none else H' c) = _; rw [if_neg hnc]; exact b'.2.2⟩
  have o2 := o1.chg (b := .bg (T + n) a c cells) (get_set e) of2 fun s as hs ha h1 h2 hn => own_bg hs as ha h1 h2 hn b2 ok'
  rw [set_twice] at o2
  exact q p us ys _ H' r pp o2 (if_pos rfl) (fun b o hb => by
    have hb' : (if b = p then none else H' b) = some o := hb
    split at hb'
    · cases hb'
    · exact hb') ((same_kt e1).trans (off_kt of b1.2.1)) hl d
theorem em_sub {k : Int} {S : Int → Prop} (h : EvM K H0 F i T a c cells G ta n fun x => ∃ z, x = .int z ∧ S z) (hb : ∀ G', EvE K H0 F G' tb (.int k)) : EvM K H0 F i T a c cells G (tOp rSubI ta tb) n fun x => ∃ z, x = .int (z - k) ∧ S z := fun σ H o Q q =>
  h σ H o _ fun v x H1 r p o1 k1 d1 => by
    obtain ⟨z, rfl, hz⟩ := r
    refine hb _ σ H1 o1 _ fun w H2 e2 d2 => ?_
    cases d1; cases d2
    exact ⟨z, k, rfl, rfl, q _ (.int (z - k)) H2 ⟨z, rfl, hz⟩ rfl (o1.mono e2) (k1.trans (same_kt e2)) (.int _)⟩
theorem em_addc {k : Int} {S : Int → Prop} (ha : EvE K H0 F G ta (.int k)) (h : EvM K H0 F i T a c cells G tb n fun x => ∃ z, x = .int z ∧ S z) : EvM K H0 F i T a c cells G (tOp (rAddAny K) ta tb) n fun x => ∃ z, x = .int (k + z) ∧ S z := fun σ H o Q q =>
  ha σ H o _ fun v H1 e1 d1 => h σ H1 (o.mono e1) _ fun w x H2 r p o2 k2 d2 => by
    obtain ⟨z, rfl, hz⟩ := r
    cases d1; cases d2
    exact .inl ⟨k, z, rfl, rfl, q _ (.int (k + z)) H2 ⟨z, rfl, hz⟩ rfl o2 ((same_kt e1).trans k2) (.int _)⟩
theorem em_tup {S : List PyData → Prop} (h : EvMA K H0 F i T a c cells G tr n S) (hl : ∀ xs, S xs → xs.length ≤ 100) : EvM K H0 F i T a c cells G (tTup tr) n fun x => ∃ xs, x = .tuple xs ∧ S xs := fun σ H o Q q =>
  h σ H o _ fun vs xs H1 r p o1 k1 d1 => ⟨by rw [dps_len d1]; exact Nat.le_trans (hl xs r) (by decide : 100 ≤ sizeLine), fun l hp => by
    have en := same_new (o := .tup vs) hp
    exact q _ (.tuple xs) _ ⟨xs, rfl, r⟩ (by simp only [pr]; exact p) (o1.mono en) (k1.trans (same_kt en)) (dp_new hp d1)⟩

/-! ### statements that draw -/
variable {D : Ends} {t u : TS} {E : XK}
theorem qm_set (h : EvM K H0 F i T a c cells G te n R) (k : ∀ x, R x → pr x = true → Goes K H0 F u D ((G.set i (.bg (T + n) a c cells)).set j (.d x))) : Goes K H0 F (tSeq (tAsg te (gName j)) u) D G := fun σ H o =>
  h σ H o _ fun v x H1 r p o1 k1 d1 => k x r p _ _ (o1.setD j p d1)
theorem Own.thaw {p : Addr} {us : List V} {xs : List PyData} {σ : St} {H : Hp} (h : Own K H0 (⟨p, true, us, xs⟩ :: F) G σ H) (h0 : H0 p = none) (hf : ∀ f ∈ F, f.isL = true → f.a ≠ p) (j : Nat) : Own K H0 F (G.set j (.l xs)) (σ.set j (some (.ref p))) H := by
  obtain ⟨h1, as, h2, h3, h4⟩ := h
  obtain ⟨⟨f1, f2, f3⟩, f4⟩ := h4 _ (List.mem_cons_self ..)
  have f1' : H p = some (.lst us) := f1
  have na : p ∉ as := f4 rfl
  obtain ⟨as', o', m', n'⟩ := h2.set j (b := .l xs) (s := some (.ref p)) (bs := [p]) ⟨f2, p, us, rfl, rfl, h0, f1', f3⟩
  refine ⟨h1, as', o', n' h3 (List.nodup_cons.mpr ⟨by simp, List.nodup_nil⟩) (fun a m => by rw [List.mem_singleton.mp m]; exact na), fun f m => ?_⟩
  obtain ⟨g1, g2⟩ := h4 f (List.mem_cons_of_mem _ m)
  refine ⟨g1, fun z w => ?_⟩
  rcases m' _ w with w | w
  · exact g2 z w
  · exact hf f m z (List.mem_singleton.mp w)
/-- two at once: a new list, a datum, both drawn -/
theorem qm_parL {S : List PyData → Prop} {k : Nat} (h : EvML K H0 F i T a c cells G ta n S) (h2 : ∀ F', EvM K H0 F' i (T + n) a c cells (G.set i (.bg (T + n) a c cells)) tb m R)
    (g : ∀ xs x, S xs → prs xs = true → R x → pr x = true → Goes K H0 F u D (((G.set i (.bg (T + n + m) a c cells)).set j (.l xs)).set k (.d x))) : Goes K H0 F (tSeq (tPar j k (tCons ta (tCons tb tNil))) u) D G := fun σ H o =>
  h σ H o _ fun p us xs H1 H2 r pp o1 hp e12 k1 hl d1 => by
    have o2 : Own K H0 ([⟨p, true, us, xs⟩] ++ F) _ σ H2 := o1.more e12 fun f m => by
      obtain rfl := List.mem_singleton.mp m
      exact ⟨⟨hl, pp, d1⟩, fun _ => hp⟩
    have h0 : H0 p = none := o1.same.free hp
    have hf : ∀ f ∈ F, f.isL = true → f.a ≠ p := fun f m z w => by
      obtain ⟨_, as, _, _, h4⟩ := o1
      have q := (h4 f m).1.1
      unfold FE.at at q
      rw [if_pos z, w, hp] at q
      cases q
    refine h2 _ σ H2 o2 _ fun w x H3 r3 p3 o3 k3 d3 => ⟨_, _, rfl, ?_⟩
    rw [set_twice] at o3
    exact g xs x r pp r3 p3 _ _ ((Own.thaw (F := F) o3 h0 hf j).setD k p3 d3)
/-- a def of a new list that is drawn, the outcome stored -/
theorem qm_setCallL {S : List PyData → Prop} {α : Type} {enc : α → List PyData} {pre : α → Prop} {res : α → PyData} (h : EvML K H0 F i T a c cells G ta n S) (hs : ∀ xs, S xs → prs xs = true → ∃ al, [PyData.list xs] = enc al ∧ pre al ∧ pr (res al) = true ∧ Goes K H0 F u D ((G.set i (.bg (T + n) a c cells)).set j (.d (res al)))) :
    Goes K H0 F (tSeq (tAsg (tCall (spT K enc pre res) [] E (tCons ta tNil)) (gName j)) u) D G := fun σ H o =>
  h σ H o _ fun p us xs H1 H2 r pp o1 hp e12 k1 hl d1 => by
    obtain ⟨al, e, hp', hr, k⟩ := hs xs r pp
    refine ⟨al, ?_, hp', fun v H3 e3 d3 => k _ _ (((o1.mono e12).mono e3).setD j hr d3)⟩
    rw [← e]
    exact .cons (.lst (SqL.of hl) d1) .nil
/-- x is put to a list in a slot, x drawn -/
theorem gm_app {xs : List PyData} (hx : (G.set i (.bg (T + n) a c cells))[j]? = some (.l xs)) (hx0 : G[j]? = some (.l xs)) (h : EvM K H0 F i T a c cells G te n R) (hl : xs.length < 100000) (k : ∀ x, R x → pr x = true → Aft K H0 F D.nx ((G.set i (.bg (T + n) a c cells)).set j (.l (xs ++ [x])))) :
    Goes K H0 F (tDrop (tBM K "list" rAppend (tVar j) (tCons te tNil))) D G := fun σ H o => by
  obtain ⟨_, a0, vs0, s0, _, l0, _⟩ := o.l hx0
  refine ⟨_, s0, .inl ⟨rfl, vs0, SqL.of l0⟩, h σ H o _ fun v x H1 r p o1 k1 d1 => ?_⟩
  obtain ⟨a', vs, s2, q0, q1, q2, ps, wr⟩ := o1.wr hx
  obtain rfl : a0 = a' := by rw [s0] at s2; cases s2; rfl
  exact ⟨a0, vs, v, rfl, rfl, q1, by rw [dps_len q2]; exact Nat.lt_of_lt_of_le hl (by decide : 100000 ≤ sizeLine), k x r p _ _ (wr _ _ (prs_append ps (prs_cons p rfl)) (dps_append q2 (.cons d1 .nil)))⟩
/-- for .. in range(..), the bound drawn -/
theorem gm_for1 {g : TG} {S : Int → Prop} (h : EvM K H0 F i T a c cells G te n fun x => ∃ z, x = .int z ∧ S z) (k : ∀ z, S z → Goes K H0 F (tFor (iRng1 (tCons (tC (.int z)) tNil)) g t) D (G.set i (.bg (T + n) a c cells))) : Goes K H0 F (tFor (iRng1 (tCons te tNil)) g t) D G := fun σ H o =>
  h σ H o _ fun v x H1 r p o1 k1 d1 => by
    obtain ⟨z, rfl, hz⟩ := r
    cases d1
    exact k z hz σ H1 o1
theorem qm_for1 {g : TG} {S : Int → Prop} (h : EvM K H0 F i T a c cells G te n fun x => ∃ z, x = .int z ∧ S z) (k : ∀ z, S z → Goes K H0 F (tSeq (tFor (iRng1 (tCons (tC (.int z)) tNil)) g t) u) D (G.set i (.bg (T + n) a c cells))) : Goes K H0 F (tSeq (tFor (iRng1 (tCons te tNil)) g t) u) D G :=
  gm_for1 (D := { D with nx := u D }) h k
end
/-! ### the defs with a bag -/
section
variable {K : Fg} {H0 : Hp} {F : List FE} {G : List B} {σ : St} {H : Hp} {as : List Addr}
theorem OwnL.two {i j : Nat} {b b' : B} (h : OwnL K H0 H G σ as) (nd : as.Nodup) (e : G[i]? = some b) (e' : G[j]? = some b') (hij : i ≠ j) : ∃ s bs s' bs', σ[i]? = some s ∧ OwnS K H0 H b s bs ∧ σ[j]? = some s' ∧ OwnS K H0 H b' s' bs' ∧ ∀ x ∈ bs, x ∉ bs' := by
  induction h generalizing i j with
  | nil => simp at e
  | @cons b0 s0 as0 bs0 G σ h1 h2 ih =>
    rw [List.nodup_append] at nd
    cases i with
    | zero =>
      cases j with
      | zero => exact absurd rfl hij
      | succ j =>
        simp at e; subst e
        obtain ⟨s', bs', k1, k2, k3⟩ := h2.get (i := j) (b := b') (by simpa using e')
        exact ⟨s0, as0, s', bs', rfl, h1, by simpa using k1, k2, fun x hx hx' => nd.2.2 x hx x (k3 x hx') rfl⟩
    | succ i =>
      cases j with
      | zero =>
        simp at e'; subst e'
        obtain ⟨s, bs, k1, k2, k3⟩ := h2.get (i := i) (b := b) (by simpa using e)
        exact ⟨s, bs, s0, as0, by simpa using k1, k2, rfl, h1, fun x hx hx' => nd.2.2 x hx' x (k3 x hx) rfl⟩
      | succ j =>
        obtain ⟨s, bs, s', bs', k1, k2, k3, k4, k5⟩ := ih nd.2.1 (i := i) (j := j) (by simpa using e) (by simpa using e') (by omega)
        exact ⟨s, bs, s', bs', by simpa using k1, k2, by simpa using k3, k4, k5⟩
def RtM (K : Fg) (H0 : Hp) (a c : Addr) (cells : List Int) (T : Nat) (D : Ends) (R : PyData → Prop) : Prop := ∀ F G σ v H' y, G[0]? = some (.bg T a c cells) → Own K H0 F G σ H' → R y → pr y = true → Dp K H' v y → D.rt v H'
def RtML (K : Fg) (H0 : Hp) (a c : Addr) (cells : List Int) (T : Nat) (D : Ends) (R : List PyData → Prop) : Prop := ∀ F G σ j H' p us ys, G[0]? = some (.bg T a c cells) → Own K H0 F G σ H' → 0 ≠ j → G[j]? = some (.l ys) → σ[j]? = some (some (.ref p)) → H' p = some (.lst us) → DpAll K H' us ys → R ys → D.rt (.ref p) H'
theorem g_retM {T n : Nat} {a c : Addr} {cells : List Int} {te : TE} {D : Ends} {R : PyData → Prop} (e : G[0]? = some (.bg T a c cells)) (h : EvM K H0 F 0 T a c cells G te n R) (k : RtM K H0 a c cells (T + n) D R) : Goes K H0 F (tRet te) D G := fun σ H o =>
  h σ H o _ fun v x H1 r p o1 k1 d1 => k _ _ _ v H1 x (get_set e) o1 r p d1
theorem g_retMv {T : Nat} {a c : Addr} {cells : List Int} {D : Ends} {R : List PyData → Prop} {j : Nat} {ys : List PyData} (e : G[0]? = some (.bg T a c cells)) (hj : 0 ≠ j) (e2 : G[j]? = some (.l ys)) (r : R ys) (k : RtML K H0 a c cells T D R) : Goes K H0 F (tRet (tVar j)) D G := fun σ H o => by
  obtain ⟨_, p, vs, s, h0, l, d⟩ := o.l e2
  exact ⟨_, s, k _ _ _ j H p vs ys e o hj e2 s l d r⟩
theorem q_ifX {c : TT} {t u : TS} {D : Ends} {b : Bool} (P : List B → Prop) (h : EvT K H0 F G c b) (h1 : b = true → ∀ D' : Ends, (∀ G', P G' → Aft K H0 F D'.nx G') → Goes K H0 F t D' G) (h2 : b = false → P G) (rest : ∀ G', P G' → Goes K H0 F u D G') : Goes K H0 F (tSeq (tIfS c t tNext) u) D G :=
  g_seq (g_if h (fun e => h1 e _ rest) fun e => g_next (rest G (h2 e)))
theorem q_setG {te ti : TE} {u : TS} {D : Ends} {i : Nat} {a c : Addr} {x0 x1 x2 y y0 y1 y2 : Int} {cells : List Int} {k : Nat} (e : G[i]? = some (.g a c x0 x1 x2 cells)) (h : EvE K H0 F G te (.int y)) (hi : EvE K H0 F G ti (.int (k : Nat))) (hk : k < 3) (hs : [x0, x1, x2].set k y = [y0, y1, y2]) (n : Goes K H0 F u D (G.set i (.g a c y0 y1 y2 cells))) :
    Goes K H0 F (tSeq (tAsg te (gSub (tVar i) ti rSetL)) u) D G := g_seq (g_setG e h hi hk hs n)
theorem q_augG {te ti : TE} {u : TS} {D : Ends} {f : Int → Int → Int} {i : Nat} {a c : Addr} {x0 x1 x2 y z y0 y1 y2 : Int} {cells : List Int} {k : Nat} (e : G[i]? = some (.g a c x0 x1 x2 cells)) (hi : EvE K H0 F G ti (.int (k : Nat))) (hk : k < 3) (hz : [x0, x1, x2][k]? = some z) (h : EvE K H0 F G te (.int y)) (hs : [x0, x1, x2].set k (f z y) = [y0, y1, y2]) (n : Goes K H0 F u D (G.set i (.g a c y0 y1 y2 cells))) :
    Goes K H0 F (tSeq (tAugS (tVar i) ti te (rGetL K) (ipI f) rSetL) u) D G := g_seq (g_augG e hi hk hz h hs n)
theorem g_close {t : TS} {D : Ends} {i : Nat} {a c : Addr} {x0 x1 x2 : Int} {cells : List Int} {T : Nat} (e : G[i]? = some (.g a c x0 x1 x2 cells)) (ok : BagOk T x0 x1 x2 cells) (h : Goes K H0 F t D (G.set i (.bg T a c cells))) : Goes K H0 F t D G := fun σ H o => h σ H (o.closeB e ok)
theorem g_moreB {t : TS} {D : Ends} {i : Nat} {a c : Addr} {cells : List Int} {T T' : Nat} (e : G[i]? = some (.bg T a c cells)) (ok : T ≤ T') (h : Goes K H0 F t D (G.set i (.bg T' a c cells))) : Goes K H0 F t D G := fun σ H o => h σ H (o.moreB e ok)
theorem g_as {t : TS} {D : Ends} {G' : List B} (e : G = G') (h : Goes K H0 F t D G') : Goes K H0 F t D G := fun σ H o => h σ H (e ▸ o)
theorem aft_moreB {n : St → Hp → Prop} {i : Nat} {a c : Addr} {cells : List Int} {T T' : Nat} (e : G[i]? = some (.bg T a c cells)) (ok : T ≤ T') (h : Aft K H0 F n (G.set i (.bg T' a c cells))) : Aft K H0 F n G := fun σ H o => h σ H (o.moreB e ok)
theorem q_forOwn {g : TG} {t u : TS} {D : Ends} {ds : List PyData} {i : Nat} (vs : List Nat) (hx : G[i]? = some (.l ds)) (I : Nat → List B) (h0 : LeG (G.set i .u) (I 0))
    (turn : ∀ (F1 : List FE) (i : Nat) (d : PyData), ds[i]? = some d → ∃ G1, TgE K H0 F1 g (I i) d G1 vs ∧ Goes K H0 F1 t { D with nx := Own K H0 F1 (I (i + 1)), ct := Own K H0 F1 (I (i + 1)), bk := u D } G1)
    (hd : Goes K H0 F u D (I ds.length)) : Goes K H0 F (tSeq (tFor (iList K (tVar i)) g t) u) D G := g_seq (g_forOwn vs hx I h0 turn hd)
/-- a for loop whose state is not told by the turn's number alone -/
theorem q_forX {wi : TI} {g : TG} {t u : TS} {D : Ends} {ds : List PyData} (vs : List Nat) (hi : EvI K H0 F G wi ds) (I : Nat → List B → Prop) (h0 : I 0 G)
    (turn : ∀ (F1 : List FE) (i : Nat) (d : PyData) (G' : List B), ds[i]? = some d → I i G' → ∃ G1, TgE K H0 F1 g G' d G1 vs ∧ ∀ D' : Ends, (∀ G'', I (i + 1) G'' → Aft K H0 F1 D'.nx G'') → Goes K H0 F1 t D' G1)
    (hd : ∀ G', I ds.length G' → Goes K H0 F u D G') : Goes K H0 F (tSeq (tFor wi g t) u) D G := fun σ H o => hi σ H o _ fun J H1 F1 e1 hf w => by
  have o1 : Own K H0 (F1 ++ F) G σ H1 := o.more e1 hf
  refine ⟨fun i m σ H => m = ds.length - i ∧ i ≤ ds.length ∧ ∃ G', I i G' ∧ Own K H0 (F1 ++ F) G' σ H, ⟨_, rfl, Nat.zero_le _, G, h0, o1⟩, ?_⟩
  rintro i m σ H ⟨rfl, hi, G', hI, o⟩
  by_cases hlt : i < ds.length
  · refine .inr ⟨w.goes i H hlt o.same o.fe, fun σ' H' => ∃ G', I (i + 1) G' ∧ Own K H0 (F1 ++ F) G' σ' H', fun σ' H' o' => ⟨_, by omega, rfl, hlt, o'⟩, fun x H' y => ?_⟩
    obtain ⟨e, d, hd, hx⟩ := w.yields i H x H' hlt o.same o.fe y
    obtain ⟨G1, tg, bd⟩ := turn (F1 ++ F) i d G' hd hI
    exact tg x σ H' (o.mono e) hx _ fun σ2 H2 _ o2 _ => bd { D with nx := fun σ' H' => ∃ G', I (i + 1) G' ∧ Own K H0 (F1 ++ F) G' σ' H', ct := fun σ' H' => ∃ G', I (i + 1) G' ∧ Own K H0 (F1 ++ F) G' σ' H', bk := u D } (fun G'' hI' σ3 H3 o3 => ⟨G'', hI', o3⟩) σ2 H2 o2
  · have e : i = ds.length := by omega
    subst e
    exact .inl ⟨w.stops H o.same o.fe, hd G' hI σ H o.less⟩
/-- what is returned where the bag stands open -/
theorem g_retG {te : TE} {D : Ends} {x : PyData} {a c : Addr} {x0 x1 x2 : Int} {cells : List Int} {T : Nat} {R : PyData → Prop} (e : G[0]? = some (.g a c x0 x1 x2 cells)) (ok : BagOk T x0 x1 x2 cells) (h : EvE K H0 F G te x) (p : pr x = true) (r : R x) (k : RtM K H0 a c cells T D R) : Goes K H0 F (tRet te) D G := fun σ H o =>
  h σ H o _ fun v H1 e1 d1 => k F _ σ v H1 x (get_set e) ((o.mono e1).closeB e ok) r p d1
/-- a bag that is made here goes to a slot -/
def spBag (K : Fg) (enc : List Int → List PyData) : Sp := fun vs H Q _ => ∃ ns, DpAll K H vs (enc ns) ∧ ns.length ≤ 1000 ∧ ∀ a c x0 x1 x2 cells H', H a = none → H c = none → Same H H' → BagOk 0 x0 x1 x2 cells → BagAt H' a c x0 x1 x2 cells → Q (.ref a) H'
theorem q_setBag {ta : TA} {u : TS} {D : Ends} {i : Nat} {enc : List Int → List PyData} {E : XK} (ns : List Int) (h : EvA K H0 F G ta (enc ns)) (hl : ns.length ≤ 1000) (k : ∀ a c cells, Goes K H0 F u D (G.set i (.bg 0 a c cells))) : Goes K H0 F (tSeq (tAsg (tCall (spBag K enc) [] E ta) (gName i)) u) D G := fun σ H o => by
  refine h σ H o _ fun vs H1 e1 d1 => ?_
  rw [List.append_nil]
  refine ⟨ns, d1, hl, fun a c x0 x1 x2 cells H' ha hc e ok b => k a c cells _ _ ?_⟩
  have o1 := (o.mono e1).mono e
  obtain ⟨s0, as0, h20, h30, h40⟩ := o.mono e1
  have h0 : ∀ p, H1 p = none → H0 p = none := fun p hp => s0.free hp
  have na : ∀ p, H1 p = none → p ∉ as0 := fun p hp m => by
    obtain ⟨_, ws, z⟩ := h20.there p m
    rw [hp] at z; cases z
  have h2 := h20.same e
  obtain ⟨as', o', m', n'⟩ := h2.set i (b := .bg 0 a c cells) (s := some (.ref a)) (bs := [a, c]) ⟨x0, x1, x2, rfl, b.1, rfl, h0 a ha, h0 c hc, b.2.1, b.2.2, ok⟩
  refine ⟨o1.same, as', o', n' h30 (List.nodup_cons.mpr ⟨by simpa using b.1, by simp⟩) (fun p m => ?_), fun f m => ?_⟩
  · rcases List.mem_cons.mp m with rfl | m
    · exact na _ ha
    · rw [List.mem_singleton.mp m]; exact na _ hc
  · obtain ⟨f1, f2⟩ := h40 f m
    refine ⟨f1.same e, fun z w => ?_⟩
    have q := f1.1
    unfold FE.at at q
    rw [if_pos z] at q
    rcases m' _ w with w | w
    · exact f2 z w
    · rcases List.mem_cons.mp w with w | w
      · rw [w, ha] at q; cases q
      · rw [List.mem_singleton.mp w, hc] at q; cases q
end
section
variable {P : Program} {w : World} {K : Fg} {mg : Str → Option Value} {base : Heap}
theorem def_okM {α : Type} {enc : α → List PyData} {pre : α → Prop} {n : Nat} {R : α → PyData → Prop} {x : Str} {st : Stmt} {N ps : List Str} {k : Nat} (F : Dfn K mg x st) (S : FnScope N ps (defScope st)) (hb : bindsHyp x st ps) (hl : ∀ a, (enc a).length + 1 = ps.length) (hp : ∀ a, prs (enc a) = true)
    (body : ∀ (cdv : Value) (f : Addr) (A : Around) (outer : List Env) (s : Shared) (H : Hp) (E : XK), Room k (A.deeper (envOfC x (defScope st) s.heap.objs.size f cdv)) → ∀ (al : α) (a c : Addr) (T : Nat) (x0 x1 x2 : Int) (cells : List Int), pre al → T + n ≤ 100000 → BagOk T x0 x1 x2 cells →
      ∃ t, PSs (cxOf CX0 P w K mg base N x (defScope st) f cdv A outer s H E).nox (defBody st) t ∧ ∀ D : Ends, RtM K (hid a c H) a c cells (T + n) D (R al) → Goes K (hid a c H) [] t D (.g a c x0 x1 x2 cells :: ((enc al).map B.d ++ List.replicate (N.length - ps.length) .u))) :
    Cal P w K mg base x ps (k + 1) (spM K enc pre n R) := by
  obtain ⟨f, fd, hm, F⟩ := F
  refine ⟨f, fd, hm, F.kp, F.binds hb, F.ok S (fun vs H Q E h => ?_) fun cdv A outer s H vs Q E hr h => ?_⟩
  · obtain ⟨al, a, c, T, x0, x1, x2, cells, ws, rfl, h, _⟩ := h
    rw [List.length_cons, dps_len h, hl]
  · obtain ⟨al, a, c, T, x0, x1, x2, cells, ws, rfl, h, hpre, hT, ok, hb, q⟩ := h
    obtain ⟨t, h1, h2⟩ := body cdv f A outer s H E hr al a c T x0 x1 x2 cells hpre hT ok
    refine ⟨t, h1, h2 _ (fun F G σ v H' y e o r p d => ?_) _ _ ?_⟩
    · obtain ⟨y0, y1, y2, ok', o'⟩ := o.openB e
      obtain ⟨_, _, _, b'⟩ := o'.atB (get_set e)
      exact q v H' y y0 y1 y2 r p ok' b' (hid_off hb b' o.same) d
    · rw [← hl al]
      exact own_entryB hb h (hp al)
theorem def_okML {α : Type} {enc : α → List PyData} {pre : α → Prop} {n : Nat} {R : α → List PyData → Prop} {x : Str} {st : Stmt} {N ps : List Str} {k : Nat} (F : Dfn K mg x st) (S : FnScope N ps (defScope st)) (hb : bindsHyp x st ps) (hl : ∀ a, (enc a).length + 1 = ps.length) (hp : ∀ a, prs (enc a) = true)
    (body : ∀ (cdv : Value) (f : Addr) (A : Around) (outer : List Env) (s : Shared) (H : Hp) (E : XK), Room k (A.deeper (envOfC x (defScope st) s.heap.objs.size f cdv)) → ∀ (al : α) (a c : Addr) (T : Nat) (x0 x1 x2 : Int) (cells : List Int), pre al → T + n ≤ 100000 → BagOk T x0 x1 x2 cells →
      ∃ t, PSs (cxOf CX0 P w K mg base N x (defScope st) f cdv A outer s H E).nox (defBody st) t ∧ ∀ D : Ends, RtML K (hid a c H) a c cells (T + n) D (R al) → Goes K (hid a c H) [] t D (.g a c x0 x1 x2 cells :: ((enc al).map B.d ++ List.replicate (N.length - ps.length) .u))) :
    Cal P w K mg base x ps (k + 1) (spML K enc pre n R) := by
  obtain ⟨f, fd, hm, F⟩ := F
  refine ⟨f, fd, hm, F.kp, F.binds hb, F.ok S (fun vs H Q E h => ?_) fun cdv A outer s H vs Q E hr h => ?_⟩
  · obtain ⟨al, a, c, T, x0, x1, x2, cells, ws, rfl, h, _⟩ := h
    rw [List.length_cons, dps_len h, hl]
  · obtain ⟨al, a, c, T, x0, x1, x2, cells, ws, rfl, h, hpre, hT, ok, hb, q⟩ := h
    obtain ⟨t, h1, h2⟩ := body cdv f A outer s H E hr al a c T x0 x1 x2 cells hpre hT ok
    refine ⟨t, h1, h2 _ (fun F G σ j H' p us ys e o hj e2 hs hl d r => ?_) _ _ ?_⟩
    · obtain ⟨y0, y1, y2, ok', o'⟩ := o.openB e
      obtain ⟨_, _, _, b'⟩ := o'.atB (get_set e)
      obtain ⟨same, as, ol, nd, _⟩ := o
      obtain ⟨s0, bs, s1, bs', k1, k2, k3, k4, k5⟩ := ol.two nd e e2 hj
      obtain ⟨_, _, _, rfl, _⟩ := k2
      obtain ⟨pp, p', vs', rfl, rfl, h0, h1, h2⟩ := k4
      rw [hs] at k3
      have ep : p = p' := by cases k3; rfl
      subst ep
      have n1 : p ≠ a := fun z => k5 a (by simp) (by simp [z])
      have n2 : p ≠ c := fun z => k5 c (by simp) (by simp [z])
      have hp0 : H p = none := by
        have h0' : (if p = a ∨ p = c then none else H p) = none := h0
        rwa [if_neg (fun z => z.elim n1 n2)] at h0'
      exact q p us H' ys y0 y1 y2 r pp ok' b' (hid_off hb b' same) hp0 hl d
    · rw [← hl al]
      exact own_entryB hb h (hp al)
end
end Sw

/-! fractions as data, sizes -/
namespace Sw
open PySem PySem.Spec L2
abbrev encR (q : Rat) : PyData := .tuple [.int q.num, .int (q.den : Nat)]
abbrev encP (p : List Rat) : PyData := .tuple (p.map encR)
abbrev encQ (q : List Rat × List Rat) : PyData := .tuple [encP q.1, encP q.2]
theorem pr_encR (q : Rat) : pr (encR q) = true := rfl
theorem prs_encR (p : List Rat) : prs (p.map encR) = true := prs_of fun x m => by
  obtain ⟨q, _, rfl⟩ := List.mem_map.mp m
  rfl
theorem pr_encP (p : List Rat) : pr (encP p) = true := by
  simp only [pr]
  exact prs_encR p
theorem pr_encQ (q : List Rat × List Rat) : pr (encQ q) = true := by
  have h1 := pr_encP q.1
  have h2 := pr_encP q.2
  simp only [pr, prs] at h1 h2 ⊢
  rw [h1, h2]
  rfl
/-! ### equality of such data -/
theorem sh_encR (q : Rat) : SeqAt.shaped (encR q) = true := rfl
theorem eqv_int (a b : Int) : PyData.eqv (.int a) (.int b) = decide (a = b) := by
  simp only [PyData.eqv]
  first | rfl | (by_cases h : a = b <;> simp [h])
theorem eqv_encR (a b : Rat) : PyData.eqv (encR a) (encR b) = decide (a = b) := by
  simp only [PyData.eqv, PyData.eqvAll]
  by_cases h : a = b
  · subst h
    simp
  · by_cases h1 : a.num = b.num
    · by_cases h2 : a.den = b.den
      · exact absurd (Rat.ext h1 h2) h
      · have : ¬ ((a.den : Int) = (b.den : Int)) := by omega
        simp [h, this]
    · simp [h, h1]
theorem eqvAll_map (a b : List Rat) : PyData.eqvAll (a.map encR) (b.map encR) = decide (a = b) := by
  induction a generalizing b with
  | nil => cases b <;> simp [PyData.eqvAll]
  | cons x a ih =>
    cases b with
    | nil => simp [PyData.eqvAll]
    | cons y b =>
      rw [List.map_cons, List.map_cons]
      simp only [PyData.eqvAll]
      rw [eqv_encR, ih]
      simp
theorem eqv_encP (a b : List Rat) : PyData.eqv (encP a) (encP b) = decide (a = b) := by
  simp only [PyData.eqv]
  exact eqvAll_map a b
theorem eqv_list (a b : List Rat) : PyData.eqv (.list (a.map encR)) (.list (b.map encR)) = decide (a = b) := by
  simp only [PyData.eqv]
  exact eqvAll_map a b

theorem eqv_encQ (a b : List Rat × List Rat) : PyData.eqv (encQ a) (encQ b) = decide (a = b) := by
  obtain ⟨a1, a2⟩ := a
  obtain ⟨b1, b2⟩ := b
  have h1 := eqv_encP a1 b1
  have h2 := eqv_encP a2 b2
  simp only [PyData.eqv, PyData.eqvAll] at h1 h2 ⊢
  rw [h1, h2]
  simp
/-! ### such data can be compared -/
theorem lay_all {n : Nat} : ∀ {xs : List PyData}, (∀ x ∈ xs, x.canLay0 = true ∧ x.depth ≤ n) → PyData.canLayAll0 xs = true ∧ PyData.depthAll xs ≤ n
  | [], _ => by simp [PyData.canLayAll0, PyData.depthAll]
  | x :: xs, h => by
    obtain ⟨h1, h2⟩ := h x (List.mem_cons_self ..)
    obtain ⟨h3, h4⟩ := lay_all (xs := xs) fun y m => h y (List.mem_cons_of_mem _ m)
    simp only [PyData.canLayAll0, PyData.depthAll, h1, h3, Bool.and_self, true_and]
    omega
theorem lay_tuple {n : Nat} {xs : List PyData} (h : ∀ x ∈ xs, x.canLay0 = true ∧ x.depth ≤ n) : (PyData.tuple xs).canLay0 = true ∧ (PyData.tuple xs).depth ≤ n + 1 := by
  obtain ⟨h1, h2⟩ := lay_all h
  simp only [PyData.canLay0, PyData.depth, h1, true_and]
  omega
theorem lay_list {n : Nat} {xs : List PyData} (h : ∀ x ∈ xs, x.canLay0 = true ∧ x.depth ≤ n) : (PyData.list xs).canLay0 = true ∧ (PyData.list xs).depth ≤ n + 1 := by
  obtain ⟨h1, h2⟩ := lay_all h
  simp only [PyData.canLay0, PyData.depth, h1, true_and]
  omega
theorem sh_of {x : PyData} {n : Nat} (h : x.canLay0 = true ∧ x.depth ≤ n) (k : n ≤ 64 := by omega) : SeqAt.shaped x = true := by
  unfold SeqAt.shaped
  rw [h.1, Bool.true_and]
  exact decide_eq_true (Nat.le_trans h.2 k)
theorem lay_encR (q : Rat) : (encR q).canLay0 = true ∧ (encR q).depth ≤ 2 := ⟨rfl, Nat.le_of_ble_eq_true rfl⟩
theorem lay_encRs (p : List Rat) : ∀ x ∈ p.map encR, x.canLay0 = true ∧ x.depth ≤ 2 := fun x m => by
  obtain ⟨q, _, rfl⟩ := List.mem_map.mp m
  exact lay_encR q
theorem lay_encP (p : List Rat) : (encP p).canLay0 = true ∧ (encP p).depth ≤ 3 := lay_tuple (lay_encRs p)
theorem lay_encQ (q : List Rat × List Rat) : (encQ q).canLay0 = true ∧ (encQ q).depth ≤ 4 := lay_tuple fun x m => by
  rcases List.mem_cons.mp m with rfl | m
  · exact lay_encP q.1
  · rw [List.mem_singleton.mp m]; exact lay_encP q.2
theorem sh_encP (p : List Rat) : SeqAt.shaped (encP p) = true := sh_of (lay_encP p)
theorem sh_encQ (q : List Rat × List Rat) : SeqAt.shaped (encQ q) = true := sh_of (lay_encQ q)
theorem sh_list (p : List Rat) : SeqAt.shaped (.list (p.map encR)) = true := sh_of (lay_list (lay_encRs p))

/-! ### sizes -/
theorem cast_ne {b : Int} (h : b ≠ 0) : (b : Rat) ≠ 0 := by
  intro e
  have := congrArg Rat.num e
  rw [Rat.num_intCast] at this
  exact h (by simpa using this)
@[irreducible] def SZ : Nat := 400000
theorem SZ_eq : SZ = 400000 := by unfold SZ; rfl
def Sm (q : Rat) : Prop := q.num.natAbs < 2 ^ SZ ∧ q.den < 2 ^ SZ
theorem two_le {a b : Nat} (h : a ≤ b) : 2 ^ a ≤ 2 ^ b := Nat.pow_le_pow_right (by decide) h
theorem lt_two {n a b : Nat} (h : n < 2 ^ a) (k : a ≤ b) : n < 2 ^ b := Nat.lt_of_lt_of_le h (two_le k)
theorem mul_two {m n a b : Nat} (h : m < 2 ^ a) (k : n < 2 ^ b) : m * n < 2 ^ (a + b) := by
  rw [Nat.pow_add]
  exact Nat.mul_lt_mul'' h k
theorem add_two {m n a : Nat} (h : m < 2 ^ a) (k : n < 2 ^ a) : m + n < 2 ^ (a + 1) := by
  rw [Nat.pow_succ]; omega
theorem cmul_of {i j : Int} {a b : Nat} (h : i.natAbs < 2 ^ a) (k : j.natAbs < 2 ^ b) (s : a + b ≤ 900000) : CMulW i j :=
  wide_mul (a := a + 1) (b := b + 1) (lt_two h (by omega)) (lt_two k (by omega)) (by omega) (by omega) (by omega)
/-- a ratio of ints is no larger than they are -/
theorem rat_le {q : Rat} {n : Int} {d : Nat} (hd : d ≠ 0) (h : q * (d : Rat) = (n : Rat)) : q.num.natAbs ≤ n.natAbs ∧ q.den ≤ d := by
  have hq : q = Rat.divInt n (d : Int) := by
    rw [Rat.divInt_eq_div]
    have : ((d : Int) : Rat) ≠ 0 := by
      intro e
      have := congrArg Rat.num e
      rw [Rat.num_intCast] at this
      exact hd (by simpa using this)
    have e2 : ((d : Nat) : Rat) = ((d : Int) : Rat) := rfl
    rw [e2] at h
    grind
  constructor
  · rw [hq, Rat.num_divInt]
    refine Nat.le_trans (Int.natAbs_ediv_le_natAbs _ _) ?_
    rw [Int.natAbs_mul]
    have : (Int.sign (d : Int)).natAbs ≤ 1 := by
      rw [Int.natAbs_sign]
      split <;> omega
    calc (Int.sign (d : Int)).natAbs * n.natAbs ≤ 1 * n.natAbs := Nat.mul_le_mul_right _ this
      _ = n.natAbs := by omega
  · rw [hq, Rat.den_divInt]
    split
    · omega
    · exact Nat.le_trans (Nat.div_le_self _ _) (by simp)
theorem sm_of {q : Rat} {n : Int} {d : Nat} (hd : d ≠ 0) (h : q * (d : Rat) = (n : Rat)) (hn : n.natAbs < 2 ^ SZ) (hd' : d < 2 ^ SZ) : Sm q := by
  obtain ⟨h1, h2⟩ := rat_le hd h
  exact ⟨Nat.lt_of_le_of_lt h1 hn, Nat.lt_of_le_of_lt h2 hd'⟩
end Sw

/-! the end: what the top leaves, by one run; the law's call over it -/
namespace Sw
open PySem PySem.Spec L2
open PyProof.Rows hiding St
/-! ### constants as data -/
def allB (f : PyData → Value → Bool) : List PyData → List Value → Bool
  | [], [] => true
  | d :: ds, u :: us => f d u && allB f ds us
  | _, _ => false
def datB (K : Fg) : Nat → PyData → Value → Bool
  | _, .none, .none => true
  | _, .bool b, .bool c => b == c
  | _, .int i, .int j _ => decide (i = j)
  | _, .str x, .str y _ => decide (x = y)
  | n + 1, .tuple xs, .ref a => (match K.lookup a with
    | some ⟨.type c, _, .seq its _, _⟩ => decide (c = "tuple") && (decide (its.size ≤ sizeLine) && allB (datB K n) xs its.toList)
    | _ => false)
  | _, _, _ => false
theorem allB_ok {K : Fg} {f : PyData → Value → Bool} (h : ∀ d u, f d u = true → ∃ v, RelV v u ∧ ∀ H, Dp K H v d) : ∀ {ds : List PyData} {us : List Value}, allB f ds us = true → ∃ vs, Vals vs us ∧ ∀ H, DpAll K H vs ds
  | [], [], _ => ⟨[], .nil, fun _ => .nil⟩
  | [], _ :: _, e => by cases e
  | _ :: _, [], e => by cases e
  | d :: ds, u :: us, e => by
    obtain ⟨e1, e2⟩ := He.ba (show (f d u && allB f ds us) = true from e)
    obtain ⟨v, r, k⟩ := h d u e1
    obtain ⟨vs, rs, ks⟩ := allB_ok h e2
    exact ⟨v :: vs, .cons r rs, fun H => .cons (k H) (ks H)⟩
theorem datB_ok {K : Fg} : ∀ (n : Nat) (d : PyData) (u : Value), datB K n d u = true → ∃ v, RelV v u ∧ ∀ H, Dp K H v d := by
  intro n
  induction n with
  | zero =>
    intro d u e
    cases d with
    | none => cases u with
      | none => exact ⟨.non, rfl, fun _ => .non⟩
      | _ => cases e
    | bool b => cases u with
      | bool c =>
        have : b = c := eq_of_beq (show (b == c) = true from e)
        rw [this]
        exact ⟨.bl c, rfl, fun _ => .bl c⟩
      | _ => cases e
    | int i => cases u with
      | int j t =>
        have : i = j := of_decide_eq_true e
        rw [this]
        exact ⟨.int j, ⟨t, rfl⟩, fun _ => .int j⟩
      | _ => cases e
    | str x => cases u with
      | str y t =>
        have : x = y := of_decide_eq_true e
        rw [this]
        exact ⟨.str y, ⟨t, rfl⟩, fun _ => .str y⟩
      | _ => cases e
    | _ => cases u <;> cases e
  | succ n ih =>
    intro d u e
    cases d with
    | none => cases u with
      | none => exact ⟨.non, rfl, fun _ => .non⟩
      | _ => cases e
    | bool b => cases u with
      | bool c =>
        have : b = c := eq_of_beq (show (b == c) = true from e)
        rw [this]
        exact ⟨.bl c, rfl, fun _ => .bl c⟩
      | _ => cases e
    | int i => cases u with
      | int j t =>
        have : i = j := of_decide_eq_true e
        rw [this]
        exact ⟨.int j, ⟨t, rfl⟩, fun _ => .int j⟩
      | _ => cases e
    | str x => cases u with
      | str y t =>
        have : x = y := of_decide_eq_true e
        rw [this]
        exact ⟨.str y, ⟨t, rfl⟩, fun _ => .str y⟩
      | _ => cases e
    | tuple xs => cases u with
      | ref a =>
        have e' : (match K.lookup a with
          | some ⟨.type c, _, .seq its _, _⟩ => decide (c = "tuple") && (decide (its.size ≤ sizeLine) && allB (datB K n) xs its.toList)
          | _ => false) = true := e
        cases q : K.lookup a with
        | none =>
          rw [q] at e'
          cases e'
        | some o =>
          obtain ⟨oc, od, dt, osl⟩ := o
          rw [q] at e'
          cases oc with
          | type c => cases dt with
            | seq its m =>
              obtain ⟨h1, h2⟩ := He.ba (show (decide (c = "tuple") && (decide (its.size ≤ sizeLine) && allB (datB K n) xs its.toList)) = true from e')
              obtain ⟨h3, h4⟩ := He.ba h2
              obtain ⟨vs, rs, ks⟩ := allB_ok (K := K) ih h4
              exact ⟨.ref a, rfl, fun H => .tup (.inr ⟨_, its, m, q, congrArg Value.type (of_decide_eq_true h1), rfl, of_decide_eq_true h3, rs⟩) (ks H)⟩
            | _ => cases e'
          | _ => cases dt <;> cases e'
      | _ => cases e
    | _ => cases u <;> cases e
def conB (K : Fg) (c : Str × PyData) : Bool := match PySem.W.nsIn K mainGlobals c.1 with
  | some (some u) => datB K 8 c.2 u
  | _ => false
theorem con_ok {K : Fg} {h : Heap} {mg : Str → Option Value} (X : K.In h) (G : h.Ns mainGlobals mg) {x : Str} {d : PyData} (c : conB K (x, d) = true) : Kon K mg x d := by
  unfold conB at c
  cases q : PySem.W.nsIn K mainGlobals x with
  | none =>
    rw [q] at c
    cases c
  | some r =>
    rw [q] at c
    cases r with
    | none => cases c
    | some u =>
      obtain ⟨v, r, k⟩ := datB_ok 8 d u c
      exact ⟨v, u, PySem.W.mg_of X G q, r, k⟩
/-! ### what one run shows -/
abbrev Df : Type := Str × Stmt
def dfD (p : Df) : He.DefD := ⟨(p.1, none), p.1, p.1, defArgs p.2, defBody p.2, defScope p.2, [], []⟩
abbrev AlS : Type := Bool × List He.FnW
def obsS (fr : List Str) (fn : List Df) (cs : List (Str × PyData)) (K : Fg) : AlS :=
  (((fr.all fun x => (He.Fa.free x).ok K) && (fn.all fun p => (He.Fa.glo p.1).ok K && (dfD p).ok K)) && cs.all (conB K), fn.map fun p => He.fnW K (p.1, none))
def valS (fn : List Df) : AlS := (true, fn.map fun p => (dfD p).val)
def SaysS (fr : List Str) (fn : List Df) (cs : List (Str × PyData)) (K : Fg) : Prop := obsS fr fn cs K = valS fn
def obsG (n : Nat) (fr : List Str) (fn : List Df) (cs : List (Str × PyData)) (g : Addr → Option Obj) : AlS := obsS fr fn cs (He.frG g (He.asD g n))
def hookS (n : Nat) (fr : List Str) (fn : List Df) (cs : List (Str × PyData)) : PySem.W.Hook where
  α := AlS
  obs := fun s => obsG n fr fn cs s.heap.get?
  val := fun _ => valS fn
  says := fun _ h => ∃ K : Fg, K.In h ∧ SaysS fr fn cs K
  of := fun _ _ e => ⟨_, He.frG_in, e⟩
  keeps := fun _ _ _ ⟨K, X, c⟩ k => ⟨K, PySem.W.Frag.In.keeps X k, c⟩
theorem obsG_eq {n : Nat} {fr : List Str} {fn : List Df} {cs : List (Str × PyData)} {g : Addr → Option Obj} {s : Shared} (h : ∀ a, g a = s.heap.get? a) : obsG n fr fn cs g = (hookS n fr fn cs).obs s := by
  rw [show g = s.heap.get? from funext h]
  rfl
section
variable {fr : List Str} {fn : List Df} {cs : List (Str × PyData)} {K : Fg} {h : Heap} {mg : Str → Option Value}
theorem SaysS.free (c : SaysS fr fn cs K) (X : K.In h) (G : h.Ns mainGlobals mg) {x : Str} (m : x ∈ fr) : mg x = none := by
  have c1 := (He.ba (He.ba (congrArg (fun z : AlS => z.1) c)).1).1
  exact He.free_ok X G (List.all_eq_true.mp c1 x m)
theorem SaysS.con (c : SaysS fr fn cs K) (X : K.In h) (G : h.Ns mainGlobals mg) (i : Nat) {x : Str} {d : PyData} (m : cs[i]? = some (x, d) := by rfl) : Kon K mg x d := by
  have c1 := (He.ba (congrArg (fun z : AlS => z.1) c)).2
  exact con_ok X G (List.all_eq_true.mp c1 (x, d) (List.mem_of_getElem? m))
theorem SaysS.dfn (c : SaysS fr fn cs K) (X : K.In h) (G : h.Ns mainGlobals mg) (i : Nat) {x : Str} {st : Stmt} (m : fn[i]? = some (x, st) := by rfl) : Dfn K mg x st := by
  have c1 := (He.ba (He.ba (congrArg (fun z : AlS => z.1) c)).1).2
  obtain ⟨c2, c3⟩ := He.ba (List.all_eq_true.mp c1 (x, st) (List.mem_of_getElem? m))
  have e : (fn.map fun p => He.fnW K (p.1, none)) = fn.map fun p => (dfD p).val := congrArg (fun z : AlS => z.2) c
  have e2 : (fn.map fun p => He.fnW K (p.1, none))[i]? = (fn.map fun p => (dfD p).val)[i]? := by rw [e]
  rw [List.getElem?_map, List.getElem?_map, m] at e2
  obtain ⟨fd, F⟩ := He.DefD.funD (d := dfD (x, st)) (Option.some.inj e2) c3
  obtain ⟨oc, od, dV, kV, doc, pm, an, cdv, ct, osl, e3, lk, cd, dfl, _⟩ := F.ex
  have d0 : dV = .none := by
    rcases dfl with ⟨_, z⟩ | ⟨z, _⟩
    · exact z
    · exact absurd rfl z
  subst d0
  exact ⟨He.ga K x, fd, He.glo_ok X G c2, ⟨⟨oc, od, kV, doc, pm, an, cdv, ct, osl, e3, lk, cd⟩, F.kp⟩⟩
end
/-! ### the law's call -/
theorem law_run {P : Program} {w : World} {K : Fg} {mg mb : Str → Option Value} {k : Nat} {fa a : Addr} {x p : Str} {sp : Sp} {s : Shared} {us : List Value} {ns : List Int}
    (X : K.In s.heap) (G : s.heap.Ns mainGlobals mg) (Gb : s.heap.Ns builtinsNs mb) (hbb : ∀ y : Str, y ≠ "__name__" → mb y = bootBuiltins y) (lim : s.heap.NoLimit) (seer : s.heap.NoSeer) (gens : s.gens = #[])
    (oa : s.heap.get? a = some { cls := .type "list", data := .seq us.toArray }) (ia : IntsAre us ns) (la : ns.length ≤ sizeLine) (hr : Room k callerA) (hfa : mg x = some (.ref fa))
    (C : ∀ base : Heap, K.In base → base.Ns mainGlobals mg → base.NoSeer → Cal P w K mg base x [p] k sp)
    (hsp : ∀ H : Hp, Only H → SqL K H a (ns.map V.int) → sp [.ref a] H (fun v _ => v = .bl true) E0) :
    codeAny (model P w) callerA (.call (.ref fa) ⟨[.ref a], []⟩) (fun r t => r = .ok (.ret (.bool true)) ∧ OldK s.heap t.heap ∧ t.os = s.os ∧ AllBare t.gens) s := by
  have rs := vals_ints ia
  have key : ∀ H : Hp, Only H → SqL K H a (ns.map V.int) → HOk P w H s.heap → (∀ b, H b ≠ none → b = a) → (H a ≠ none → K.lookup a = none) →
      codeAny (model P w) callerA (.call (.ref fa) ⟨[.ref a], []⟩) (fun r t => r = .ok (.ret (.bool true)) ∧ OldK s.heap t.heap ∧ t.os = s.os ∧ AllBare t.gens) s := by
    intro H only sq ok one out
    have stay : ∀ {b : Addr} {o : Obj}, s.heap.get? b = some o → (b = a → False) → (hidT s.heap H).get? b = some o := fun {b o} e n => hidT_get e (by
      cases q : H b with
      | none => rfl
      | some _ => exact (n (one b (by rw [q]; exact fun z => nomatch z))).elim)
    have ns' : ∀ {b : Addr} {m : Str → Option Value}, s.heap.Ns b m → (hidT s.heap H).Ns b m := fun {b m} ⟨o, es, ep, e, d, r⟩ => ⟨o, es, ep, stay e (fun z => by
      rw [z, oa] at e
      cases e
      have d' : Data.seq us.toArray _ = Data.dict es ep := d
      cases d'), d, r⟩
    have KX : K.In (hidT s.heap H) := fun b o e => by
      cases q : H b with
      | none => exact hidT_get (X b o e) q
      | some _ =>
        have z : b = a := one b (by rw [q]; exact fun z => nomatch z)
        rw [z] at e q
        rw [out (by rw [q]; exact fun z => nomatch z)] at e
        cases e
    have sr : (hidT s.heap H).NoSeer := by
      obtain ⟨⟨m1, a1, b1⟩, ⟨m2, a2, b2⟩, ⟨m3, a3, b3⟩, ⟨m4, bm, ob, a4, b4, c4, d4, f4⟩⟩ := seer
      refine ⟨⟨m1, ns' a1, b1⟩, ⟨m2, ns' a2, b2⟩, ⟨m3, ns' a3, b3⟩, ⟨m4, bm, ob, ns' a4, b4, stay c4 (fun z => ?_), d4, f4⟩⟩
      rw [z, oa] at c4
      cases c4
      injection d4 with d4
      exact absurd d4 (by decide)
    obtain ⟨f, fd, hm, kp, bd, F⟩ := C _ KX (ns' G) sr
    rw [hfa] at hm
    cases hm
    have M : Mod K mg (hidT s.heap H) := ⟨KX, ns' G, ⟨mb, ns' Gb, hbb⟩, let ⟨mc, h1, h2⟩ := lim; ⟨mc, ns' h1, h2⟩⟩
    have env : Env0 P w K mg (hidT s.heap H) callerA [] s H := ⟨rfl, M, fun _ _ e => of_hidT e, Nat.le_of_eq (hidT_size _ _), trivial, (fun b m => nomatch m), ok, .of_eq gens⟩
    refine codeAny_mono (F.run callerA [] s H ⟨[.ref a], []⟩ [.ref a] [.ref a] _ _ hr env (bd s [.ref a] X rfl) (.cons rfl .nil) (hsp H only sq)) fun r t q => ?_
    cases r with
    | error e => exact False.elim q
    | ok fl =>
      cases fl with
      | ret u =>
        obtain ⟨v, H', eo, bare, un, ok', r', z⟩ := q
        have z' : v = .bl true := z
        subst z'
        obtain rfl : u = Value.bool true := r'
        refine ⟨rfl, OldK.of_keep fun b o e => ?_, eo, bare⟩
        cases g : H b with
        | none => exact un.keep b o e g (fun m => nomatch (show b ∈ ([] : List Addr) from m)) (fun m => nomatch m)
        | some _ =>
          rcases only b with y | ⟨ob, xs, y⟩
          · rw [g] at y; cases y
          · obtain ⟨e1, _⟩ := ok b _ y
            obtain ⟨e2, _⟩ := ok' b _ (un.frzs b ob _ y)
            rw [e] at e1; cases e1
            exact e2
      | _ => exact False.elim q
  cases lk : K.lookup a with
  | some o =>
    have e := X a o lk
    rw [oa] at e
    cases e
    exact key (fun _ => none) (fun _ => .inl rfl) (.inr ⟨_, us.toArray, _, lk, rfl, rfl, rfl, by rw [List.size_toArray, ia.length]; exact la, by simpa using rs⟩) (fun b u z => nomatch (show (none : Option HO) = some u from z)) (fun b z => (z rfl).elim) fun z => (z rfl).elim
  | none =>
    have at_a : ∀ {b : Addr} {u : HO}, (if b = a then some (HO.frz { cls := .type "list", data := .seq us.toArray } (.lst (ns.map V.int))) else none) = some u → b = a ∧ HO.frz { cls := .type "list", data := .seq us.toArray } (.lst (ns.map V.int)) = u := fun {b u} z => by
      by_cases q : b = a
      · rw [if_pos q] at z
        exact ⟨q, Option.some.inj z⟩
      · rw [if_neg q] at z
        cases z
    refine key (fun b => if b = a then some (.frz { cls := .type "list", data := .seq us.toArray } (.lst (ns.map V.int))) else none) (fun b => ?_) (.inl (.inr ⟨_, if_pos rfl⟩)) (fun b u z => ?_) (fun b z => ?_) fun _ => lk
    · by_cases q : b = a
      · exact .inr ⟨_, _, if_pos q⟩
      · exact .inl (if_neg q)
    · obtain ⟨rfl, rfl⟩ := at_a z
      exact ⟨oa, by rw [List.length_map]; exact la, us, _, rs, oa⟩
    · by_cases q : b = a
      · exact q
      · exact (z (if_neg q)).elim
theorem ints_dp {K : Fg} {H : Hp} : ∀ ns : List Int, DpAll K H (ns.map V.int) (ns.map PyData.int)
  | [] => .nil
  | i :: ns => .cons (.int i) (ints_dp ns)
theorem script_dp {K : Fg} {H : Hp} {a : Addr} {ns : List Int} (h : SqL K H a (ns.map V.int)) : DpAll K H [.ref a] [.list (ns.map PyData.int)] := .cons (.lst h (ints_dp ns)) .nil
theorem dp_true {K : Fg} {H : Hp} {v : V} (h : Dp K H v (.bool true)) : v = .bl true := by
  cases h; rfl
/-- the walk from the law's promise -/
theorem walk_S {l : PySem.W.OpenLaw} {n k : Nat} {q : Program} {loose : List Str} {XP : (Str → Option Value) → Heap → Prop} {YP : World → Heap → Prop} {d : DefRec} {p : Str} {sp : Fg → Sp}
    (hn : l.most = some n) (hn2 : n ≤ sizeLine) (hdf : d.params.defaults = []) (hr : Room k callerA) (hi : importsNone q = true)
    (F : ∀ (w : World) (mg : Str → Option Value) (h : Heap), YP w h → h.Ns mainGlobals mg →
      ∃ K : Fg, K.In h ∧ ∀ base : Heap, K.In base → base.Ns mainGlobals mg → base.NoSeer → Cal l.prog w K mg base d.name [p] k (sp K))
    (hsp : ∀ (K : Fg) (H : Hp) (a : Addr) (ns : List Int), ns.length ≤ n → SqL K H a (ns.map V.int) → sp K [.ref a] H (fun v _ => v = .bl true) E0) :
    PySem.W.WalkO q loose XP YP l.row.toRowW d [] (fun f vs => PySem.call f vs) := by
  refine Att.attach_call hn hdf fun w s₀ s mg mb fa o pm cd doc a us ns G Y _ _ _ hmg oa ia la gens => ?_
  obtain ⟨K, X, C⟩ := F w mg _ Y G.T.g
  exact law_run X G.T.g G.T.b G.T.builtins G.T.nolimit (G.T.seer hi) gens oa ia (Nat.le_trans la hn2) hr hmg C fun H _ sq => hsp K H a ns la sq
end Sw

/-! polynomials as lists of ratios, lowest power first: read by their values -/
namespace Sw
def cf (p : List Rat) (i : Nat) : Rat := p.getD i 0
def ev : List Rat → Rat → Rat
  | [], _ => 0
  | a :: p, x => a + x * ev p x
def consT (a : Rat) : List Rat → List Rat
  | [] => if a = 0 then [] else [a]
  | b :: q => a :: b :: q
def trim : List Rat → List Rat
  | [] => []
  | a :: p => consT a (trim p)
theorem cf_nil (i : Nat) : cf [] i = 0 := rfl
theorem cf_zero (a : Rat) (p : List Rat) : cf (a :: p) 0 = a := rfl
theorem cf_succ (a : Rat) (p : List Rat) (i : Nat) : cf (a :: p) (i + 1) = cf p i := by simp [cf]
theorem cf_ge {p : List Rat} {i : Nat} (h : p.length ≤ i) : cf p i = 0 := by simp [cf, h]
theorem cf_get {p : List Rat} {i : Nat} {a : Rat} (h : p[i]? = some a) : cf p i = a := by simp [cf, h]
theorem get_cf {p : List Rat} {i : Nat} (h : i < p.length) : p[i]? = some (cf p i) := by simp [cf, h]
theorem cf_mem {p : List Rat} {i : Nat} (h : i < p.length) : cf p i ∈ p := by
  have := get_cf h
  exact List.mem_of_getElem? this
theorem ev_append (p q : List Rat) (x : Rat) : ev (p ++ q) x = ev p x + x ^ p.length * ev q x := by
  induction p with
  | nil => simp [ev]; grind
  | cons a p ih => simp only [List.cons_append, ev, ih, List.length_cons]; grind
theorem ev_consT (a : Rat) (p : List Rat) (x : Rat) : ev (consT a p) x = a + x * ev p x := by
  cases p with
  | nil =>
    by_cases h : a = 0
    · simp only [consT, h, if_pos, ev]; grind
    · simp only [consT, h, if_false, ev]
  | cons b q => rfl
theorem ev_trim (p : List Rat) (x : Rat) : ev (trim p) x = ev p x := by
  induction p with
  | nil => rfl
  | cons a p ih => rw [trim, ev_consT, ih]; rfl
theorem cf_consT (a : Rat) (p : List Rat) (i : Nat) : cf (consT a p) i = cf (a :: p) i := by
  cases p with
  | nil =>
    by_cases h : a = 0
    · simp only [consT, h, if_pos]
      cases i with
      | zero => simp [cf]
      | succ i => simp [cf]
    · simp only [consT, h, if_false]
  | cons b q => rfl
theorem cf_trim (p : List Rat) (i : Nat) : cf (trim p) i = cf p i := by
  induction p generalizing i with
  | nil => rfl
  | cons a p ih =>
    rw [trim, cf_consT]
    cases i with
    | zero => rfl
    | succ i => rw [cf_succ, cf_succ, ih]
theorem trim_snoc0 (p : List Rat) : trim (p ++ [0]) = trim p := by
  induction p with
  | nil => simp [trim, consT]
  | cons a p ih => simp only [List.cons_append, trim, ih]
theorem trim_snoc {a : Rat} (h : a ≠ 0) (p : List Rat) : trim (p ++ [a]) = p ++ [a] := by
  induction p with
  | nil => simp [trim, consT, h]
  | cons b p ih =>
    rw [List.cons_append, trim, ih]
    cases p <;> rfl
def Trd (p : List Rat) : Prop := trim p = p
theorem consT_idem (a : Rat) {p : List Rat} (h : trim p = p) : trim (consT a p) = consT a p := by
  cases p with
  | nil =>
    by_cases h' : a = 0
    · simp only [consT, h', if_pos]; rfl
    · simp [trim, consT, h']
  | cons b q =>
    show trim (a :: b :: q) = a :: b :: q
    rw [trim, h]
    rfl
theorem trd_trim (p : List Rat) : Trd (trim p) := by
  induction p with
  | nil => rfl
  | cons a p ih => exact consT_idem a ih
theorem trd_nil : Trd [] := rfl
theorem trim_len (p : List Rat) : (trim p).length ≤ p.length := by
  induction p with
  | nil => exact Nat.le_refl _
  | cons a p ih =>
    rw [trim]
    cases h : trim p with
    | nil =>
      by_cases h' : a = 0
      · simp [consT, h']
      · simp [consT, h']
    | cons b q =>
      rw [h] at ih
      simp only [consT, List.length_cons] at ih ⊢
      omega
theorem trd_last {p : List Rat} (h : Trd p) (h0 : p ≠ []) : cf p (p.length - 1) ≠ 0 := by
  rcases List.eq_nil_or_concat p with e | ⟨q, a, rfl⟩
  · exact absurd e h0
  · intro e
    have e1 : cf (q ++ [a]) ((q ++ [a]).length - 1) = a := by simp [cf]
    rw [List.concat_eq_append] at *
    rw [e1] at e
    subst e
    have h' : trim (q ++ [0]) = q ++ [0] := h
    rw [trim_snoc0] at h'
    have := trim_len q
    rw [h'] at this
    simp at this
    omega
theorem trd_of_last {p : List Rat} (h : p ≠ [] → cf p (p.length - 1) ≠ 0) : Trd p := by
  rcases List.eq_nil_or_concat p with e | ⟨q, a, rfl⟩
  · subst e; rfl
  · rw [List.concat_eq_append] at *
    have := h (by simp)
    have e1 : cf (q ++ [a]) ((q ++ [a]).length - 1) = a := by simp [cf]
    rw [e1] at this
    exact trim_snoc this q
theorem trim_le {p : List Rat} {n : Nat} (h : ∀ k, n ≤ k → cf p k = 0) : (trim p).length ≤ n := by
  apply Nat.le_of_not_lt
  intro hlt
  have h0 : trim p ≠ [] := by
    intro e
    rw [e] at hlt
    simp at hlt
  have := trd_last (trd_trim p) h0
  rw [cf_trim] at this
  exact this (h _ (by omega))
theorem ev_ext {p q : List Rat} (h : ∀ i, cf p i = cf q i) (x : Rat) : ev p x = ev q x := by
  induction p generalizing q with
  | nil =>
    induction q with
    | nil => rfl
    | cons b q ih =>
      have h0 : b = 0 := by have := h 0; simpa [cf] using this.symm
      have := ih fun i => by have := h (i + 1); rwa [cf_succ, cf_nil] at this
      simp only [ev] at this ⊢
      rw [← this, h0]; grind
  | cons a p ih =>
    cases q with
    | nil =>
      have h0 : a = 0 := by have := h 0; simpa [cf] using this
      have := ih (q := []) fun i => by have := h (i + 1); rwa [cf_succ, cf_nil] at this
      simp only [ev] at this ⊢
      rw [this, h0]; grind
    | cons b q =>
      have h0 : a = b := h 0
      have := ih (q := q) fun i => by have := h (i + 1); rwa [cf_succ, cf_succ] at this
      simp only [ev]
      rw [this, h0]
theorem ev_set {p : List Rat} {i : Nat} (v x : Rat) (h : i < p.length) : ev (p.set i v) x = ev p x + x ^ i * (v - cf p i) := by
  induction p generalizing i with
  | nil => simp at h
  | cons a p ih =>
    cases i with
    | zero =>
      simp only [List.set_cons_zero, ev, cf_zero]; grind
    | succ i =>
      simp only [List.set_cons_succ, ev, cf_succ]
      rw [ih (by simpa using h)]; grind
theorem cf_set {p : List Rat} {i k : Nat} (v : Rat) (h : i < p.length) : cf (p.set i v) k = if k = i then v else cf p k := by
  unfold cf
  rw [List.getD_eq_getElem?_getD, List.getD_eq_getElem?_getD, List.getElem?_set]
  by_cases e : i = k
  · subst e; simp [h]
  · simp [e, Ne.symm e]
/-! ### sums -/
def padd : List Rat → List Rat → List Rat
  | [], q => q
  | p, [] => p
  | a :: p, b :: q => (a + b) :: padd p q
theorem cf_padd (p q : List Rat) (i : Nat) : cf (padd p q) i = cf p i + cf q i := by
  induction p generalizing q i with
  | nil => simp only [padd, cf_nil]; grind
  | cons a p ih =>
    cases q with
    | nil => simp only [padd, cf_nil]; grind
    | cons b q =>
      cases i with
      | zero => rfl
      | succ i => simp only [padd, cf_succ, ih]
theorem ev_padd (p q : List Rat) (x : Rat) : ev (padd p q) x = ev p x + ev q x := by
  induction p generalizing q with
  | nil => simp only [padd, ev]; grind
  | cons a p ih =>
    cases q with
    | nil => simp only [padd, ev]; grind
    | cons b q => simp only [padd, ev, ih]; grind
def psc (c : Rat) (p : List Rat) : List Rat := p.map (c * ·)
theorem cf_psc (c : Rat) (p : List Rat) (i : Nat) : cf (psc c p) i = c * cf p i := by
  induction p generalizing i with
  | nil => simp [psc, cf_nil]
  | cons a p ih =>
    cases i with
    | zero => rfl
    | succ i => simp only [psc, List.map_cons, cf_succ] at ih ⊢; exact ih i
theorem ev_psc (c : Rat) (p : List Rat) (x : Rat) : ev (psc c p) x = c * ev p x := by
  induction p with
  | nil => simp [psc, ev]
  | cons a p ih => simp only [psc, List.map_cons, ev] at ih ⊢; rw [ih]; grind
/-! ### a polynomial that is 0 far out is 0 -/
theorem mul_le_mul_rat {a b c : Rat} (h : a ≤ b) (hc : 0 ≤ c) : a * c ≤ b * c := Rat.mul_le_mul_of_nonneg_right h hc
theorem far (p : List Rat) (h : ∃ i, cf p i ≠ 0) : ∃ M d : Rat, 0 < d ∧ ((∀ x, M ≤ x → d ≤ ev p x) ∨ (∀ x, M ≤ x → ev p x ≤ -d)) := by
  induction p with
  | nil => obtain ⟨i, h⟩ := h; exact absurd (cf_nil i) h
  | cons a p ih =>
    by_cases hp : ∃ i, cf p i ≠ 0
    · obtain ⟨M, d, hd, h⟩ := ih hp
      have hd0 : d ≠ 0 := by grind
      rcases h with h | h
      · refine ⟨(if M ≤ (1 - a) / d then (if 0 ≤ (1 - a) / d then (1 - a) / d else 0) else (if 0 ≤ M then M else 0)), 1, by decide, .inl fun x hx => ?_⟩
        have hx0 : 0 ≤ x ∧ M ≤ x ∧ (1 - a) / d ≤ x := by grind
        have e1 := h x hx0.2.1
        have e2 : x * d ≤ x * ev p x := Rat.mul_le_mul_of_nonneg_left e1 hx0.1
        have e3 : (1 - a) / d * d ≤ x * d := mul_le_mul_rat hx0.2.2 (by grind)
        have e4 : (1 - a) / d * d = 1 - a := by grind
        simp only [ev]
        grind
      · refine ⟨(if M ≤ (1 + a) / d then (if 0 ≤ (1 + a) / d then (1 + a) / d else 0) else (if 0 ≤ M then M else 0)), 1, by decide, .inr fun x hx => ?_⟩
        have hx0 : 0 ≤ x ∧ M ≤ x ∧ (1 + a) / d ≤ x := by grind
        have e1 := h x hx0.2.1
        have e2 : x * ev p x ≤ x * -d := Rat.mul_le_mul_of_nonneg_left e1 hx0.1
        have e3 : (1 + a) / d * d ≤ x * d := mul_le_mul_rat hx0.2.2 (by grind)
        have e4 : (1 + a) / d * d = 1 + a := by grind
        simp only [ev]
        grind
    · have hz : ∀ i, cf p i = 0 := fun i => by
        by_cases e : cf p i = 0
        · exact e
        · exact absurd ⟨i, e⟩ hp
      have e0 : ∀ x, ev p x = 0 := fun x => by
        rw [ev_ext (q := []) (fun i => by rw [hz, cf_nil])]; rfl
      have ha : a ≠ 0 := by
        obtain ⟨i, h⟩ := h
        cases i with
        | zero => exact h
        | succ i => rw [cf_succ] at h; exact absurd (hz i) h
      by_cases hs : 0 < a
      · exact ⟨0, a, hs, .inl fun x _ => by simp only [ev, e0]; grind⟩
      · exact ⟨0, -a, by grind, .inr fun x _ => by simp only [ev, e0]; grind⟩
theorem zero_of_far {p : List Rat} {M : Rat} (h : ∀ x, M ≤ x → ev p x = 0) (i : Nat) : cf p i = 0 := by
  by_cases e : cf p i = 0
  · exact e
  · obtain ⟨N, d, hd, k⟩ := far p ⟨i, e⟩
    rcases k with k | k
    · have h1 := h (if M ≤ N then N else M) (by grind)
      have h2 := k (if M ≤ N then N else M) (by grind)
      grind
    · have h1 := h (if M ≤ N then N else M) (by grind)
      have h2 := k (if M ≤ N then N else M) (by grind)
      grind
theorem cf_of_far {p q : List Rat} {M : Rat} (h : ∀ x, M ≤ x → ev p x = ev q x) (i : Nat) : cf p i = cf q i := by
  have := zero_of_far (p := padd p (psc (-1) q)) (M := M) (fun x hx => by rw [ev_padd, ev_psc, h x hx]; grind) i
  rw [cf_padd, cf_psc] at this
  grind
theorem ev_of_far {p q : List Rat} {M : Rat} (h : ∀ x, M ≤ x → ev p x = ev q x) (x : Rat) : ev p x = ev q x := ev_ext (cf_of_far h) x
theorem trd_uniq {p q : List Rat} (hp : Trd p) (hq : Trd q) (h : ∀ i, cf p i = cf q i) : p = q := by
  have hl : p.length = q.length := by
    apply Nat.le_antisymm
    · rw [← hp]
      exact trim_le fun k hk => by rw [h]; exact cf_ge hk
    · rw [← hq]
      exact trim_le fun k hk => by rw [← h]; exact cf_ge hk
  apply List.ext_getElem? 
  intro i
  by_cases hi : i < p.length
  · rw [get_cf hi, get_cf (by omega), h]
  · rw [List.getElem?_eq_none (by omega), List.getElem?_eq_none (by omega)]
theorem trd_eq {p q : List Rat} (hp : Trd p) (hq : Trd q) (h : ∀ x, ev p x = ev q x) : p = q := trd_uniq hp hq (cf_of_far (M := 0) fun x _ => h x)
theorem trim_eq {p q : List Rat} (h : ∀ x, ev p x = ev q x) : trim p = trim q := trd_eq (trd_trim p) (trd_trim q) fun x => by rw [ev_trim, ev_trim, h]
theorem trim_nil {p : List Rat} (h : ∀ x, ev p x = 0) : trim p = [] := trd_eq (q := []) (trd_trim p) rfl fun x => by rw [ev_trim, h]; rfl
theorem trd_ev0 {p : List Rat} (hp : Trd p) (h : ∀ x, ev p x = 0) : p = [] := by rw [← hp]; exact trim_nil h
end Sw

/-! products, quotients, common divisors of such lists -/
namespace Sw
def inner (f : List Rat) (at' : Nat) (c : Rat) (q : List Rat) : Nat → List Rat
  | 0 => f
  | j + 1 => (inner f at' c q j).set (at' + j) (cf (inner f at' c q j) (at' + j) + c * cf q j)
section
variable {f q : List Rat} {k : Nat} {c x : Rat}
theorem inner_len (j : Nat) : (inner f k c q j).length = f.length := by
  induction j with
  | zero => rfl
  | succ j ih => rw [inner, List.length_set, ih]
theorem take_cf {j : Nat} (h : j < q.length) : q.take (j + 1) = q.take j ++ [cf q j] := by
  rw [List.take_add_one, get_cf h]; rfl
theorem ev_take {j : Nat} (h : j < q.length) : ev (q.take (j + 1)) x = ev (q.take j) x + x ^ j * cf q j := by
  rw [take_cf h, ev_append, List.length_take, Nat.min_eq_left (by omega)]
  simp only [ev]; grind
theorem ev_inner {j : Nat} (h : k + j ≤ f.length) (h' : j ≤ q.length) : ev (inner f k c q j) x = ev f x + x ^ k * c * ev (q.take j) x := by
  induction j with
  | zero => simp only [inner, List.take_zero, ev]; grind
  | succ j ih =>
    rw [inner, ev_set _ _ (by rw [inner_len]; omega), ih (by omega) (by omega), ev_take (by omega), Lean.Grind.Semiring.pow_add]
    grind
theorem cf_inner {j : Nat} (h : k + j ≤ f.length) (i : Nat) : cf (inner f k c q j) i = cf f i + (if k ≤ i ∧ i < k + j then c * cf q (i - k) else 0) := by
  induction j with
  | zero =>
    rw [inner, if_neg (by omega)]; grind
  | succ j ih =>
    rw [inner, cf_set _ (by rw [inner_len]; omega)]
    by_cases e : i = k + j
    · subst e
      rw [if_pos rfl, ih (by omega), if_neg (by omega), if_pos (by omega), Nat.add_sub_cancel_left]; grind
    · rw [if_neg e, ih (by omega)]
      by_cases h1 : k ≤ i ∧ i < k + j
      · rw [if_pos h1, if_pos (by omega)]
      · rw [if_neg h1, if_neg (by omega)]
theorem set_cf (p : List Rat) (i : Nat) : p.set i (cf p i) = p := by
  by_cases h : i < p.length
  · have e : cf p i = p[i] := by simp [cf, h]
    rw [e, List.set_getElem_self]
  · exact List.set_eq_of_length_le (by omega)
theorem inner_zero (j : Nat) : inner f k 0 q j = f := by
  induction j with
  | zero => rfl
  | succ j ih =>
    rw [inner, ih]
    have : cf f (k + j) + 0 * cf q j = cf f (k + j) := by grind
    rw [this, set_cf]
end
/-! ### products -/
def mulSt (p q : List Rat) : Nat → List Rat
  | 0 => List.replicate (p.length + q.length - 1) 0
  | k + 1 => inner (mulSt p q k) k (cf p k) q q.length
theorem mulSt_len (p q : List Rat) (k : Nat) : (mulSt p q k).length = p.length + q.length - 1 := by
  induction k with
  | zero => simp [mulSt]
  | succ k ih => rw [mulSt, inner_len, ih]
theorem ev_zeros (n : Nat) (x : Rat) : ev (List.replicate n 0) x = 0 := by
  induction n with
  | zero => rfl
  | succ n ih => rw [List.replicate_succ, ev, ih]; grind
theorem ev_mulSt {p q : List Rat} {k : Nat} (h : k ≤ p.length) (x : Rat) : ev (mulSt p q k) x = ev (p.take k) x * ev q x := by
  induction k with
  | zero => rw [mulSt, ev_zeros, List.take_zero]; simp only [ev]; grind
  | succ k ih =>
    rw [mulSt, ev_inner (by rw [mulSt_len]; omega) (Nat.le_refl _), ih (by omega), ev_take (by omega), List.take_length]
    grind
def pmul (p q : List Rat) : List Rat := trim (mulSt p q p.length)
theorem ev_pmul (p q : List Rat) (x : Rat) : ev (pmul p q) x = ev p x * ev q x := by
  rw [pmul, ev_trim, ev_mulSt (Nat.le_refl _), List.take_length]
theorem trd_pmul (p q : List Rat) : Trd (pmul p q) := trd_trim _
theorem pmul_nil1 (q : List Rat) : pmul [] q = [] := trim_nil fun x => by
  show ev (mulSt [] q 0) x = 0
  rw [ev_mulSt (Nat.zero_le _)]; simp only [List.take_nil, ev]; grind
theorem pmul_nil2 (p : List Rat) : pmul p [] = [] := trim_nil fun x => by rw [ev_mulSt (Nat.le_refl _)]; simp only [ev]; grind
theorem pmul_len (p q : List Rat) : (pmul p q).length ≤ p.length + q.length - 1 := by
  have := trim_len (mulSt p q p.length)
  rwa [mulSt_len] at this
/-! ### quotients -/
def dvSt (p q : List Rat) : Nat → List Rat × List Rat
  | 0 => (p, List.replicate (p.length + 1 - q.length) 0)
  | i + 1 => (inner (dvSt p q i).1 (p.length - q.length - i) (-(cf (dvSt p q i).1 (p.length - q.length - i + q.length - 1) / cf q (q.length - 1))) q q.length,
      (dvSt p q i).2.set (p.length - q.length - i) (cf (dvSt p q i).1 (p.length - q.length - i + q.length - 1) / cf q (q.length - 1)))
def pquo (p q : List Rat) : List Rat := trim (dvSt p q (p.length + 1 - q.length)).2
def prem (p q : List Rat) : List Rat := trim (dvSt p q (p.length + 1 - q.length)).1
theorem dvSt_len (p q : List Rat) (i : Nat) : (dvSt p q i).1.length = p.length ∧ (dvSt p q i).2.length = p.length + 1 - q.length := by
  induction i with
  | zero => simp [dvSt]
  | succ i ih => simp only [dvSt, inner_len, List.length_set, ih, and_self]
theorem cf_zeros (n i : Nat) : cf (List.replicate n 0) i = 0 := by
  unfold cf
  rw [List.getD_eq_getElem?_getD, List.getElem?_replicate]
  split <;> rfl
theorem dvSt_inv {p q : List Rat} (hq : q ≠ []) (hl : cf q (q.length - 1) ≠ 0) {i : Nat} (hi : i ≤ p.length + 1 - q.length) :
    (∀ x, ev (dvSt p q i).1 x + ev (dvSt p q i).2 x * ev q x = ev p x) ∧ (∀ k, p.length - i ≤ k → cf (dvSt p q i).1 k = 0) ∧ (∀ k, k + i ≤ p.length - q.length → cf (dvSt p q i).2 k = 0) := by
  have hm : 0 < q.length := List.length_pos_iff.mpr hq
  induction i with
  | zero =>
    refine ⟨fun x => ?_, fun k hk => cf_ge (by show p.length ≤ k; omega), fun k _ => cf_zeros _ _⟩
    simp only [dvSt, ev_zeros]; grind
  | succ i ih =>
    obtain ⟨h1, h2, h3⟩ := ih (by omega)
    obtain ⟨l1, l2⟩ := dvSt_len p q i
    refine ⟨fun x => ?_, fun k hk => ?_, fun k hk => ?_⟩
    · simp only [dvSt]
      rw [ev_inner (by rw [l1]; omega) (Nat.le_refl _), ev_set _ _ (by rw [l2]; omega), List.take_length, h3 _ (by omega), ← h1 x]
      grind
    · simp only [dvSt]
      rw [cf_inner (by rw [l1]; omega)]
      by_cases e : k = p.length - 1 - i
      · have e1 : p.length - q.length - i + q.length - 1 = k := by omega
        rw [e1, if_pos (by omega), show k - (p.length - q.length - i) = q.length - 1 by omega]
        grind
      · rw [h2 k (by omega), if_neg (by omega)]; grind
    · simp only [dvSt]
      rw [cf_set _ (by rw [l2]; omega), if_neg (by omega)]
      exact h3 k (by omega)
section
variable {p q : List Rat}
theorem div_eq (hq : q ≠ []) (hl : cf q (q.length - 1) ≠ 0) (x : Rat) : ev (prem p q) x + ev (pquo p q) x * ev q x = ev p x := by
  rw [prem, pquo, ev_trim, ev_trim]
  exact (dvSt_inv hq hl (Nat.le_refl _)).1 x
theorem rem_len (hq : q ≠ []) (hl : cf q (q.length - 1) ≠ 0) : (prem p q).length < q.length := by
  have hm : 0 < q.length := List.length_pos_iff.mpr hq
  have := trim_le (p := (dvSt p q (p.length + 1 - q.length)).1) (n := q.length - 1) fun k hk => by
    by_cases h : p.length + 1 - q.length = 0
    · rw [h]
      exact cf_ge (by show p.length ≤ k; omega)
    · exact (dvSt_inv hq hl (Nat.le_refl _)).2.1 k (by omega)
  show (trim _).length < _
  omega
theorem quo_len : (pquo p q).length ≤ p.length + 1 - q.length := by
  have := trim_len (dvSt p q (p.length + 1 - q.length)).2
  rwa [(dvSt_len p q _).2] at this
theorem trd_quo : Trd (pquo p q) := trd_trim _
theorem trd_rem : Trd (prem p q) := trd_trim _
end
/-! ### leading terms of products -/
def mulR : List Rat → List Rat → List Rat
  | [], _ => []
  | a :: p, q => padd (psc a q) (0 :: mulR p q)
theorem ev_mulR (p q : List Rat) (x : Rat) : ev (mulR p q) x = ev p x * ev q x := by
  induction p with
  | nil => simp only [mulR, ev]; grind
  | cons a p ih => simp only [mulR, ev_padd, ev_psc, ev, ih]; grind
theorem psc_len (c : Rat) (p : List Rat) : (psc c p).length = p.length := by simp [psc]
theorem mulR_top (p q : List Rat) (n m : Nat) (hp : ∀ i, n < i → cf p i = 0) (hq : ∀ i, m < i → cf q i = 0) : cf (mulR p q) (n + m) = cf p n * cf q m := by
  induction p generalizing n with
  | nil => simp only [mulR, cf_nil]; grind
  | cons a p ih =>
    simp only [mulR, cf_padd, cf_psc]
    cases n with
    | zero =>
      have hz : ∀ i, cf p i = 0 := fun i => by have := hp (i + 1) (by omega); rwa [cf_succ] at this
      have : cf (0 :: mulR p q) (0 + m) = 0 := by
        have e : ∀ i, cf (mulR p q) i = 0 := cf_of_far (q := []) (M := 0) fun x _ => by
          rw [ev_mulR, ev_ext (p := p) (q := []) (fun i => by rw [hz, cf_nil])]; simp only [ev]; grind
        cases h : 0 + m with
        | zero => rfl
        | succ j => rw [cf_succ]; exact e j
      rw [this, Nat.zero_add, cf_zero]; grind
    | succ n =>
      rw [hq (n + 1 + m) (by omega), show n + 1 + m = (n + m) + 1 by omega, cf_succ, cf_succ, ih n (fun i hi => by have := hp (i + 1) (by omega); rwa [cf_succ] at this)]
      grind
theorem prod_len {p q r : List Rat} (hp : Trd p) (hq : Trd q) (hr : Trd r) (p0 : p ≠ []) (q0 : q ≠ []) (h : ∀ x, ev r x = ev p x * ev q x) : r.length = p.length + q.length - 1 ∧ cf r (r.length - 1) = cf p (p.length - 1) * cf q (q.length - 1) := by
  have lp : 0 < p.length := List.length_pos_iff.mpr p0
  have lq : 0 < q.length := List.length_pos_iff.mpr q0
  have e : ∀ i, cf r i = cf (mulR p q) i := cf_of_far (M := 0) fun x _ => by rw [h, ev_mulR]
  have t := mulR_top p q (p.length - 1) (q.length - 1) (fun i hi => cf_ge (by omega)) (fun i hi => cf_ge (by omega))
  have n0 : cf p (p.length - 1) * cf q (q.length - 1) ≠ 0 := by
    have h1 := trd_last hp p0
    have h2 := trd_last hq q0
    intro z
    rcases Rat.mul_eq_zero.mp z with z | z
    · exact h1 z
    · exact h2 z
  have l1 : p.length - 1 + (q.length - 1) < r.length := by
    apply Nat.lt_of_not_le
    intro hle
    have := cf_ge hle
    rw [e, t] at this
    exact n0 this
  have l2 : r.length ≤ p.length + q.length - 1 := by
    rw [← hr, trim_eq (q := mulSt p q p.length) (fun x => by rw [h, ev_mulSt (Nat.le_refl _), List.take_length])]
    exact pmul_len p q
  have l3 : r.length = p.length + q.length - 1 := by omega
  refine ⟨l3, ?_⟩
  rw [← t, e]
  congr 1
  omega
/-- a product of two that are not 0 is not 0 -/
theorem prod_ne {p q : List Rat} (hp : Trd p) (hq : Trd q) (p0 : p ≠ []) (q0 : q ≠ []) : ¬ ∀ x, ev p x * ev q x = 0 := by
  intro h
  have := prod_len (r := []) hp hq rfl p0 q0 fun x => by rw [h]; rfl
  have lp : 0 < p.length := List.length_pos_iff.mpr p0
  have lq : 0 < q.length := List.length_pos_iff.mpr q0
  simp at this
  omega
/-- a divisor goes in evenly -/
theorem exact_div {p g a : List Rat} (hg : Trd g) (g0 : g ≠ []) (h : ∀ x, ev p x = ev g x * ev a x) : prem p g = [] ∧ pquo p g = trim a := by
  have hl := trd_last hg g0
  have e := div_eq (p := p) g0 hl
  have hr := rem_len (p := p) g0 hl
  have key : trim (padd a (psc (-1) (pquo p g))) = [] := by
    by_cases s0 : trim (padd a (psc (-1) (pquo p g))) = []
    · exact s0
    · have := prod_len (r := prem p g) hg (trd_trim _) trd_rem g0 s0 fun x => by
        rw [ev_trim, ev_padd, ev_psc]
        have := e x
        have := h x
        grind
      have l1 : 0 < (trim (padd a (psc (-1) (pquo p g)))).length := List.length_pos_iff.mpr s0
      omega
  have hz : ∀ x, ev a x = ev (pquo p g) x := fun x => by
    have h1 := ev_trim (padd a (psc (-1) (pquo p g))) x
    rw [key, ev_padd, ev_psc] at h1
    have h2 : ev [] x = 0 := rfl
    grind
  refine ⟨trd_ev0 trd_rem fun x => ?_, ?_⟩
  · have := e x
    have := h x
    have := hz x
    grind
  · rw [trim_eq hz]
    exact trd_quo.symm
/-! ### by a unit -/
def pwu (p : List Rat) : List Rat := if p = [] then [] else psc (1 / cf p (p.length - 1)) p
theorem trd_psc {c : Rat} (hc : c ≠ 0) {p : List Rat} (h : Trd p) : Trd (psc c p) := trd_of_last fun h0 => by
  rw [psc_len, cf_psc]
  have := trd_last h (fun e => h0 (by rw [e]; rfl))
  intro z
  rcases Rat.mul_eq_zero.mp z with z | z
  · exact hc z
  · exact this z
theorem pwu_nil : pwu [] = [] := rfl
section
variable {p : List Rat}
theorem inv_ne {a : Rat} (h : a ≠ 0) : 1 / a ≠ 0 := by grind
theorem pwu_ne (h : p ≠ []) : pwu p = psc (1 / cf p (p.length - 1)) p := if_neg h
theorem trd_pwu (h : Trd p) : Trd (pwu p) := by
  by_cases h0 : p = []
  · rw [h0]; rfl
  · rw [pwu_ne h0]
    exact trd_psc (inv_ne (trd_last h h0)) h
theorem pwu_len : (pwu p).length = p.length := by
  by_cases h0 : p = []
  · rw [h0]; rfl
  · rw [pwu_ne h0, psc_len]
theorem pwu_last (h : Trd p) (h0 : p ≠ []) : cf (pwu p) (p.length - 1) = 1 := by
  have := trd_last h h0
  rw [pwu_ne h0, cf_psc]
  grind
theorem pwu_eq_nil : pwu p = [] ↔ p = [] := by
  constructor
  · intro h
    have := pwu_len (p := p)
    rw [h] at this
    exact List.length_eq_zero_iff.mp this.symm
  · intro h; rw [h]; rfl
end
/-! ### common divisors -/
/-- one turn: the divisor, the remainder (brought to the unit where u) -/
def gst (u : Bool) (s : List Rat × List Rat) : List Rat × List Rat := (s.2, if u = true then pwu (prem s.1 s.2) else prem s.1 s.2)
theorem gst_len {u : Bool} {s : List Rat × List Rat} (h : Trd s.2) (h0 : s.2 ≠ []) : (gst u s).2.length < s.2.length := by
  have := rem_len (p := s.1) h0 (trd_last h h0)
  unfold gst
  cases u
  · exact this
  · show (pwu _).length < _
    rw [pwu_len]; exact this
theorem gst_trd {u : Bool} {s : List Rat × List Rat} : Trd (gst u s).2 := by
  unfold gst
  cases u
  · exact trd_rem
  · exact trd_pwu trd_rem
/-- all turns -/
def gcdN (u : Bool) : Nat → List Rat × List Rat → List Rat
  | 0, s => s.1
  | n + 1, s => if s.2 = [] then s.1 else gcdN u n (gst u s)
def pgcd (u : Bool) (s : List Rat × List Rat) : List Rat := gcdN u s.2.length s
theorem gcdN_ge (u : Bool) : ∀ (n m : Nat) (s : List Rat × List Rat), Trd s.2 → s.2.length ≤ n → s.2.length ≤ m → gcdN u n s = gcdN u m s
  | 0, 0, _, _, _, _ => rfl
  | 0, m + 1, s, h, h1, _ => by
    have : s.2 = [] := List.length_eq_zero_iff.mp (by omega)
    rw [gcdN, gcdN, if_pos this]
  | n + 1, 0, s, h, _, h2 => by
    have : s.2 = [] := List.length_eq_zero_iff.mp (by omega)
    rw [gcdN, gcdN, if_pos this]
  | n + 1, m + 1, s, h, h1, h2 => by
    rw [gcdN, gcdN]
    by_cases h0 : s.2 = []
    · rw [if_pos h0, if_pos h0]
    · have := gst_len (u := u) h h0
      rw [if_neg h0, if_neg h0, gcdN_ge u n m _ gst_trd (by omega) (by omega)]
theorem pgcd_nil {u : Bool} {s : List Rat × List Rat} (h0 : s.2 = []) : pgcd u s = s.1 := by
  unfold pgcd
  rw [h0]; rfl
theorem pgcd_step {u : Bool} {s : List Rat × List Rat} (h : Trd s.2) (h0 : s.2 ≠ []) : pgcd u s = pgcd u (gst u s) := by
  have hm : 0 < s.2.length := List.length_pos_iff.mpr h0
  have hl := gst_len (u := u) h h0
  unfold pgcd
  obtain ⟨n, hn⟩ : ∃ n, s.2.length = n + 1 := ⟨s.2.length - 1, by omega⟩
  rw [hn, gcdN, if_neg h0]
  exact gcdN_ge u _ _ _ gst_trd (by omega) (Nat.le_refl _)
/-- it divides both -/
theorem pgcd_div (u : Bool) : ∀ (n : Nat) (s : List Rat × List Rat), s.2.length ≤ n → Trd s.2 → ∃ a b, (∀ x, ev s.1 x = ev (pgcd u s) x * ev a x) ∧ ∀ x, ev s.2 x = ev (pgcd u s) x * ev b x := by
  intro n
  induction n with
  | zero =>
    intro s h _
    have h0 : s.2 = [] := List.length_eq_zero_iff.mp (by omega)
    refine ⟨[1], [], fun x => ?_, fun x => ?_⟩
    · rw [pgcd_nil h0]; simp only [ev]; grind
    · rw [h0]; simp only [ev]; grind
  | succ n ih =>
    intro s h ht
    by_cases h0 : s.2 = []
    · refine ⟨[1], [], fun x => ?_, fun x => ?_⟩
      · rw [pgcd_nil h0]; simp only [ev]; grind
      · rw [h0]; simp only [ev]; grind
    · have hl := gst_len (u := u) ht h0
      obtain ⟨a, b, ha, hb⟩ := ih (gst u s) (by omega) gst_trd
      rw [← pgcd_step ht h0] at ha hb
      have hq := div_eq (p := s.1) h0 (trd_last ht h0)
      have hr : ∃ c, ∀ x, ev (prem s.1 s.2) x = ev (pgcd u s) x * ev c x := by
        cases u with
        | false => exact ⟨b, hb⟩
        | true =>
          by_cases r0 : prem s.1 s.2 = []
          · exact ⟨[], fun x => by rw [r0]; simp only [ev]; grind⟩
          · refine ⟨psc (cf (prem s.1 s.2) ((prem s.1 s.2).length - 1)) b, fun x => ?_⟩
            have e : ev (pwu (prem s.1 s.2)) x = _ := hb x
            have n0 := trd_last trd_rem r0
            rw [pwu_ne r0, ev_psc] at e
            rw [ev_psc]
            grind
      obtain ⟨c, hc⟩ := hr
      refine ⟨padd c (mulR (pquo s.1 s.2) a), a, fun x => ?_, fun x => ha x⟩
      have h1 := hq x
      have h2 := hc x
      have h3 : ev s.2 x = _ := ha x
      rw [ev_padd, ev_mulR]
      grind
theorem pgcd_trd (u : Bool) : ∀ (n : Nat) (s : List Rat × List Rat), s.2.length ≤ n → Trd s.1 → Trd s.2 → Trd (pgcd u s) := by
  intro n
  induction n with
  | zero =>
    intro s h h1 _
    rw [pgcd_nil (List.length_eq_zero_iff.mp (by omega))]
    exact h1
  | succ n ih =>
    intro s h h1 h2
    by_cases h0 : s.2 = []
    · rw [pgcd_nil h0]; exact h1
    · have hl := gst_len (u := u) h2 h0
      rw [pgcd_step h2 h0]
      exact ih _ (by omega) h2 gst_trd
theorem pgcd_ne (u : Bool) {s : List Rat × List Rat} (h2 : Trd s.2) (h : s.1 ≠ [] ∨ s.2 ≠ []) (h1 : Trd s.1) : pgcd u s ≠ [] := by
  intro e
  obtain ⟨a, b, ha, hb⟩ := pgcd_div u _ s (Nat.le_refl _) h2
  rw [e] at ha hb
  rcases h with h | h
  · exact h (trd_ev0 h1 fun x => by rw [ha]; simp only [ev]; grind)
  · exact h (trd_ev0 h2 fun x => by rw [hb]; simp only [ev]; grind)
/-! ### what the defs make of such lists -/
def pneg (p : List Rat) : List Rat := p.map fun a => -a
theorem cf_pneg (p : List Rat) (i : Nat) : cf (pneg p) i = -cf p i := by
  induction p generalizing i with
  | nil => simp [pneg, cf_nil]
  | cons a p ih =>
    cases i with
    | zero => rfl
    | succ i => simp only [pneg, List.map_cons, cf_succ] at ih ⊢; exact ih i
theorem pneg_len (p : List Rat) : (pneg p).length = p.length := by simp [pneg]
def pplus (p q : List Rat) : List Rat := trim ((List.range (max p.length q.length)).map fun i => cf p i + cf q i)
theorem cf_range (n : Nat) (g : Nat → Rat) (i : Nat) : cf ((List.range n).map g) i = if i < n then g i else 0 := by
  unfold cf
  rw [List.getD_eq_getElem?_getD, List.getElem?_map]
  by_cases h : i < n
  · rw [List.getElem?_range h, if_pos h]; rfl
  · rw [List.getElem?_eq_none (by rw [List.length_range]; omega), if_neg h]; rfl
theorem ev_pplus (p q : List Rat) (x : Rat) : ev (pplus p q) x = ev p x + ev q x := by
  rw [pplus, ev_trim, ← ev_padd]
  refine ev_ext (fun i => ?_) x
  rw [cf_range, cf_padd]
  split
  · rfl
  · rw [cf_ge (p := p) (by omega), cf_ge (p := q) (by omega)]; grind
def pscal (p : List Rat) (c : Rat) : List Rat := if c = 0 then [] else psc c p
def pder (p : List Rat) : List Rat := trim (((List.range p.length).map fun (i : Nat) => (i : Rat) * cf p i).drop 1)
def plow (p : List Rat) : Nat := ((List.range p.length).filter fun i => decide (cf p i ≠ 0)).headD 0
theorem pscal_ne {c : Rat} (h : c ≠ 0) (p : List Rat) : pscal p c = psc c p := if_neg h
theorem plow_zero {p : List Rat} (h : cf p 0 ≠ 0) : plow p = 0 := by
  cases p with
  | nil => exact absurd (cf_nil 0) h
  | cons a p =>
    unfold plow
    rw [List.length_cons, List.range_succ_eq_map, List.filter_cons, if_pos (by simpa using h)]
    rfl
end Sw

/-! sizes of coefficients: one common denominator -/
namespace Sw
def Iz (D M : Nat) (a : Rat) : Prop := ∃ z : Int, a * (D : Rat) = (z : Rat) ∧ z.natAbs ≤ M
def Bd (D M : Nat) (p : List Rat) : Prop := ∀ a ∈ p, Iz D M a
def Bnd (t : Nat) (p : List Rat) : Prop := ∃ D M : Nat, 0 < D ∧ D < 2 ^ t ∧ M < 2 ^ t ∧ Bd D M p
section
variable {D M E : Nat} {a b : Rat} {p q f : List Rat}
theorem Iz.zero : Iz D M 0 := ⟨0, by simp, by simp⟩
theorem Iz.mono {M' : Nat} (h : Iz D M a) (k : M ≤ M') : Iz D M' a := let ⟨z, e, l⟩ := h; ⟨z, e, Nat.le_trans l k⟩
theorem Iz.neg (h : Iz D M a) : Iz D M (-a) := let ⟨z, e, l⟩ := h; ⟨-z, by rw [Rat.neg_mul, e, Rat.intCast_neg], by rw [Int.natAbs_neg]; exact l⟩
theorem Iz.add (h : Iz D M a) (k : Iz D E b) : Iz D (M + E) (a + b) := let ⟨z, e, l⟩ := h; let ⟨z', e', l'⟩ := k
  ⟨z + z', by rw [Rat.add_mul, e, e', Rat.intCast_add], Nat.le_trans (Int.natAbs_add_le _ _) (Nat.add_le_add l l')⟩
theorem Iz.scale (h : Iz D M a) (e : Nat) : Iz (D * e) (M * e) a := let ⟨z, h1, l⟩ := h
  ⟨z * (e : Int), by rw [Rat.natCast_mul, ← Rat.mul_assoc, h1, Rat.intCast_mul]; rfl, by rw [Int.natAbs_mul]; exact Nat.mul_le_mul l (by simp)⟩
theorem Iz.mul {D' M' : Nat} (h : Iz D M a) (k : Iz D' M' b) : Iz (D * D') (M * M') (a * b) := let ⟨z, e, l⟩ := h; let ⟨z', e', l'⟩ := k
  ⟨z * z', by rw [Rat.natCast_mul, Rat.intCast_mul, ← e, ← e']; grind, by rw [Int.natAbs_mul]; exact Nat.mul_le_mul l l'⟩
theorem Iz.sm (h : Iz D M a) (hd : D ≠ 0) (h1 : D < 2 ^ SZ) (h2 : M < 2 ^ SZ) : Sm a := let ⟨z, e, l⟩ := h
  sm_of hd e (Nat.lt_of_le_of_lt l h2) h1
theorem Bd.cf (h : Bd D M p) (i : Nat) : Iz D M (cf p i) := by
  by_cases hi : i < p.length
  · exact h _ (cf_mem hi)
  · rw [cf_ge (by omega)]; exact Iz.zero
theorem bd_of (h : ∀ i, i < p.length → Iz D M (Sw.cf p i)) : Bd D M p := fun a m => by
  obtain ⟨i, hi, e⟩ := List.mem_iff_getElem.mp m
  have := h i hi
  rwa [show Sw.cf p i = a by simp [Sw.cf, hi, e]] at this
theorem Bd.mono {M' : Nat} (h : Bd D M p) (k : M ≤ M') : Bd D M' p := fun a m => (h a m).mono k
theorem Bd.scale (h : Bd D M p) (e : Nat) : Bd (D * e) (M * e) p := fun a m => (h a m).scale e
theorem Bd.set {v : Rat} {i : Nat} (h : Bd D M p) (k : Iz D M v) : Bd D M (p.set i v) := fun a m => by
  rcases List.mem_or_eq_of_mem_set m with m | e
  · exact h a m
  · rw [e]; exact k
theorem Bd.trim (h : Bd D M p) : Bd D M (trim p) := bd_of fun i _ => by rw [cf_trim]; exact h.cf i
theorem Bd.inner {k j : Nat} {c : Rat} (h : Bd D M f) (hc : ∀ i, Iz D E (c * Sw.cf q i)) : Bd D (M + j * E) (inner f k c q j) := by
  induction j with
  | zero => rw [Nat.zero_mul]; exact h
  | succ j ih =>
    have e : M + (j + 1) * E = M + j * E + E := by rw [Nat.succ_mul]; omega
    rw [Sw.inner, e]
    exact (ih.mono (Nat.le_add_right _ _)).set ((ih.cf _).add (hc _))
theorem Bd.zeros (n : Nat) : Bd D M (List.replicate n 0) := fun a m => by
  rw [List.eq_of_mem_replicate m]; exact Iz.zero
theorem Bd.mulSt {D' M' : Nat} (h : Bd D M p) (h' : Bd D' M' q) (k : Nat) : Bd (D * D') (k * (q.length * (M * M'))) (mulSt p q k) := by
  induction k with
  | zero => exact Bd.zeros _
  | succ k ih =>
    rw [Sw.mulSt, Nat.succ_mul]
    exact ih.inner fun i => (h.cf k).mul (h'.cf i)
end
section
variable {s t : Nat} {p q : List Rat}
theorem Bnd.mono {s' : Nat} (h : Bnd s p) (k : s ≤ s') : Bnd s' p := let ⟨D, M, h0, h1, h2, h3⟩ := h; ⟨D, M, h0, lt_two h1 k, lt_two h2 k, h3⟩
theorem Bnd.sm (h : Bnd s p) (k : s ≤ SZ) (i : Nat) : Sm (cf p i) := let ⟨D, M, h0, h1, h2, h3⟩ := h
  (h3.cf i).sm (by omega) (lt_two h1 k) (lt_two h2 k)
theorem Bnd.smM (h : Bnd s p) (k : s ≤ SZ) {a : Rat} (m : a ∈ p) : Sm a := let ⟨D, M, h0, h1, h2, h3⟩ := h
  (h3 a m).sm (by omega) (lt_two h1 k) (lt_two h2 k)
theorem Bnd.trim (h : Bnd s p) : Bnd s (trim p) := let ⟨D, M, h0, h1, h2, h3⟩ := h; ⟨D, M, h0, h1, h2, h3.trim⟩
theorem Bnd.nil : Bnd 1 [] := ⟨1, 0, by decide, by decide, by decide, fun a m => by cases m⟩
theorem Bnd.two (h : Bnd s p) : ∃ D M, 0 < D ∧ D < 2 ^ s ∧ M < 2 ^ s ∧ Bd D M p := h
/-- what poly_times wants -/
def MuOk (p q : List Rat) : Prop := ∃ s t, Bnd s p ∧ Bnd t q ∧ s + t + 14 ≤ SZ ∧ p.length ≤ 100 ∧ q.length ≤ 100
theorem mul3 {a b c : Nat} (h1 : a ≤ 10100) (h2 : b < 2 ^ s) (h3 : c < 2 ^ t) : a * (b * c) < 2 ^ (s + t + 14) := by
  have e := mul_two h2 h3
  have e2 : a < 2 ^ 14 := by
    have : (2 : Nat) ^ 14 = 16384 := by decide
    omega
  have := mul_two e2 e
  rwa [Nat.add_comm] at this
theorem mu_sm {k j : Nat} (h : MuOk p q) (hk : k < p.length) (hj : j ≤ q.length) : (∀ i, Sm (cf p i)) ∧ (∀ i, Sm (cf q i)) ∧ (∀ i, Sm (cf p k * cf q i)) ∧ ∀ i, Sm (cf (inner (mulSt p q k) k (cf p k) q j) i) := by
  obtain ⟨s, t, hs, ht, hz, lp, lq⟩ := h
  refine ⟨hs.sm (by omega), ht.sm (by omega), ?_⟩
  obtain ⟨D, M, h0, h1, h2, h3⟩ := hs
  obtain ⟨D', M', h0', h1', h2', h3'⟩ := ht
  have n0 : D * D' ≠ 0 := Nat.mul_ne_zero (by omega) (by omega)
  have d1 : D * D' < 2 ^ SZ := lt_two (mul_two h1 h1') (by omega)
  refine ⟨fun i => ((h3.cf k).mul (h3'.cf i)).sm n0 d1 (lt_two (mul_two h2 h2') (by omega)), fun i => ?_⟩
  have b := ((h3.mulSt h3' k).inner (k := k) (j := j) (c := cf p k) (q := q) fun i => (h3.cf k).mul (h3'.cf i)).cf i
  refine b.sm n0 d1 ?_
  rw [← Nat.mul_assoc, ← Nat.add_mul]
  have e : k * q.length + j ≤ 10100 := by
    have : k * q.length ≤ 100 * 100 := Nat.mul_le_mul (by omega) lq
    omega
  exact lt_two (mul3 e h2 h2') hz
theorem bnd_pmul (hs : Bnd s p) (ht : Bnd t q) (lp : p.length ≤ 100) (lq : q.length ≤ 100) : Bnd (s + t + 14) (pmul p q) := by
  obtain ⟨D, M, h0, h1, h2, h3⟩ := hs
  obtain ⟨D', M', h0', h1', h2', h3'⟩ := ht
  refine ⟨D * D', p.length * (q.length * (M * M')), Nat.mul_pos h0 h0', lt_two (mul_two h1 h1') (by omega), ?_, (h3.mulSt h3' _).trim⟩
  rw [← Nat.mul_assoc]
  exact mul3 (Nat.le_trans (Nat.mul_le_mul lp lq) (by decide)) h2 h2'
end
/-! ### division -/
section
variable {p q : List Rat}
/-- one turn of the division -/
theorem dv_turn {D M D2 M2 : Nat} {L : Int} {r : List Rat} {k i : Nat} {lead : Rat} (hD : 0 < D) (hD2 : 0 < D2) (hr : Bd D M r) (hq : Bd D2 M2 q) (hL : lead * (D2 : Rat) = (L : Rat)) (h0 : lead ≠ 0) (hL2 : L.natAbs ≤ M2) :
    0 < L.natAbs ∧ Iz (D * L.natAbs) (M * D2) (cf r i / lead) ∧ (∀ j, Iz (D * L.natAbs) (M * M2) (-(cf r i / lead) * cf q j)) ∧ ∀ j, Bd (D * L.natAbs) (M * M2 + j * (M * M2)) (inner r k (-(cf r i / lead)) q j) := by
  have d0 : (D : Rat) ≠ 0 := by
    have := cast_ne (b := (D : Int)) (by omega)
    exact this
  have d2 : (D2 : Rat) ≠ 0 := by
    have := cast_ne (b := (D2 : Int)) (by omega)
    exact this
  have l0 : (L : Rat) ≠ 0 := by
    rw [← hL]
    intro z
    rcases Rat.mul_eq_zero.mp z with z | z
    · exact h0 z
    · exact d2 z
  have lz : L ≠ 0 := by
    intro z
    rw [z] at l0
    exact l0 rfl
  have lp : 0 < L.natAbs := by omega
  -- |L| = e L, e a sign
  have hs : ∃ e : Int, e.natAbs = 1 ∧ ((L.natAbs : Nat) : Rat) = (e : Rat) * (L : Rat) := by
    rcases Int.natAbs_eq L with h | h
    · refine ⟨1, rfl, ?_⟩
      have : ((L.natAbs : Int) : Rat) = (L : Rat) := by rw [← h]
      show ((L.natAbs : Int) : Rat) = _
      rw [this]; simp
    · refine ⟨-1, rfl, ?_⟩
      have h' : (L.natAbs : Int) = -1 * L := by omega
      show ((L.natAbs : Int) : Rat) = _
      rw [h', Rat.intCast_mul]
  obtain ⟨e, he, hLe⟩ := hs
  obtain ⟨z, hz, lz2⟩ := hr.cf i
  have I1 : Iz (D * L.natAbs) (M * D2) (cf r i / lead) := by
    refine ⟨e * (z * (D2 : Int)), ?_, ?_⟩
    · rw [Rat.natCast_mul, hLe, Rat.intCast_mul, Rat.intCast_mul, ← hz]
      show _ = (e : Rat) * (cf r i * (D : Rat) * (D2 : Rat))
      grind
    · rw [Int.natAbs_mul, Int.natAbs_mul, he, Nat.one_mul]
      exact Nat.mul_le_mul lz2 (by simp)
  have I2 : ∀ j, Iz (D * L.natAbs) (M * M2) (-(cf r i / lead) * cf q j) := fun j => by
    obtain ⟨y, hy, ly⟩ := hq.cf j
    refine ⟨-(e * (z * y)), ?_, ?_⟩
    · rw [Rat.natCast_mul, hLe, Rat.intCast_neg, Rat.intCast_mul, Rat.intCast_mul, ← hz, ← hy]
      grind
    · rw [Int.natAbs_neg, Int.natAbs_mul, Int.natAbs_mul, he, Nat.one_mul]
      exact Nat.mul_le_mul lz2 ly
  exact ⟨lp, I1, I2, fun j => ((hr.scale L.natAbs).mono (Nat.mul_le_mul_left _ hL2)).inner I2⟩
def DvOk (p q : List Rat) : Prop := q ≠ [] ∧ cf q (q.length - 1) ≠ 0 ∧ q.length ≤ 100 ∧ p.length ≤ 100 ∧ ∃ s t, Bnd s p ∧ Bnd t q ∧ s + (p.length + 1 - q.length + 1) * (t + 7) ≤ SZ
theorem dv_inv {s t : Nat} (hq : cf q (q.length - 1) ≠ 0) (lq : q.length ≤ 100) (hs : Bnd s p) (ht : Bnd t q) (i : Nat) :
    ∃ D M F, 0 < D ∧ D < 2 ^ (s + i * (t + 7)) ∧ M < 2 ^ (s + i * (t + 7)) ∧ F < 2 ^ (s + (i + 1) * (t + 7)) ∧ Bd D M (dvSt p q i).1 ∧ Bd D F (dvSt p q i).2 := by
  obtain ⟨D2, M2, g0, g1, g2, g3⟩ := ht
  obtain ⟨L, hL, lL⟩ := g3.cf (q.length - 1)
  induction i with
  | zero =>
    obtain ⟨D, M, h0, h1, h2, h3⟩ := hs
    exact ⟨D, M, 0, h0, lt_two h1 (by omega), lt_two h2 (by omega), Nat.two_pow_pos _, h3, Bd.zeros _⟩
  | succ i ih =>
    obtain ⟨D, M, F, h0, h1, h2, hF, h3, h4⟩ := ih
    obtain ⟨lp, I1, I2, I3⟩ := dv_turn (k := p.length - q.length - i) (i := p.length - q.length - i + q.length - 1) h0 g0 h3 g3 hL hq lL
    have e1 : (i + 1) * (t + 7) = i * (t + 7) + (t + 7) := Nat.succ_mul _ _
    have e2 : (i + 1 + 1) * (t + 7) = (i + 1) * (t + 7) + (t + 7) := Nat.succ_mul _ _
    refine ⟨D * L.natAbs, M * M2 + q.length * (M * M2), F * M2 + M * D2, Nat.mul_pos h0 lp, ?_, ?_, ?_, I3 _, ?_⟩
    · exact lt_two (mul_two h1 (Nat.lt_of_le_of_lt lL g2)) (by omega)
    · have e : M * M2 + q.length * (M * M2) = (q.length + 1) * (M * M2) := by rw [Nat.succ_mul]; omega
      rw [e]
      have : q.length + 1 < 2 ^ 7 := by
        have : (2 : Nat) ^ 7 = 128 := by decide
        omega
      exact lt_two (mul_two this (mul_two h2 g2)) (by omega)
    · have a1 : F * M2 < 2 ^ (s + (i + 1) * (t + 7) + t) := mul_two hF g2
      have a2 : M * D2 < 2 ^ (s + (i + 1) * (t + 7) + t) := lt_two (mul_two h2 g1) (by omega)
      exact lt_two (add_two a1 a2) (by omega)
    · show Bd _ _ ((dvSt p q i).2.set _ _)
      exact (((h4.scale L.natAbs).mono (Nat.mul_le_mul_left _ lL)).mono (Nat.le_add_right _ _)).set (I1.mono (Nat.le_add_left _ _))
theorem dv_sm {i : Nat} (h : DvOk p q) (hi : i < p.length + 1 - q.length) :
    let r := (dvSt p q i).1
    let c := cf r (p.length - q.length - i + q.length - 1) / cf q (q.length - 1)
    (∀ k, Sm (cf r k)) ∧ (∀ k, Sm (cf q k)) ∧ Sm c ∧ (∀ k, Sm (-c * cf q k)) ∧ ∀ j k, j ≤ q.length → Sm (cf (inner r (p.length - q.length - i) (-c) q j) k) := by
  obtain ⟨q0, hq, lq, lp, s, t, hs, ht, hz⟩ := h
  obtain ⟨D, M, F, h0, h1, h2, hF, h3, h4⟩ := dv_inv hq lq hs ht i
  have ht' := ht
  obtain ⟨D2, M2, g0, g1, g2, g3⟩ := ht
  obtain ⟨L, hL, lL⟩ := g3.cf (q.length - 1)
  obtain ⟨lp', I1, I2, I3⟩ := dv_turn (k := p.length - q.length - i) (i := p.length - q.length - i + q.length - 1) h0 g0 h3 g3 hL hq lL
  have e0 : (i + 1 + 1) * (t + 7) ≤ (p.length + 1 - q.length + 1) * (t + 7) := Nat.mul_le_mul_right _ (by omega)
  have e1 : (i + 1) * (t + 7) = i * (t + 7) + (t + 7) := Nat.succ_mul _ _
  have e2 : (i + 1 + 1) * (t + 7) = (i + 1) * (t + 7) + (t + 7) := Nat.succ_mul _ _
  have n0 : D * L.natAbs ≠ 0 := Nat.mul_ne_zero (by omega) (by omega)
  have d1 : D * L.natAbs < 2 ^ SZ := lt_two (mul_two h1 (Nat.lt_of_le_of_lt lL g2)) (by omega)
  refine ⟨fun k => (h3.cf k).sm (by omega) (lt_two h1 (by omega)) (lt_two h2 (by omega)), ht'.sm (by omega), I1.sm n0 d1 (lt_two (mul_two h2 g1) (by omega)), fun k => (I2 k).sm n0 d1 (lt_two (mul_two h2 g2) (by omega)), fun j k hj => ?_⟩
  refine ((I3 j).cf k).sm n0 d1 ?_
  have e : M * M2 + j * (M * M2) = (j + 1) * (M * M2) := by rw [Nat.succ_mul]; omega
  rw [e]
  have : j + 1 < 2 ^ 7 := by
    have : (2 : Nat) ^ 7 = 128 := by decide
    omega
  exact lt_two (mul_two this (mul_two h2 g2)) (by omega)
theorem bnd_rem {s t : Nat} (hq : cf q (q.length - 1) ≠ 0) (lq : q.length ≤ 100) (hs : Bnd s p) (ht : Bnd t q) : Bnd (s + (p.length + 1 - q.length) * (t + 7)) (prem p q) := by
  obtain ⟨D, M, F, h0, h1, h2, hF, h3, h4⟩ := dv_inv hq lq hs ht (p.length + 1 - q.length)
  exact ⟨D, M, h0, h1, h2, h3.trim⟩
theorem bnd_quo {s t : Nat} (hq : cf q (q.length - 1) ≠ 0) (lq : q.length ≤ 100) (hs : Bnd s p) (ht : Bnd t q) : Bnd (s + (p.length + 1 - q.length + 1) * (t + 7)) (pquo p q) := by
  obtain ⟨D, M, F, h0, h1, h2, hF, h3, h4⟩ := dv_inv hq lq hs ht (p.length + 1 - q.length)
  exact ⟨D, F, h0, lt_two h1 (by rw [Nat.succ_mul]; omega), hF, h4.trim⟩
/-! ### by a unit -/
theorem iz_div {D M : Nat} {a l : Rat} {L : Int} (hD : 0 < D) (h : Iz D M a) (hL : l * (D : Rat) = (L : Rat)) (h0 : l ≠ 0) : Iz L.natAbs M (1 / l * a) := by
  obtain ⟨z, hz, lz⟩ := h
  have d0 : (D : Rat) ≠ 0 := by
    have := cast_ne (b := (D : Int)) (by omega)
    exact this
  rcases Int.natAbs_eq L with h | h
  · refine ⟨z, ?_, lz⟩
    have e : ((L.natAbs : Nat) : Rat) = (L : Rat) := by
      show ((L.natAbs : Int) : Rat) = _
      rw [← h]
    rw [e, ← hz, ← hL]
    grind
  · refine ⟨-z, ?_, by rw [Int.natAbs_neg]; exact lz⟩
    have h' : (L.natAbs : Int) = -1 * L := by omega
    have e : ((L.natAbs : Nat) : Rat) = -(L : Rat) := by
      show ((L.natAbs : Int) : Rat) = _
      rw [h', Rat.intCast_mul]
      simp
      grind
    rw [e, Rat.intCast_neg, ← hz, ← hL]
    grind
theorem bd_div {D M : Nat} {l : Rat} {L : Int} (hD : 0 < D) (h : Bd D M p) (hL : l * (D : Rat) = (L : Rat)) (h0 : l ≠ 0) : Bd L.natAbs M (psc (1 / l) p) := fun a m => by
  obtain ⟨b, hb, rfl⟩ := List.mem_map.mp m
  exact iz_div hD (h b hb) hL h0
theorem bnd_div {t : Nat} {l : Rat} (h : ∃ D M : Nat, 0 < D ∧ D < 2 ^ t ∧ M < 2 ^ t ∧ Bd D M p ∧ Iz D M l) (h0 : l ≠ 0) : Bnd t (psc (1 / l) p) := by
  obtain ⟨D, M, hD, h1, h2, h3, L, hL, lL⟩ := h
  have d0 : (D : Rat) ≠ 0 := by
    have := cast_ne (b := (D : Int)) (by omega)
    exact this
  have l0 : 0 < L.natAbs := by
    apply Nat.pos_of_ne_zero
    intro z
    have : L = 0 := by omega
    rw [this] at hL
    rcases Rat.mul_eq_zero.mp (hL.trans rfl) with z | z
    · exact h0 z
    · exact d0 z
  exact ⟨L.natAbs, M, l0, Nat.lt_of_le_of_lt lL h2, h2, bd_div hD h3 hL h0⟩
theorem bnd_pwu {t : Nat} (ht : Trd p) (h : Bnd t p) (t0 : 1 ≤ t) : Bnd t (pwu p) := by
  by_cases h0 : p = []
  · rw [h0]
    exact Bnd.nil.mono t0
  · rw [pwu_ne h0]
    obtain ⟨D, M, hD, h1, h2, h3⟩ := h
    exact bnd_div ⟨D, M, hD, h1, h2, h3, h3.cf _⟩ (trd_last ht h0)
end
end Sw

/-! sizes in the search of a common divisor -/
namespace Sw
def PotK (K n a b : Nat) : Prop := (2 * a + 5 * b + 50) * 5 ^ n ≤ K * 2 ^ n
abbrev Pot := PotK 4000000
theorem pot_c (d : Nat) : 5 * 2 ^ (d + 1) ≤ 2 * 5 ^ (d + 1) ∧ (5 * d + 12) * 2 ^ (d + 1) ≤ 5 * 5 ^ (d + 1) ∧ (35 * d + 120) * 2 ^ (d + 1) ≤ 50 * 5 ^ (d + 1) := by
  induction d with
  | zero => decide
  | succ d ih =>
    obtain ⟨h1, h2, h3⟩ := ih
    have e2 : 2 ^ (d + 1 + 1) = 2 ^ (d + 1) * 2 := Nat.pow_succ ..
    have e5 : 5 ^ (d + 1 + 1) = 5 ^ (d + 1) * 5 := Nat.pow_succ ..
    rw [e2, e5]
    generalize 2 ^ (d + 1) = u at *
    generalize 5 ^ (d + 1) = v at *
    refine ⟨by omega, ?_, ?_⟩
    · have k : (5 * (d + 1) + 12) * 2 ≤ (5 * d + 12) * 5 := by omega
      calc (5 * (d + 1) + 12) * (u * 2) = (5 * (d + 1) + 12) * 2 * u := by rw [Nat.mul_comm u 2, Nat.mul_assoc]
        _ ≤ (5 * d + 12) * 5 * u := Nat.mul_le_mul_right _ k
        _ = (5 * d + 12) * u * 5 := by rw [Nat.mul_right_comm]
        _ ≤ 5 * v * 5 := Nat.mul_le_mul_right _ h2
        _ = 5 * (v * 5) := by rw [Nat.mul_assoc]
    · have k : (35 * (d + 1) + 120) * 2 ≤ (35 * d + 120) * 5 := by omega
      calc (35 * (d + 1) + 120) * (u * 2) = (35 * (d + 1) + 120) * 2 * u := by rw [Nat.mul_comm u 2, Nat.mul_assoc]
        _ ≤ (35 * d + 120) * 5 * u := Nat.mul_le_mul_right _ k
        _ = (35 * d + 120) * u * 5 := by rw [Nat.mul_right_comm]
        _ ≤ 50 * v * 5 := Nat.mul_le_mul_right _ h3
        _ = 50 * (v * 5) := by rw [Nat.mul_assoc]
theorem pot_step {K m d a b : Nat} (h : PotK K (m + (d + 1)) a b) : PotK K m b (a + (d + 2) * (b + 7)) := by
  unfold PotK at *
  obtain ⟨h1, h2, h3⟩ := pot_c d
  rw [Nat.pow_add 5 m, Nat.pow_add 2 m] at h
  have e : 2 * b + 5 * (a + (d + 2) * (b + 7)) + 50 = 5 * a + (5 * d + 12) * b + (35 * d + 120) := by
    have : (d + 2) * (b + 7) = d * b + 7 * d + 2 * b + 14 := by rw [Nat.add_mul, Nat.mul_add, Nat.mul_add]; omega
    have e2 : (5 * d + 12) * b = 5 * (d * b) + 12 * b := by rw [Nat.add_mul, Nat.mul_assoc]
    rw [this, e2]
    omega
  have u0 : 0 < 2 ^ (d + 1) := Nat.two_pow_pos _
  generalize 2 ^ (d + 1) = u at *
  generalize 5 ^ (d + 1) = v at *
  generalize 2 ^ m = x at *
  generalize 5 ^ m = y at *
  have k : (5 * a + (5 * d + 12) * b + (35 * d + 120)) * u ≤ (2 * a + 5 * b + 50) * v := by
    have k1 : 5 * a * u ≤ 2 * a * v := by
      calc 5 * a * u = a * (5 * u) := by rw [Nat.mul_comm 5 a, Nat.mul_assoc]
        _ ≤ a * (2 * v) := Nat.mul_le_mul_left _ h1
        _ = 2 * a * v := by rw [← Nat.mul_assoc, Nat.mul_comm a 2]
    have k2 : (5 * d + 12) * b * u ≤ 5 * b * v := by
      calc (5 * d + 12) * b * u = b * ((5 * d + 12) * u) := by rw [Nat.mul_comm (5 * d + 12) b, Nat.mul_assoc]
        _ ≤ b * (5 * v) := Nat.mul_le_mul_left _ h2
        _ = 5 * b * v := by rw [← Nat.mul_assoc, Nat.mul_comm b 5]
    have e1 : (5 * a + (5 * d + 12) * b + (35 * d + 120)) * u = 5 * a * u + (5 * d + 12) * b * u + (35 * d + 120) * u := by rw [Nat.add_mul (5 * a + (5 * d + 12) * b), Nat.add_mul (5 * a)]
    have e2 : (2 * a + 5 * b + 50) * v = 2 * a * v + 5 * b * v + 50 * v := by rw [Nat.add_mul (2 * a + 5 * b), Nat.add_mul (2 * a)]
    rw [e1, e2]
    exact Nat.add_le_add (Nat.add_le_add k1 k2) h3
  rw [e]
  refine Nat.le_of_mul_le_mul_right (c := u) ?_ u0
  calc (5 * a + (5 * d + 12) * b + (35 * d + 120)) * y * u = (5 * a + (5 * d + 12) * b + (35 * d + 120)) * u * y := Nat.mul_right_comm ..
    _ ≤ (2 * a + 5 * b + 50) * v * y := Nat.mul_le_mul_right _ k
    _ = (2 * a + 5 * b + 50) * (y * v) := by rw [Nat.mul_assoc, Nat.mul_comm v y]
    _ ≤ K * (x * u) := h
    _ = K * x * u := by rw [Nat.mul_assoc]
theorem pot_n (n : Nat) : (n + 3) * 2 ^ (n + 2) * 25 ≤ 12 * 5 ^ (n + 2) := by
  induction n with
  | zero => decide
  | succ n ih =>
    have e2 : 2 ^ (n + 1 + 2) = 2 ^ (n + 2) * 2 := Nat.pow_succ ..
    have e5 : 5 ^ (n + 1 + 2) = 5 ^ (n + 2) * 5 := Nat.pow_succ ..
    rw [e2, e5]
    generalize 2 ^ (n + 2) = u at *
    generalize 5 ^ (n + 2) = v at *
    have k : (n + 1 + 3) * 2 ≤ (n + 3) * 5 := by omega
    have : (n + 1 + 3) * (u * 2) * 25 ≤ (n + 3) * u * 25 * 5 := by
      calc (n + 1 + 3) * (u * 2) * 25 = (n + 1 + 3) * 2 * u * 25 := by rw [Nat.mul_comm u 2, ← Nat.mul_assoc]
        _ ≤ (n + 3) * 5 * u * 25 := Nat.mul_le_mul_right _ (Nat.mul_le_mul_right _ k)
        _ = (n + 3) * u * 25 * 5 := by rw [Nat.mul_right_comm (n + 3) 5 u, Nat.mul_right_comm]
    omega
theorem pot_ok {K n a b : Nat} (hK : K ≤ 4000000) (hn : 2 ≤ n) (h : PotK K n a b) : a + (n + 1) * (b + 7) ≤ 400000 := by
  have h : PotK 4000000 n a b := Nat.le_trans h (Nat.mul_le_mul_right _ hK)
  unfold PotK at h
  obtain ⟨k, rfl⟩ : ∃ k, n = k + 2 := ⟨n - 2, by omega⟩
  have g := pot_n k
  have v0 : 0 < 5 ^ (k + 2) := Nat.pow_pos (by decide)
  generalize 2 ^ (k + 2) = u at *
  generalize 5 ^ (k + 2) = v at *
  have w : (2 * a + 5 * b + 50) * (k + 3) ≤ 1920000 := by
    refine Nat.le_of_mul_le_mul_right (c := v) ?_ v0
    calc (2 * a + 5 * b + 50) * (k + 3) * v = (2 * a + 5 * b + 50) * v * (k + 3) := Nat.mul_right_comm ..
      _ ≤ 4000000 * u * (k + 3) := Nat.mul_le_mul_right _ h
      _ = 160000 * ((k + 3) * u * 25) := by
        have : 4000000 * u * (k + 3) = 4000000 * ((k + 3) * u) := by rw [Nat.mul_assoc, Nat.mul_comm u]
        omega
      _ ≤ 160000 * (12 * v) := Nat.mul_le_mul_left _ g
      _ = 1920000 * v := by rw [← Nat.mul_assoc]
  have e1 : (2 * a + 5 * b + 50) * (k + 3) = 2 * (a * (k + 3)) + 5 * (b * (k + 3)) + 50 * (k + 3) := by
    rw [Nat.add_mul, Nat.add_mul, Nat.mul_assoc, Nat.mul_assoc]
  have e2 : (k + 2 + 1) * (b + 7) = b * (k + 3) + 7 * (k + 3) := by rw [Nat.mul_comm, Nat.add_mul]
  have e3 : a * 3 ≤ a * (k + 3) := Nat.mul_le_mul_left _ (by omega)
  rw [e2]
  omega
theorem pot_mono {K n m a b a' b' : Nat} (hn : n ≤ m) (ha : a ≤ a') (hb : b ≤ b') (h : PotK K m a' b') : PotK K n a b := by
  unfold PotK at *
  obtain ⟨k, rfl⟩ : ∃ k, m = n + k := ⟨m - n, by omega⟩
  rw [Nat.pow_add 5 n, Nat.pow_add 2 n] at h
  have u0 : 0 < 2 ^ k := Nat.two_pow_pos _
  have uv : 2 ^ k ≤ 5 ^ k := Nat.pow_le_pow_left (by decide) _
  generalize 2 ^ k = u at *
  generalize 5 ^ k = v at *
  generalize 2 ^ n = x at *
  generalize 5 ^ n = y at *
  refine Nat.le_of_mul_le_mul_right (c := u) ?_ u0
  calc (2 * a + 5 * b + 50) * y * u ≤ (2 * a' + 5 * b' + 50) * y * v := Nat.mul_le_mul (Nat.mul_le_mul_right _ (by omega)) uv
    _ = (2 * a' + 5 * b' + 50) * (y * v) := Nat.mul_assoc ..
    _ ≤ K * (x * u) := h
    _ = K * x * u := by rw [Nat.mul_assoc]
def GOkK (K : Nat) (s : List Rat × List Rat) : Prop := Trd s.1 ∧ Trd s.2 ∧ s.1.length ≤ 50 ∧ s.2.length ≤ 50 ∧ ∃ a b, 1 ≤ a ∧ 1 ≤ b ∧ Bnd a s.1 ∧ Bnd b s.2 ∧ a ≤ SZ ∧
  ((s.2.length < s.1.length ∧ PotK K s.1.length a b) ∨ (s.1.length ≤ s.2.length ∧ a + b ≤ 10000 ∧ PotK K s.2.length b (a + b + 7)))
abbrev GOk := GOkK 4000000
theorem gok_dv {K : Nat} {s : List Rat × List Rat} (h : GOkK K s) (h0 : s.2 ≠ []) (hK : K ≤ 4000000 := by decide) : DvOk s.1 s.2 := by
  obtain ⟨t1, t2, l1, l2, a, b, a1, b1, ha, hb, az, h⟩ := h
  have hm : 0 < s.2.length := List.length_pos_iff.mpr h0
  refine ⟨h0, trd_last t2 h0, by omega, by omega, a, b, ha, hb, ?_⟩
  rw [SZ_eq]
  rcases h with ⟨h1, h2⟩ | ⟨h1, h2, h3⟩
  · have := pot_ok hK (by omega) h2
    have : (s.1.length + 1 - s.2.length + 1) * (b + 7) ≤ (s.1.length + 1) * (b + 7) := Nat.mul_le_mul_right _ (by omega)
    omega
  · have : (s.1.length + 1 - s.2.length + 1) * (b + 7) ≤ 2 * (b + 7) := Nat.mul_le_mul_right _ (by omega)
    omega
theorem gok_step {K : Nat} {u : Bool} {s : List Rat × List Rat} (h : GOkK K s) (h0 : s.2 ≠ []) (hK : K ≤ 4000000 := by decide) : GOkK K (gst u s) := by
  obtain ⟨t1, t2, l1, l2, a, b, a1, b1, ha, hb, az, h⟩ := h
  have hm : 0 < s.2.length := List.length_pos_iff.mpr h0
  have hl := trd_last t2 h0
  have ll := gst_len (u := u) t2 h0
  have br := bnd_rem hl (by omega) ha hb
  have key : ∀ b', a + (s.1.length + 1 - s.2.length) * (b + 7) ≤ b' → PotK K s.2.length b b' → b ≤ SZ → GOkK K (gst u s) := fun b' hle hp bz => by
    refine ⟨t2, gst_trd, l2, Nat.le_trans (Nat.le_of_lt ll) l2, b, b', b1, by omega, hb, ?_, bz, .inl ⟨ll, hp⟩⟩
    unfold gst
    cases u
    · exact br.mono hle
    · exact bnd_pwu trd_rem (br.mono hle) (by omega)
  rw [SZ_eq] at key
  rcases h with ⟨h1, h2⟩ | ⟨h1, h2, h3⟩
  · obtain ⟨d, hd⟩ : ∃ d, s.1.length = s.2.length + (d + 1) := ⟨s.1.length - s.2.length - 1, by omega⟩
    have hk := pot_ok hK (by omega) h2
    refine key (a + (d + 2) * (b + 7)) ?_ (pot_step (by rw [← hd]; exact h2)) ?_
    · rw [show s.1.length + 1 - s.2.length = d + 2 by omega]
      omega
    · have : 1 * (b + 7) ≤ (s.1.length + 1) * (b + 7) := Nat.mul_le_mul_right _ (by omega)
      omega
  · refine key (a + b + 7) ?_ h3 (by omega)
    have : (s.1.length + 1 - s.2.length) * (b + 7) ≤ 1 * (b + 7) := Nat.mul_le_mul_right _ (by omega)
    omega
theorem gok_sm {K : Nat} {s : List Rat × List Rat} (h : GOkK K s) (i : Nat) : Sm (cf s.1 i) := by
  obtain ⟨t1, t2, l1, l2, a, b, a1, b1, ha, hb, az, h⟩ := h
  exact ha.sm az i
theorem gok_bnd {K : Nat} {s : List Rat × List Rat} (h : GOkK K s) : ∃ a, Bnd a s.1 ∧ a ≤ SZ := by
  obtain ⟨t1, t2, l1, l2, a, b, a1, b1, ha, hb, az, h⟩ := h
  exact ⟨a, ha, az⟩
/-- the last of the turns is of that size, too -/
theorem gok_gcd {K : Nat} {u : Bool} (hK : K ≤ 4000000) : ∀ (n : Nat) (s : List Rat × List Rat), s.2.length ≤ n → GOkK K s → ∃ s', GOkK K s' ∧ s'.2 = [] ∧ s'.1 = pgcd u s := by
  intro n
  induction n with
  | zero =>
    intro s h g
    have h0 : s.2 = [] := List.length_eq_zero_iff.mp (by omega)
    exact ⟨s, g, h0, (pgcd_nil h0).symm⟩
  | succ n ih =>
    intro s h g
    by_cases h0 : s.2 = []
    · exact ⟨s, g, h0, (pgcd_nil h0).symm⟩
    · have := gst_len (u := u) g.2.1 h0
      obtain ⟨s', g', e0, e1⟩ := ih (gst u s) (by omega) (gok_step g h0 hK)
      exact ⟨s', g', e0, by rw [e1, ← pgcd_step g.2.1 h0]⟩
theorem gcd_bnd {u : Bool} {s : List Rat × List Rat} (h : GOkK 60000 s) : ∃ t, t ≤ 12000 ∧ Bnd t (pgcd u s) := by
  obtain ⟨s', g, e0, e1⟩ := gok_gcd (u := u) (by decide) _ s (Nat.le_refl _) h
  obtain ⟨t1, t2, l1, l2, a, b, a1, b1, ha, hb, az, h⟩ := g
  rw [← e1]
  rcases h with ⟨h1, h2⟩ | ⟨h1, h2, h3⟩
  · refine ⟨a, ?_, ha⟩
    have k := pot_mono (n := 1) (by omega) (Nat.le_refl a) (Nat.le_refl b) h2
    unfold PotK at k
    omega
  · rw [e0] at h1
    have : s'.1 = [] := List.length_eq_zero_iff.mp (by simpa using h1)
    rw [this]
    exact ⟨1, by decide, Bnd.nil⟩
end Sw

/-! stepping a row down -/
namespace Sw
def small (q : Rat) : Bool := decide (q.num.natAbs < q.den)
def lastOf (p : List Rat) : Rat := cf p (p.length - 1)
def sdE (p : List Rat) (i : Nat) : Rat := (cf p i - lastOf p * cf p (p.length - 1 - i)) / (1 - lastOf p * lastOf p)
def sdrow (p : List Rat) : List Rat := (List.range (p.length - 1)).map (sdE p)
def sdn (p : List Rat) : List Rat := trim (sdrow p)
def drow : Nat → List Rat → Option (List (Nat × Rat))
  | 0, _ => some []
  | n + 1, p => if p.length ≤ 1 then some [] else if small (lastOf p) = true then (drow n (sdn p)).map ((p.length - 1, lastOf p) :: ·) else none
section
variable {p : List Rat} {t : Nat}
theorem den_mul (q : Rat) : q * (q.den : Rat) = (q.num : Rat) := by
  have h := Rat.num_divInt_den q
  rw [Rat.divInt_eq_div] at h
  have h0 : ((q.den : Int) : Rat) ≠ 0 := cast_ne (by have := q.den_nz; omega)
  have : ((q.den : Nat) : Rat) = ((q.den : Int) : Rat) := rfl
  rw [this]
  grind
theorem small_int {q : Rat} {D : Nat} {L : Int} (hD : 0 < D) (h : small q = true) (hL : q * (D : Rat) = (L : Rat)) : L.natAbs < D := by
  have h1 : q.num.natAbs < q.den := of_decide_eq_true h
  have e := den_mul q
  have e2 : (q.num : Rat) * ((D : Int) : Rat) = (L : Rat) * ((q.den : Int) : Rat) := by
    have a1 : ((D : Int) : Rat) = (D : Rat) := rfl
    have a2 : ((q.den : Int) : Rat) = (q.den : Rat) := rfl
    rw [a1, a2, ← e, ← hL]
    grind
  rw [← Rat.intCast_mul, ← Rat.intCast_mul] at e2
  have e3 := Rat.intCast_inj.mp e2
  have e4 : q.num.natAbs * D = L.natAbs * q.den := by
    have := congrArg Int.natAbs e3
    rw [Int.natAbs_mul, Int.natAbs_mul] at this
    simpa using this
  apply Nat.lt_of_not_le
  intro hle
  have k1 : D * q.den ≤ L.natAbs * q.den := Nat.mul_le_mul_right _ hle
  have k2 : q.num.natAbs * D < q.den * D := Nat.mul_lt_mul_of_pos_right h1 hD
  rw [Nat.mul_comm q.den D] at k2
  omega
theorem rat_nat_sub {a b : Nat} (h : b ≤ a) : ((a - b : Nat) : Rat) = (a : Rat) - (b : Rat) := by
  have : ((a - b : Nat) : Int) = (a : Int) - (b : Int) := by omega
  show (((a - b : Nat) : Int) : Rat) = ((a : Int) : Rat) - ((b : Int) : Rat)
  rw [this, Rat.intCast_sub]
theorem sd_facts (h : Bnd t p) (hs : small (lastOf p) = true) : 1 - lastOf p * lastOf p ≠ 0 ∧
    ∃ D M D' : Nat, 0 < D ∧ D < 2 ^ t ∧ M < 2 ^ t ∧ 0 < D' ∧ D' ≤ D * D ∧ Bd D M p ∧ (∀ i j, Iz (D * D) (2 * (M * D)) (cf p i - lastOf p * cf p j)) ∧ (∀ i j, Iz D' (2 * (M * D)) ((cf p i - lastOf p * cf p j) / (1 - lastOf p * lastOf p))) ∧
      Iz (D * D) (D * D) (lastOf p * lastOf p) ∧ Iz (D * D) (D * D) (1 - lastOf p * lastOf p) ∧ ∀ j, Iz (D * D) (M * D) (lastOf p * cf p j) := by
  obtain ⟨D, M, h0, h1, h2, h3⟩ := h
  obtain ⟨L, hL, lL⟩ := h3.cf (p.length - 1)
  have hL' : lastOf p * (D : Rat) = (L : Rat) := hL
  have lt := small_int h0 hs hL'
  have d0 : (D : Rat) ≠ 0 := cast_ne (b := (D : Int)) (by omega)
  have sq : L.natAbs * L.natAbs < D * D := Nat.mul_lt_mul'' lt lt
  have eD : ((D * D - L.natAbs * L.natAbs : Nat) : Rat) = (1 - lastOf p * lastOf p) * ((D : Rat) * (D : Rat)) := by
    rw [rat_nat_sub (Nat.le_of_lt sq), Rat.natCast_mul, Rat.natCast_mul]
    have : (L.natAbs : Rat) * (L.natAbs : Rat) = (L : Rat) * (L : Rat) := by
      show ((L.natAbs : Int) : Rat) * ((L.natAbs : Int) : Rat) = _
      rw [← Rat.intCast_mul, ← Rat.intCast_mul]
      congr 1
      exact Int.natAbs_mul_self' L
    rw [this, ← hL']
    grind
  have D'0 : 0 < D * D - L.natAbs * L.natAbs := by omega
  have n1 : 1 - lastOf p * lastOf p ≠ 0 := by
    intro z
    rw [z] at eD
    have : ((D * D - L.natAbs * L.natAbs : Nat) : Rat) ≠ 0 := cast_ne (b := ((D * D - L.natAbs * L.natAbs : Nat) : Int)) (by omega)
    exact this (by rw [eD]; grind)
  have Ilast : Iz D D (lastOf p) := ⟨L, hL', Nat.le_of_lt lt⟩
  have I3 : ∀ j, Iz (D * D) (M * D) (lastOf p * cf p j) := fun j => by
    have := Ilast.mul (h3.cf j)
    rwa [Nat.mul_comm D M] at this
  have I2 : ∀ i j, Iz (D * D) (2 * (M * D)) (cf p i - lastOf p * cf p j) := fun i j => by
    have := ((h3.cf i).scale D).add (I3 j).neg
    rw [← Rat.sub_eq_add_neg] at this
    exact this.mono (by omega)
  refine ⟨n1, D, M, D * D - L.natAbs * L.natAbs, h0, h1, h2, D'0, by omega, h3, I2, fun i j => ?_, Ilast.mul Ilast, ?_, I3⟩
  · obtain ⟨z, hz, lz⟩ := I2 i j
    refine ⟨z, ?_, lz⟩
    rw [eD, ← hz, Rat.natCast_mul]
    grind
  · have I1 : Iz (D * D) (D * D) (1 - lastOf p * lastOf p) := by
      refine ⟨((D * D - L.natAbs * L.natAbs : Nat) : Int), ?_, ?_⟩
      · rw [Rat.natCast_mul, ← eD]; rfl
      · simp
    exact I1
theorem bnd_sdn (h : Bnd t p) (hs : small (lastOf p) = true) : Bnd (2 * t + 1) (sdn p) := by
  obtain ⟨_, D, M, D', h0, h1, h2, hD, hD', h3, I2, I4, _⟩ := sd_facts h hs
  refine Bnd.trim ⟨D', 2 * (M * D), hD, ?_, ?_, bd_of fun i hi => ?_⟩
  · exact lt_two (Nat.lt_of_le_of_lt hD' (mul_two h1 h1)) (by omega)
  · have : 2 ^ (2 * t + 1) = 2 * 2 ^ (t + t) := by rw [Nat.pow_succ, Nat.mul_comm, show 2 * t = t + t by omega]
    rw [this]
    have := mul_two h2 h1
    omega
  · rw [sdrow, cf_range]
    split
    · exact I4 _ _
    · exact Iz.zero
theorem sd_sm (h : Bnd t p) (hs : small (lastOf p) = true) (ht : 2 * t + 1 ≤ SZ) : (∀ i, Sm (cf p i)) ∧ Sm (lastOf p * lastOf p) ∧ Sm (1 - lastOf p * lastOf p) ∧ (∀ j, Sm (lastOf p * cf p j)) ∧ ∀ i j, Sm (cf p i - lastOf p * cf p j) := by
  obtain ⟨_, D, M, D', h0, h1, h2, hD, hD', h3, I2, I4, I5, I6, I7⟩ := sd_facts h hs
  have n0 : D * D ≠ 0 := Nat.mul_ne_zero (by omega) (by omega)
  have d1 : D * D < 2 ^ SZ := lt_two (mul_two h1 h1) (by omega)
  have m1 : M * D < 2 ^ SZ := lt_two (mul_two h2 h1) (by omega)
  have m2 : 2 * (M * D) < 2 ^ SZ := by
    have := mul_two h2 h1
    have e : 2 ^ (t + t + 1) = 2 ^ (t + t) * 2 := Nat.pow_succ ..
    exact lt_two (a := t + t + 1) (by omega) (by omega)
  exact ⟨fun i => (h3.cf i).sm (by omega) (lt_two h1 (by omega)) (lt_two h2 (by omega)), I5.sm n0 d1 d1, I6.sm n0 d1 d1, fun j => (I7 j).sm n0 d1 m1, fun i j => (I2 i j).sm n0 d1 m2⟩
theorem sdE_zero (h1 : cf p 0 = 1) (n1 : 1 - lastOf p * lastOf p ≠ 0) : sdE p 0 = 1 := by
  unfold sdE
  have : cf p (p.length - 1 - 0) = lastOf p := rfl
  rw [this, h1]
  grind
theorem sdrow_len : (sdrow p).length = p.length - 1 := by simp [sdrow]
theorem cf_sdn0 (h1 : cf p 0 = 1) (n1 : 1 - lastOf p * lastOf p ≠ 0) (hl : 2 ≤ p.length) : cf (sdn p) 0 = 1 := by
  rw [sdn, cf_trim, sdrow, cf_range, if_pos (by omega), sdE_zero h1 n1]
theorem sdn_len : (sdn p).length ≤ p.length - 1 := by
  have := trim_len (sdrow p)
  rwa [sdrow_len] at this
theorem sdn_pos (h1 : cf p 0 = 1) (n1 : 1 - lastOf p * lastOf p ≠ 0) (hl : 2 ≤ p.length) : 1 ≤ (sdn p).length := by
  have := cf_sdn0 h1 n1 hl
  apply Nat.pos_of_ne_zero
  intro e
  rw [cf_ge (by omega)] at this
  exact absurd this (by decide)
theorem drow_ge : ∀ (n m : Nat) (p : List Rat), p.length ≤ n → p.length ≤ m → drow n p = drow m p
  | 0, 0, _, _, _ => rfl
  | 0, m + 1, p, h, _ => by rw [drow, drow, if_pos (by omega)]
  | n + 1, 0, p, _, h => by rw [drow, drow, if_pos (by omega)]
  | n + 1, m + 1, p, h, h' => by
    rw [drow, drow]
    by_cases h0 : p.length ≤ 1
    · rw [if_pos h0, if_pos h0]
    · have := sdn_len (p := p)
      rw [if_neg h0, if_neg h0, drow_ge n m (sdn p) (by omega) (by omega)]
/-- what down_row wants -/
def DrOk (p : List Rat) : Prop := cf p 0 = 1 ∧ p.length ≤ 100 ∧ ∃ t, Bnd t p ∧ (t + 1) * 2 ^ p.length ≤ SZ
theorem drok_t (h : DrOk p) (hl : 2 ≤ p.length) : ∃ t, Bnd t p ∧ 2 * t + 1 ≤ SZ := by
  obtain ⟨_, _, t, ht, hz⟩ := h
  refine ⟨t, ht, Nat.le_trans ?_ hz⟩
  have : 2 ^ 2 ≤ 2 ^ p.length := two_le hl
  have k : (t + 1) * 2 ^ 2 ≤ (t + 1) * 2 ^ p.length := Nat.mul_le_mul_left _ this
  omega
theorem drok_step (h : DrOk p) (hl : 2 ≤ p.length) (hs : small (lastOf p) = true) : DrOk (sdn p) := by
  obtain ⟨h1, lp, t, ht, hz⟩ := h
  obtain ⟨n1, _⟩ := sd_facts ht hs
  have ll := sdn_len (p := p)
  refine ⟨cf_sdn0 h1 n1 hl, by omega, 2 * t + 1, bnd_sdn ht hs, Nat.le_trans ?_ hz⟩
  have e : p.length = p.length - 1 + 1 := by omega
  have k1 : 2 ^ (sdn p).length ≤ 2 ^ (p.length - 1) := two_le ll
  have k2 : 2 ^ p.length = 2 ^ (p.length - 1) * 2 := by
    rw [← Nat.pow_succ]
    exact congrArg (2 ^ ·) e
  calc (2 * t + 1 + 1) * 2 ^ (sdn p).length ≤ (2 * t + 1 + 1) * 2 ^ (p.length - 1) := Nat.mul_le_mul_left _ k1
    _ = (t + 1) * 2 ^ p.length := by rw [k2, ← Nat.mul_assoc, Nat.mul_right_comm, show 2 * t + 1 + 1 = (t + 1) * 2 by omega]
def pdown (p : List Rat) : Option (List (Nat × Rat)) := drow p.length p
theorem pdown_le1 (h : p.length ≤ 1) : pdown p = some [] := by
  unfold pdown
  cases e : p.length with
  | zero => rfl
  | succ n => rw [drow, if_pos h]
theorem pdown_no (h : 2 ≤ p.length) (hs : small (lastOf p) = false) : pdown p = none := by
  unfold pdown
  obtain ⟨n, hn⟩ : ∃ n, p.length = n + 1 := ⟨p.length - 1, by omega⟩
  rw [hn, drow, if_neg (by omega), hs]
  rfl
theorem pdown_yes (h : 2 ≤ p.length) (hs : small (lastOf p) = true) : pdown p = (pdown (sdn p)).map ((p.length - 1, lastOf p) :: ·) := by
  unfold pdown
  have ll := sdn_len (p := p)
  obtain ⟨n, hn⟩ : ∃ n, p.length = n + 1 := ⟨p.length - 1, by omega⟩
  rw [hn, drow, if_neg (by omega), if_pos hs, drow_ge n (sdn p).length (sdn p) (by omega) (Nat.le_refl _), hn]
/-- a row from the unit -/
def pone (p : List Rat) : List Rat := psc (1 / cf p 0) p
def KeOk (p : List Rat) : Prop := cf p 0 ≠ 0 ∧ p.length ≤ 100 ∧ ∃ t, Bnd t p ∧ t ≤ SZ ∧ (t + 1) * 2 ^ p.length ≤ SZ
theorem keok_dr (h : KeOk p) : DrOk (pone p) := by
  obtain ⟨h0, lp, t, ht, _, hz⟩ := h
  refine ⟨?_, by rw [pone, psc_len]; exact lp, t, ?_, by rw [pone, psc_len]; exact hz⟩
  · rw [pone, cf_psc]; grind
  · obtain ⟨D, M, k0, k1, k2, k3⟩ := ht
    exact bnd_div ⟨D, M, k0, k1, k2, k3, k3.cf 0⟩ h0
def pdies (p : List Rat) : Bool := (pdown (pone p)).isSome
end
end Sw

/-! quotients -/
namespace Sw
abbrev PQ := List Rat × List Rat
/-- above and below, brought to lowest terms -/
def pgc (s : PQ) : List Rat := pwu (pgcd true s)
def pmk (s : PQ) : PQ := (psc (1 / lastOf (pquo s.2 (pgc s))) (pquo s.1 (pgc s)), psc (1 / lastOf (pquo s.2 (pgc s))) (pquo s.2 (pgc s)))
def MkOk (s : PQ) : Prop := s.2 ≠ [] ∧ GOk s ∧ ∃ r t, Bnd r s.1 ∧ Bnd r s.2 ∧ Bnd t (pgc s) ∧ r + 60 * (t + 7) ≤ SZ
theorem pgc_facts {s : PQ} (h0 : s.2 ≠ []) (t1 : Trd s.1) (t2 : Trd s.2) : Trd (pgc s) ∧ pgc s ≠ [] ∧ lastOf (pgc s) = 1 ∧ (pgc s).length ≤ s.2.length ∧ ∃ a b, Trd a ∧ Trd b ∧ b ≠ [] ∧ (∀ x, ev s.1 x = ev (pgc s) x * ev a x) ∧ (∀ x, ev s.2 x = ev (pgc s) x * ev b x) ∧ prem s.1 (pgc s) = [] ∧ prem s.2 (pgc s) = [] ∧ pquo s.1 (pgc s) = a ∧ pquo s.2 (pgc s) = b := by
  have g0 := pgcd_ne true t2 (.inr h0) t1
  have gt := pgcd_trd true _ s (Nat.le_refl _) t1 t2
  obtain ⟨a, b, ha, hb⟩ := pgcd_div true _ s (Nat.le_refl _) t2
  have n0 := trd_last gt g0
  have e1 : Trd (pgc s) := trd_pwu gt
  have e2 : pgc s ≠ [] := fun e => g0 (pwu_eq_nil.mp e)
  have e3 : lastOf (pgc s) = 1 := by
    unfold lastOf pgc
    rw [pwu_len]
    exact pwu_last gt g0
  have fa : ∀ x, ev s.1 x = ev (pgc s) x * ev (trim (psc (cf (pgcd true s) ((pgcd true s).length - 1)) a)) x := fun x => by
    rw [ev_trim, ev_psc, pgc, pwu_ne g0, ev_psc, ha x]; grind
  have fb : ∀ x, ev s.2 x = ev (pgc s) x * ev (trim (psc (cf (pgcd true s) ((pgcd true s).length - 1)) b)) x := fun x => by
    rw [ev_trim, ev_psc, pgc, pwu_ne g0, ev_psc, hb x]; grind
  obtain ⟨ra, qa⟩ := exact_div e1 e2 fa
  obtain ⟨rb, qb⟩ := exact_div e1 e2 fb
  rw [show trim (trim (psc (cf (pgcd true s) ((pgcd true s).length - 1)) a)) = _ from trd_trim _] at qa
  rw [show trim (trim (psc (cf (pgcd true s) ((pgcd true s).length - 1)) b)) = _ from trd_trim _] at qb
  have nb : trim (psc (cf (pgcd true s) ((pgcd true s).length - 1)) b) ≠ [] := by
    intro e
    rw [e] at fb
    exact h0 (trd_ev0 t2 fun x => by rw [fb]; simp only [ev]; grind)
  have hl := (prod_len e1 (trd_trim _) t2 e2 nb fb).1
  have lb := List.length_pos_iff.mpr nb
  exact ⟨e1, e2, e3, by omega, _, _, trd_trim _, trd_trim _, nb, fa, fb, ra, rb, qa, qb⟩
/-- what comes of it: g, and both over g, with 1 at the head of the lower -/
theorem pmk_facts {s : PQ} (h0 : s.2 ≠ []) (t1 : Trd s.1) (t2 : Trd s.2) : Trd (pmk s).1 ∧ Trd (pmk s).2 ∧ (pmk s).2 ≠ [] ∧ lastOf (pmk s).2 = 1 ∧ lastOf s.2 ≠ 0 ∧ (∀ x, ev s.1 x = lastOf s.2 * (ev (pgc s) x * ev (pmk s).1 x)) ∧ ∀ x, ev s.2 x = lastOf s.2 * (ev (pgc s) x * ev (pmk s).2 x) := by
  obtain ⟨g1, g2, g3, g4, a, b, ta, tb, nb, fa, fb, _, _, qa, qb⟩ := pgc_facts h0 t1 t2
  have lb : lastOf b ≠ 0 := trd_last tb nb
  have li : 1 / lastOf b ≠ 0 := inv_ne lb
  have ls : lastOf s.2 = lastOf b := by
    have := (prod_len g1 tb t2 g2 nb fb).2
    unfold lastOf at g3 ⊢
    rw [this, g3]; grind
  unfold pmk
  rw [qa, qb]
  refine ⟨trd_psc li ta, trd_psc li tb, ?_, ?_, by rw [ls]; exact lb, fun x => ?_, fun x => ?_⟩
  · intro e
    have := congrArg List.length e
    rw [psc_len] at this
    exact nb (List.length_eq_zero_iff.mp this)
  · unfold lastOf at lb ⊢
    rw [psc_len, cf_psc]; grind
  · rw [ls, fa x, ev_psc]; grind
  · rw [ls, fb x, ev_psc]; grind
theorem mk_dv {s : PQ} (h : MkOk s) : DvOk s.1 (pgc s) ∧ DvOk s.2 (pgc s) ∧ (∀ i, Sm (cf (pquo s.1 (pgc s)) i)) ∧ (∀ i, Sm (cf (pquo s.2 (pgc s)) i)) ∧ lastOf (pquo s.2 (pgc s)) ≠ 0 ∧ pquo s.2 (pgc s) ≠ [] ∧ (pquo s.1 (pgc s)).length ≤ 100 ∧ (pquo s.2 (pgc s)).length ≤ 100 := by
  obtain ⟨h0, g, r, t, b1, b2, b3, hz⟩ := h
  obtain ⟨t1, t2, l1, l2, _⟩ := id g
  obtain ⟨g1, g2, g3, g4, a, b, ta, tb, nb, fa, fb, _, _, qa, qb⟩ := pgc_facts h0 t1 t2
  have gl : cf (pgc s) ((pgc s).length - 1) ≠ 0 := by
    show lastOf (pgc s) ≠ 0
    rw [g3]; decide
  have k1 : (s.1.length + 1 - (pgc s).length + 1) * (t + 7) ≤ 60 * (t + 7) := Nat.mul_le_mul_right _ (by omega)
  have k2 : (s.2.length + 1 - (pgc s).length + 1) * (t + 7) ≤ 60 * (t + 7) := Nat.mul_le_mul_right _ (by omega)
  have q1 := quo_len (p := s.1) (q := pgc s)
  have q2 := quo_len (p := s.2) (q := pgc s)
  refine ⟨⟨g2, gl, by omega, by omega, r, t, b1, b3, by omega⟩, ⟨g2, gl, by omega, by omega, r, t, b2, b3, by omega⟩, ((bnd_quo gl (by omega) b1 b3).mono (by omega)).sm (Nat.le_refl _), ((bnd_quo gl (by omega) b2 b3).mono (by omega)).sm (Nat.le_refl _), ?_, ?_, by omega, by omega⟩
  · rw [qb]; exact trd_last tb nb
  · rw [qb]; exact nb
/-- the sum of two, their difference, their product -/
def psum (a b : PQ) : PQ := pmk (pplus (pmul a.1 b.2) (pmul b.1 a.2), pmul a.2 b.2)
def pprod (a b : PQ) : PQ := pmk (pmul a.1 b.1, pmul a.2 b.2)
def SuOk (a b : PQ) : Prop := MuOk a.1 b.2 ∧ MuOk b.1 a.2 ∧ MuOk a.2 b.2 ∧ MkOk (pplus (pmul a.1 b.2) (pmul b.1 a.2), pmul a.2 b.2)
def PrOk (a b : PQ) : Prop := MuOk a.1 b.1 ∧ MuOk a.2 b.2 ∧ MkOk (pmul a.1 b.1, pmul a.2 b.2)
theorem mu_out {p q : List Rat} (h : MuOk p q) : (∀ i, Sm (cf (pmul p q) i)) ∧ (pmul p q).length ≤ 1000 := by
  obtain ⟨s, t, hs, ht, hz, lp, lq⟩ := h
  have := pmul_len p q
  exact ⟨(bnd_pmul hs ht lp lq).sm hz, by omega⟩
/-! ### values -/
/-- what value_at wants -/
def VaOk (p : List Rat) (x : Rat) : Prop := p.length ≤ 1000 ∧ Sm x ∧ (∀ i, Sm (cf p i)) ∧ (∀ i, Sm (ev (p.drop i) x)) ∧ ∀ i, Sm (ev (p.drop i) x * x)
def pat (q : PQ) (x : Rat) : Rat := ev q.1 x / ev q.2 x
def AtOk (q : PQ) (x : Rat) : Prop := VaOk q.1 x ∧ VaOk q.2 x ∧ ev q.2 x ≠ 0
theorem va_sm {p : List Rat} {x : Rat} (h : VaOk p x) : Sm (ev p x) := by
  have := h.2.2.2.1 0
  rwa [List.drop_zero] at this
def pdiff (a b : PQ) : PQ := psum a (pneg b.1, b.2)
def DiOk (a b : PQ) : Prop := SuOk a (pneg b.1, b.2) ∧ b.1.length ≤ 1000
def cONE : PQ := ([1], [1])
def cX : PQ := ([0, 1], [1])
def cSTEP : List Rat := [1, -1]
def pOX : PQ := ([1, -1], [1])
def pSUM : PQ := ([-1], [-1, 1])
theorem pdiff_ox : pdiff cONE cX = pOX := by decide +kernel
theorem pmk_sum : pmk ([1], cSTEP) = pSUM := by decide +kernel
theorem bnd_ints {l : List Int} (t : Nat) (h0 : 1 ≤ t) (h : ∀ z ∈ l, z.natAbs < 2 ^ t) : Bnd t (l.map fun (z : Int) => ((z : Int) : Rat)) := by
  refine ⟨1, 2 ^ t - 1, by decide, Nat.one_lt_two_pow (by omega), by have := Nat.two_pow_pos t; omega, fun a m => ?_⟩
  obtain ⟨z, mz, rfl⟩ := List.mem_map.mp m
  exact ⟨z, by show (z : Rat) * ((1 : Nat) : Rat) = _; rw [show ((1 : Nat) : Rat) = 1 from rfl, Rat.mul_one], by have := h z mz; omega⟩
theorem bnd_1 : Bnd 2 [1] := bnd_ints (l := [1]) 2 (by decide) (by decide)
theorem bnd_x : Bnd 2 [0, 1] := bnd_ints (l := [0, 1]) 2 (by decide) (by decide)
theorem bnd_nx : Bnd 2 [0, -1] := bnd_ints (l := [0, -1]) 2 (by decide) (by decide)
theorem bnd_s : Bnd 2 [1, -1] := bnd_ints (l := [1, -1]) 2 (by decide) (by decide)
theorem mu_const {p q : List Rat} (h1 : Bnd 2 p) (h2 : Bnd 2 q) (l1 : p.length ≤ 100) (l2 : q.length ≤ 100) : MuOk p q := ⟨2, 2, h1, h2, by rw [SZ_eq]; decide, l1, l2⟩
theorem mk_const1 : MkOk ([1, -1], [1]) := by
  refine ⟨by decide, ⟨rfl, rfl, by decide, by decide, 2, 2, by decide, by decide, bnd_s, bnd_1, by rw [SZ_eq]; decide, .inl ⟨by decide, by unfold PotK; decide⟩⟩, 2, 2, bnd_s, bnd_1, ?_, by rw [SZ_eq]; decide⟩
  have : pgc ([1, -1], [1]) = [1] := by decide +kernel
  rw [this]
  exact bnd_1
theorem mk_const2 : MkOk ([1], cSTEP) := by
  refine ⟨by decide, ⟨rfl, rfl, by decide, by decide, 2, 2, by decide, by decide, bnd_1, bnd_s, by rw [SZ_eq]; decide, .inr ⟨by decide, by decide, by unfold PotK; decide⟩⟩, 2, 2, bnd_1, bnd_s, ?_, by rw [SZ_eq]; decide⟩
  have : pgc ([1], cSTEP) = [1] := by decide +kernel
  rw [this]
  exact bnd_1
theorem diok_ox : DiOk cONE cX := by
  have h1 : pneg cX.1 = [0, -1] := by decide +kernel
  have h2 : (pplus (pmul cONE.1 cX.2) (pmul (pneg cX.1) cONE.2), pmul cONE.2 cX.2) = ([1, -1], [1]) := by decide +kernel
  refine ⟨⟨mu_const bnd_1 bnd_1 (by decide) (by decide), ?_, mu_const bnd_1 bnd_1 (by decide) (by decide), ?_⟩, by decide⟩
  · show MuOk (pneg cX.1) _
    rw [h1]
    exact mu_const bnd_nx bnd_1 (by decide) (by decide)
  · show MkOk (pplus (pmul cONE.1 cX.2) (pmul (pneg cX.1) cONE.2), pmul cONE.2 cX.2)
    rw [h2]
    exact mk_const1
/-! ### last values, totals -/
def plast (q : PQ) : Option Rat := if pdies q.2 = true then some 0 else if ev (pone q.2) 1 = 0 ∧ pdies (pquo (pone q.2) cSTEP) = true then some (pat (pprod q pOX) 1) else none
def LaOk (q : PQ) : Prop := KeOk q.2 ∧ (pdies q.2 = false → VaOk (pone q.2) 1 ∧ (ev (pone q.2) 1 = 0 → DvOk (pone q.2) cSTEP ∧ KeOk (pquo (pone q.2) cSTEP) ∧ (pdies (pquo (pone q.2) cSTEP) = true → PrOk q pOX ∧ AtOk (pprod q pOX) 1)))
def pcell (q : PQ) : Option Rat := plast (pprod q pSUM)
def isLastB : Option Rat → Rat → Bool
  | none, _ => false
  | some v, x => decide (v - x = 0)
def ptotal (q : PQ) : Option Rat := if pdies q.2 = true then some (pat q 1) else none
def ToOk (q : PQ) : Prop := KeOk q.2 ∧ (pdies q.2 = true → AtOk q 1)
def ptop (q : PQ) : List Rat := pplus (pmul (pder q.1) q.2) (pneg (pmul q.1 (pder q.2)))
def pled (q : PQ) : PQ := pprod cX (pmk (ptop q, pmul q.2 q.2))
def DeOk (p : List Rat) : Prop := p.length ≤ 1000 ∧ (∀ i : Nat, Sm (i : Rat) ∨ p.length ≤ i) ∧ ∀ i, Sm (cf p i)
def LeOk (q : PQ) : Prop := DeOk q.1 ∧ DeOk q.2 ∧ MuOk (pder q.1) q.2 ∧ MuOk q.1 (pder q.2) ∧ MuOk q.2 q.2 ∧ MkOk (ptop q, pmul q.2 q.2) ∧ PrOk cX (pmk (ptop q, pmul q.2 q.2))
def MeOk (q : PQ) : Prop := KeOk q.2 ∧ (pdies q.2 = true → LeOk q ∧ ToOk (pled q) ∧ ToOk q)
end Sw

/-! rows of values from the least tick -/
namespace Sw
def vst (A B f : List Rat) (k : Nat) : Nat → Rat
  | 0 => cf A k
  | j + 1 => vst A B f k j - cf B (j + 1) * cf f (k - (j + 1))
def ser (A B : List Rat) : Nat → List Rat
  | 0 => []
  | k + 1 => ser A B k ++ [vst A B (ser A B k) k (min k (B.length - 1)) / cf B 0]
theorem ser_len (A B : List Rat) (k : Nat) : (ser A B k).length = k := by
  induction k with
  | zero => rfl
  | succ k ih => rw [ser, List.length_append, ih]; rfl
def SeOk (A B : List Rat) (n : Nat) : Prop := B.length ≤ 100 ∧ n ≤ 400 ∧ cf B 0 ≠ 0 ∧ (∀ i, Sm (cf A i)) ∧ (∀ i, Sm (cf B i)) ∧
  ∀ k, k < n → (∀ i, Sm (cf (ser A B k) i)) ∧ ∀ j, j ≤ min k (B.length - 1) → Sm (vst A B (ser A B k) k j) ∧ ∀ i, Sm (cf B (j + 1) * cf (ser A B k) i)
section
variable {A B : List Rat} {s t : Nat}
theorem Bd.append {D M : Nat} {p q : List Rat} (h : Bd D M p) (h' : Bd D M q) : Bd D M (p ++ q) := fun a m => (List.mem_append.mp m).elim (h a) (h' a)
theorem vst_iz {D D1 D2 M M1 M2 e : Nat} {f : List Rat} {k : Nat} (h1 : Bd D1 M1 A) (h2 : Bd D2 M2 B) (hf : Bd (D1 * e) M f) (j : Nat) : Iz (D1 * e * D2) (M1 * e * D2 + j * (M * M2)) (vst A B f k j) := by
  induction j with
  | zero =>
    rw [Nat.zero_mul, Nat.add_zero]
    exact ((h1.cf k).scale e).scale D2
  | succ j ih =>
    have a := (hf.cf (k - (j + 1))).mul (h2.cf (j + 1))
    have b := ih.add a.neg
    rw [Nat.succ_mul, ← Nat.add_assoc]
    unfold vst
    rw [Rat.sub_eq_add_neg, Rat.mul_comm (cf B (j + 1))]
    exact b
theorem ser_bd {D1 D2 M1 M2 : Nat} {L : Int} (h1 : Bd D1 M1 A) (h2 : Bd D2 M2 B) (d1 : 0 < D1) (d2 : 0 < D2) (b1 : D1 < 2 ^ s) (b2 : M1 < 2 ^ s) (b3 : D2 < 2 ^ t) (b4 : M2 < 2 ^ t) (hL : cf B 0 * (D2 : Rat) = (L : Rat)) (h0 : cf B 0 ≠ 0) (lL : L.natAbs ≤ M2) (lB : B.length ≤ 100) (k : Nat) :
    ∃ e M, 0 < e ∧ e < 2 ^ (k * t + 1) ∧ M < 2 ^ (s + k * (t + 8) + t) ∧ Bd (D1 * e) M (ser A B k) := by
  have d0 : (D2 : Rat) ≠ 0 := cast_ne (b := (D2 : Int)) (by omega)
  have l0 : 0 < L.natAbs := by
    apply Nat.pos_of_ne_zero
    intro z
    have : L = 0 := by omega
    rw [this] at hL
    rcases Rat.mul_eq_zero.mp (hL.trans rfl) with z | z
    · exact h0 z
    · exact d0 z
  induction k with
  | zero => exact ⟨1, 0, by decide, by rw [Nat.zero_mul]; decide, Nat.two_pow_pos _, fun a m => by cases m⟩
  | succ k ih =>
    obtain ⟨e, M, e0, e1, m1, hb⟩ := ih
    have kt : (k + 1) * t = k * t + t := Nat.succ_mul _ _
    have kt8 : (k + 1) * (t + 8) = k * (t + 8) + (t + 8) := Nat.succ_mul _ _
    have k8 : k * (t + 8) = k * t + k * 8 := Nat.mul_add _ _ _
    have iv := vst_iz (D := 0) (k := k) h1 h2 hb (min k (B.length - 1))
    have le : min k (B.length - 1) ≤ 100 := by omega
    have c1 : M1 * e * D2 < 2 ^ (s + k * t + 1 + t) := by
      have := mul_two (mul_two b2 e1) b3
      rwa [← Nat.add_assoc] at this
    have c2 : min k (B.length - 1) * (M * M2) < 2 ^ (7 + (s + k * (t + 8) + t + t)) := mul_two (Nat.lt_of_le_of_lt le (by decide : 100 < 2 ^ 7)) (mul_two m1 b4)
    refine ⟨e * L.natAbs, M1 * e * D2 + min k (B.length - 1) * (M * M2) + M * M2, Nat.mul_pos e0 l0, ?_, ?_, ?_⟩
    · exact lt_two (mul_two e1 (Nat.lt_of_le_of_lt lL b4)) (by omega)
    · have c3 : M * M2 < 2 ^ (s + k * (t + 8) + t + t) := mul_two m1 b4
      have c4 := add_two (lt_two c1 (show s + k * t + 1 + t ≤ s + k * (t + 8) + t + t + 1 by omega)) (lt_two c3 (Nat.le_succ _))
      have c5 : M1 * e * D2 + min k (B.length - 1) * (M * M2) + M * M2 = (M1 * e * D2 + M * M2) + min k (B.length - 1) * (M * M2) := by omega
      rw [c5]
      exact lt_two (add_two (a := 7 + (s + k * (t + 8) + t + t)) (lt_two c4 (by omega)) c2) (by omega)
    · have ea : D1 * (e * L.natAbs) = D1 * e * L.natAbs := (Nat.mul_assoc _ _ _).symm
      rw [ea]
      refine Bd.append ((hb.scale L.natAbs).mono ?_) ?_
      · exact Nat.le_trans (Nat.mul_le_mul_left _ lL) (Nat.le_add_left _ _)
      · intro a m
        obtain rfl := List.mem_singleton.mp m
        obtain ⟨z, hz, lz⟩ := iv
        have hs : ∃ g : Int, g.natAbs = 1 ∧ ((L.natAbs : Nat) : Rat) = (g : Rat) * (L : Rat) := by
          rcases Int.natAbs_eq L with h | h
          · refine ⟨1, rfl, ?_⟩
            have : ((L.natAbs : Int) : Rat) = (L : Rat) := by rw [← h]
            show ((L.natAbs : Int) : Rat) = _
            rw [this]; simp
          · refine ⟨-1, rfl, ?_⟩
            have h' : (L.natAbs : Int) = -1 * L := by omega
            show ((L.natAbs : Int) : Rat) = _
            rw [h', Rat.intCast_mul]
        obtain ⟨g, hg, hLg⟩ := hs
        refine ⟨g * z, ?_, ?_⟩
        · rw [Rat.natCast_mul, hLg, ← hL, Rat.intCast_mul, ← hz, Rat.natCast_mul (D1 * e) D2]
          grind
        · rw [Int.natAbs_mul, hg, Nat.one_mul]
          exact Nat.le_trans lz (Nat.le_add_right _ _)
theorem seok_of (h1 : Bnd s A) (h2 : Bnd t B) (h0 : cf B 0 ≠ 0) (lB : B.length ≤ 100) {n : Nat} (hn : n ≤ 400) (hz : s + (n + 2) * (t + 8) ≤ SZ) : SeOk A B n := by
  have e2 : (n + 2) * (t + 8) = n * (t + 8) + 2 * (t + 8) := Nat.add_mul _ _ _
  refine ⟨lB, hn, h0, h1.sm (by omega), h2.sm (by omega), fun k hk => ?_⟩
  obtain ⟨D1, M1, d1, b1, b2, a1⟩ := h1
  obtain ⟨D2, M2, d2, b3, b4, a2⟩ := h2
  obtain ⟨L, hL, lL⟩ := a2.cf 0
  obtain ⟨e, M, e0, e1, m1, hb⟩ := ser_bd a1 a2 d1 d2 b1 b2 b3 b4 hL h0 lL lB k
  have kn : (k + 1) * (t + 8) ≤ n * (t + 8) := Nat.mul_le_mul_right _ hk
  have kt8 : (k + 1) * (t + 8) = k * (t + 8) + (t + 8) := Nat.succ_mul _ _
  have k8 : k * (t + 8) = k * t + k * 8 := Nat.mul_add _ _ _
  have n0 : D1 * e ≠ 0 := Nat.mul_ne_zero (by omega) (by omega)
  have n1 : D1 * e * D2 ≠ 0 := Nat.mul_ne_zero n0 (by omega)
  have q1 : D1 * e < 2 ^ (s + (k * t + 1)) := mul_two b1 e1
  have q2 : D1 * e * D2 < 2 ^ SZ := lt_two (mul_two q1 b3) (by omega)
  refine ⟨fun i => (hb.cf i).sm n0 (lt_two q1 (by omega)) (lt_two m1 (by omega)), fun j hj => ⟨?_, fun i => ?_⟩⟩
  · refine (vst_iz (D := 0) (k := k) a1 a2 hb j).sm n1 q2 ?_
    have c1 : M1 * e * D2 < 2 ^ (s + k * t + 1 + t) := by
      have := mul_two (mul_two b2 e1) b3
      rwa [← Nat.add_assoc] at this
    have c2 : j * (M * M2) < 2 ^ (7 + (s + k * (t + 8) + t + t)) := mul_two (Nat.lt_of_le_of_lt (show j ≤ 100 by omega) (by decide : 100 < 2 ^ 7)) (mul_two m1 b4)
    exact lt_two (add_two (a := 7 + (s + k * (t + 8) + t + t)) (lt_two c1 (by omega)) c2) (by omega)
  · have := (a2.cf (j + 1)).mul (hb.cf i)
    refine this.sm (by rw [Nat.mul_comm]; exact n1) (by rw [Nat.mul_comm]; exact q2) (lt_two (mul_two b4 m1) (by omega))
end
end Sw

/-! what the law's own defs make -/
namespace Sw
/-- above and below over their last common divisor, as the law takes it -/
def lgc (s : PQ) : List Rat := pgcd false (s.2, s.1)
def lqt (s : PQ) : PQ := (psc (1 / lastOf (pquo s.2 (lgc s))) (pquo s.1 (lgc s)), psc (1 / lastOf (pquo s.2 (lgc s))) (pquo s.2 (lgc s)))
def QuOk (s : PQ) : Prop := s.2 ≠ [] ∧ GOk (s.2, s.1) ∧ DvOk s.1 (lgc s) ∧ DvOk s.2 (lgc s) ∧ (∀ i, Sm (cf (pquo s.1 (lgc s)) i)) ∧ (∀ i, Sm (cf (pquo s.2 (lgc s)) i)) ∧ lastOf (pquo s.2 (lgc s)) ≠ 0 ∧ pquo s.2 (lgc s) ≠ []
/-- one part of a stream: its worth, its fall, its delay -/
abbrev Part := Rat × Rat × Nat
def pits (s : Part) : List Rat := if s.2.1 = 0 then [1] else [1, 0 - s.2.1]
def ptp (s : Part) : List Rat := List.replicate s.2.2 0 ++ [s.1]
def mstep (q : PQ) (s : Part) : PQ := (pplus (pmul q.1 (pits s)) (pmul (ptp s) q.2), pmul q.2 (pits s))
def mall (l : List Part) : PQ := l.foldl mstep ([], [1])
def pmade (l : List Part) : PQ := lqt (mall l)
def MsOk (q : PQ) (s : Part) : Prop := Sm s.2.1 ∧ s.2.2 ≤ 100 ∧ MuOk q.1 (pits s) ∧ MuOk (ptp s) q.2 ∧ MuOk q.2 (pits s)
def MaOk (l : List Part) : Prop := l.length ≤ 100 ∧ (∀ k s, l[k]? = some s → MsOk (mall (l.take k)) s) ∧ QuOk (mall l)
def rsum (l : List Rat) : Rat := l.foldl (· + ·) 0
def SumOk (l : List Rat) : Prop := l.length ≤ 1000 ∧ (∀ k, Sm (rsum (l.take k))) ∧ ∀ q ∈ l, Sm q
def pter (t : Nat) (l : List Part) : List Rat := l.filterMap fun s => if s.2.2 ≤ t then some (s.1 * s.2.1 ^ (t - s.2.2)) else none
def pfirst (l : List Part) (n : Nat) : List Rat := (List.range n).map fun t => rsum (pter t l)
def FiOk (l : List Part) (n : Nat) : Prop := l.length ≤ 100 ∧ n ≤ 400 ∧ (∀ t, t < n → SumOk (pter t l)) ∧ ∀ s ∈ l, Sm s.1 ∧ ∀ k, k ≤ n → Sm (s.2.1 ^ k)
theorem mall_take {l : List Part} {k : Nat} {s : Part} (h : l[k]? = some s) : mall (l.take (k + 1)) = mstep (mall (l.take k)) s := by
  unfold mall
  rw [List.take_add_one, h, List.foldl_append]; rfl
theorem rsum_take {l : List Rat} {k : Nat} {s : Rat} (h : l[k]? = some s) : rsum (l.take (k + 1)) = rsum (l.take k) + s := by
  unfold rsum
  rw [List.take_add_one, h, List.foldl_append]; rfl
theorem fr_num (a b : Int) (h : b ≠ 0) : a.fdiv (if 0 < b then (Int.gcd a b : Int) else 0 - (Int.gcd a b : Int)) = (Rat.divInt a b).num ∧ b.fdiv (if 0 < b then (Int.gcd a b : Int) else 0 - (Int.gcd a b : Int)) = ((Rat.divInt a b).den : Int) := by
  have hg : (0 : Int) < (Int.gcd a b : Nat) := by
    have := Int.gcd_pos_of_ne_zero_right a h
    omega
  have da : ((Int.gcd a b : Nat) : Int) ∣ a := Int.gcd_dvd_left ..
  have db : ((Int.gcd a b : Nat) : Int) ∣ b := Int.gcd_dvd_right ..
  rw [Rat.num_divInt, Rat.den_divInt, if_neg h, Int.gcd_comm b a, Int.natCast_ediv, ← Int.sign_mul_self]
  generalize ((Int.gcd a b : Nat) : Int) = g at *
  obtain ⟨x, rfl⟩ := da
  obtain ⟨y, rfl⟩ := db
  have g0 : g ≠ 0 := by omega
  by_cases hp : 0 < g * y
  · rw [if_pos hp, Int.sign_eq_one_of_pos hp, Int.one_mul, Int.one_mul, Int.mul_fdiv_cancel_left _ g0, Int.mul_fdiv_cancel_left _ g0, Int.mul_ediv_cancel_left _ g0, Int.mul_ediv_cancel_left _ g0]
    exact ⟨rfl, rfl⟩
  · have hn : g * y < 0 := by omega
    rw [if_neg hp, Int.sign_eq_neg_one_of_neg hn]
    have e1 : ∀ z, g * z = (0 - g) * (-z) := fun z => by rw [Int.zero_sub, Int.neg_mul_neg]
    have e2 : ∀ z, (-1) * (g * z) = g * (-z) := fun z => by rw [Int.neg_one_mul, Int.mul_neg]
    have g1 : (0 - g) ≠ 0 := by omega
    rw [e2 x, e2 y, Int.mul_ediv_cancel_left _ g0, Int.mul_ediv_cancel_left _ g0, e1 x, e1 y, Int.mul_fdiv_cancel_left _ g1, Int.mul_fdiv_cancel_left _ g1]
    exact ⟨rfl, rfl⟩
end Sw

/-! what one lap of the law asks -/
namespace Sw
def IsSmall (q : Rat) : Prop := ∃ n d : Int, -3 ≤ n ∧ n ≤ 3 ∧ (d = 1 ∨ d = 2 ∨ d = 3) ∧ q = Rat.divInt n d
def PartOk (s : Part) : Prop := s.1 ≠ 0 ∧ IsSmall s.1 ∧ (∃ n d : Int, -3 ≤ n ∧ n ≤ 3 ∧ (d = 4 ∨ d = 5) ∧ s.2.1 = Rat.divInt n d) ∧ s.2.2 ≤ 2
def StreamOk (l : List Part) : Prop := 1 ≤ l.length ∧ l.length ≤ 3 ∧ ∀ s ∈ l, PartOk s
def gapOf (s : Part) : Rat := 1 - s.2.1
def pwh (l : List Part) : List Rat := l.map fun s => s.1 / gapOf s
def ppt (l : List Part) : List Rat := l.map fun s => s.1 * ((s.2.2 : Rat) / gapOf s + s.2.1 / (gapOf s * gapOf s))
def pTU : PQ := lqt ([1], [1, 1])
def pst (v : Rat) : PQ := lqt (trim [v], [1, -1])
def pbo (l : List Part) (v : Rat) : PQ := psum (pmade l) (pst v)
structure GapOk (s : Part) : Prop where
  w : Sm s.1
  f : Sm s.2.1
  g : Sm (gapOf s)
  g0 : gapOf s ≠ 0
  l : Sm (s.2.2 : Rat)
  a : Sm ((s.2.2 : Rat) / gapOf s)
  b : Sm (gapOf s * gapOf s)
  c : Sm (s.2.1 / (gapOf s * gapOf s))
  d : Sm ((s.2.2 : Rat) / gapOf s + s.2.1 / (gapOf s * gapOf s))
structure Lap1 (l : List Part) : Prop where
  ma : MaOk l
  se : SeOk (pmade l).1 (pmade l).2 12
  fi : FiOk l 12
  first : ser (pmade l).1 (pmade l).2 12 = pfirst l 12
  la : LaOk (pmade l)
  dies : pdies (pmade l).2 = true
  gap : ∀ s ∈ l, GapOk s
  wsum : SumOk (pwh l)
  tsum : SumOk (ppt l)
  me : MeOk (pmade l)
  tot : pat (pmade l) 1 = rsum (pwh l)
  led : ptotal (pled (pmade l)) = some (rsum (ppt l))
  pS : PrOk (pmade l) pSUM
  laS : LaOk (pprod (pmade l) pSUM)
  cell : pcell (pmade l) = some (rsum (pwh l))
  pO : PrOk (pmade l) pOX
  toO : ToOk (pprod (pmade l) pOX)
  totO : ptotal (pprod (pmade l) pOX) = some 0
  suT : SuOk (pmade l) pTU
  laT : LaOk (psum (pmade l) pTU)
  lastT : plast (psum (pmade l) pTU) = none
structure Lap2 (l : List Part) (v : Rat) : Prop where
  qu : QuOk (trim [v], [1, -1])
  su : SuOk (pmade l) (pst v)
  la : LaOk (pbo l v)
  last : plast (pbo l v) = some v
  sv : Sm v
  sv1 : Sm (v + 1)
  dies : v ≠ 0 → pdies (pbo l v).2 = false
  sum : v ≠ 0 → PrOk (pbo l v) pSUM ∧ LaOk (pprod (pbo l v) pSUM) ∧ pcell (pbo l v) = none
structure LapT : Prop where
  qu : QuOk ([1], [1, 1])
  la : LaOk pTU
  last : plast pTU = none
  dies : pdies pTU.2 = false
theorem ptotal_of {q : PQ} (h : pdies q.2 = true) : ptotal q = some (pat q 1) := if_pos h
theorem ptotal_no {q : PQ} (h : pdies q.2 = false) : ptotal q = none := if_neg (by rw [h]; decide)
theorem plast_of {q : PQ} (h : pdies q.2 = true) : plast q = some 0 := if_pos h
end Sw

/-! products of linear factors and their divisors -/
namespace Sw
def pf : List Rat → Rat → Rat
  | [], _ => 1
  | f :: fs, x => (1 - f * x) * pf fs x
def pfl : List Rat → List Rat
  | [] => [1]
  | f :: fs => mulR [1, -f] (pfl fs)
theorem ev_pfl (fs : List Rat) (x : Rat) : ev (pfl fs) x = pf fs x := by
  induction fs with
  | nil => simp only [pfl, ev, pf]; grind
  | cons f fs ih => simp only [pfl, ev_mulR, pf, ih, ev]; grind
theorem pf_append (a b : List Rat) (x : Rat) : pf (a ++ b) x = pf a x * pf b x := by
  induction a with
  | nil => simp only [List.nil_append, pf]; grind
  | cons f a ih => simp only [List.cons_append, pf, ih]; grind
theorem pf_zero (fs : List Rat) : pf fs 0 = 1 := by
  induction fs with
  | nil => rfl
  | cons f fs ih => simp only [pf, ih]; grind
theorem pf_ne {fs : List Rat} {x : Rat} (h : ∀ f ∈ fs, 1 - f * x ≠ 0) : pf fs x ≠ 0 := by
  induction fs with
  | nil => simp only [pf]; decide
  | cons f fs ih =>
    simp only [pf]
    intro z
    rcases Rat.mul_eq_zero.mp z with z | z
    · exact h f (List.mem_cons_self ..) z
    · exact ih (fun g m => h g (List.mem_cons_of_mem _ m)) z
theorem pf_root {fs : List Rat} {f x : Rat} (m : f ∈ fs) (h : 1 - f * x = 0) : pf fs x = 0 := by
  induction fs with
  | nil => cases m
  | cons g fs ih =>
    simp only [pf]
    rcases List.mem_cons.mp m with e | m
    · rw [← e, h]; grind
    · rw [ih m]; grind
/-- by a root -/
def syn (r : Rat) : List Rat → List Rat
  | [] => []
  | _ :: p => padd p (psc r (syn r p))
theorem ev_syn (r : Rat) (p : List Rat) (x : Rat) : ev p x = (x - r) * ev (syn r p) x + ev p r := by
  induction p with
  | nil => simp only [syn, ev]; grind
  | cons a p ih =>
    simp only [syn, ev, ev_padd, ev_psc]
    generalize ev (syn r p) x = q at *
    grind
theorem split_root {f : Rat} (h : f ≠ 0) {p : List Rat} (hr : ev p (1 / f) = 0) : ∃ q, ∀ x, ev p x = (1 - f * x) * ev q x :=
  ⟨psc (-(1 / f)) (syn (1 / f) p), fun x => by
    have := ev_syn (1 / f) p x
    rw [ev_psc, this, hr]
    grind⟩
/-- what is left where a factor goes out on both sides -/
theorem cancel {f : Rat} {p q : List Rat} (h : ∀ x, (1 - f * x) * ev p x = (1 - f * x) * ev q x) (x : Rat) : ev p x = ev q x := by
  by_cases f0 : f = 0
  · have := h x
    rw [f0] at this
    grind
  · refine ev_of_far (M := (if 0 ≤ 1 / f then 1 / f + 1 else 1)) (fun y hy => ?_) x
    have h1 := h y
    have h2 : 1 - f * y ≠ 0 := by
      intro z
      have : y = 1 / f := by grind
      grind
    grind
theorem const_of {B C : List Rat} {c : Rat} (c0 : c ≠ 0) (h : ∀ x, ev B x * ev C x = c) : ∃ b, b ≠ 0 ∧ ∀ x, ev B x = b := by
  have tB := trd_trim B
  have tC := trd_trim C
  have h' : ∀ x, ev [c] x = ev (trim B) x * ev (trim C) x := fun x => by rw [ev_trim, ev_trim, h]; simp only [ev]; grind
  have nB : trim B ≠ [] := by
    intro e
    have := h' 0
    rw [e] at this
    simp only [ev] at this
    grind
  have nC : trim C ≠ [] := by
    intro e
    have := h' 0
    rw [e] at this
    simp only [ev] at this
    grind
  have tc : Trd [c] := trd_of_last fun _ => c0
  have hl := (prod_len tB tC tc nB nC h').1
  have l1 := List.length_pos_iff.mpr nB
  have l2 := List.length_pos_iff.mpr nC
  have l3 : (trim B).length = 1 := by
    simp only [List.length_cons, List.length_nil] at hl
    omega
  obtain ⟨b, hb⟩ := List.length_eq_one_iff.mp l3
  refine ⟨b, ?_, fun x => ?_⟩
  · have := trd_last tB nB
    rw [hb] at this
    exact this
  · rw [← ev_trim, hb]; simp only [ev]; grind
theorem root_split : ∀ (fs : List Rat), (∀ f ∈ fs, f ≠ 0) → ∀ (B C : List Rat) (c : Rat), c ≠ 0 → (∀ x, ev B x * ev C x = c * pf fs x) → ∃ S, S.Sublist fs ∧ ∃ b, b ≠ 0 ∧ ∀ x, ev B x = b * pf S x
  | [], _, B, C, c, c0, h => by
    obtain ⟨b, b0, e⟩ := const_of (B := B) (C := C) c0 fun x => by rw [h]; simp only [pf]; grind
    exact ⟨[], .slnil, b, b0, fun x => by rw [e]; simp only [pf]; grind⟩
  | f :: fs, hf, B, C, c, c0, h => by
    have f0 := hf f (List.mem_cons_self ..)
    have hr := h (1 / f)
    have e0 : (1 - f * (1 / f)) = 0 := by grind
    simp only [pf] at hr h
    rw [e0] at hr
    have hr' : ev B (1 / f) * ev C (1 / f) = 0 := by rw [hr]; grind
    rcases Rat.mul_eq_zero.mp hr' with hz | hz
    · obtain ⟨B1, e1⟩ := split_root f0 hz
      have k : ∀ x, ev (mulR B1 C) x = ev (psc c (pfl fs)) x := cancel (f := f) fun x => by
        have := h x
        rw [e1] at this
        rw [ev_mulR, ev_psc, ev_pfl]
        grind
      obtain ⟨S, hs, b, b0, e⟩ := root_split fs (fun g m => hf g (List.mem_cons_of_mem _ m)) B1 C c c0 fun x => by
        have := k x
        rwa [ev_mulR, ev_psc, ev_pfl] at this
      exact ⟨f :: S, hs.cons₂ f, b, b0, fun x => by rw [e1, e]; simp only [pf]; grind⟩
    · obtain ⟨C1, e1⟩ := split_root f0 hz
      have k : ∀ x, ev (mulR B C1) x = ev (psc c (pfl fs)) x := cancel (f := f) fun x => by
        have := h x
        rw [e1] at this
        rw [ev_mulR, ev_psc, ev_pfl]
        grind
      obtain ⟨S, hs, b, b0, e⟩ := root_split fs (fun g m => hf g (List.mem_cons_of_mem _ m)) B C1 c c0 fun x => by
        have := k x
        rwa [ev_mulR, ev_psc, ev_pfl] at this
      exact ⟨S, hs.cons f, b, b0, e⟩
/-! ### with 1 at the head -/
def pmon : List Rat → List Rat
  | [] => [1]
  | f :: fs => pmul [-(1 / f), 1] (pmon fs)
def moc : List Rat → Rat
  | [] => 1
  | f :: fs => -(1 / f) * moc fs
theorem moc_ne {fs : List Rat} (h : ∀ f ∈ fs, f ≠ 0) : moc fs ≠ 0 := by
  induction fs with
  | nil => simp only [moc]; decide
  | cons f fs ih =>
    have f0 := h f (List.mem_cons_self ..)
    have := ih fun g m => h g (List.mem_cons_of_mem _ m)
    simp only [moc]
    intro z
    rcases Rat.mul_eq_zero.mp z with z | z
    · grind
    · exact this z
theorem ev_pmon {fs : List Rat} (h : ∀ f ∈ fs, f ≠ 0) (x : Rat) : ev (pmon fs) x = moc fs * pf fs x := by
  induction fs with
  | nil => simp only [pmon, ev, moc, pf]; grind
  | cons f fs ih =>
    have f0 := h f (List.mem_cons_self ..)
    simp only [pmon, ev_pmul, moc, pf, ih (fun g m => h g (List.mem_cons_of_mem _ m)), ev]
    grind
theorem trd_pmon (fs : List Rat) : Trd (pmon fs) := by
  cases fs with
  | nil => exact trd_of_last fun _ => by decide
  | cons f fs => exact trd_pmul _ _
theorem pmon_facts (fs : List Rat) : pmon fs ≠ [] ∧ lastOf (pmon fs) = 1 ∧ (pmon fs).length = fs.length + 1 := by
  induction fs with
  | nil => exact ⟨by simp [pmon], rfl, rfl⟩
  | cons f fs ih =>
    obtain ⟨h1, h2, h3⟩ := ih
    have t1 : Trd [-(1 / f), 1] := trd_of_last fun _ => show (1 : Rat) ≠ 0 by decide
    have := prod_len (r := pmon (f :: fs)) t1 (trd_pmon fs) (trd_pmon _) (by simp) h1 fun x => by rw [pmon, ev_pmul]
    have hl : (pmon (f :: fs)).length = fs.length + 1 + 1 := by
      rw [this.1, h3]
      simp only [List.length_cons, List.length_nil]
      omega
    refine ⟨fun e => ?_, ?_, hl⟩
    · rw [e] at hl
      simp at hl
    · unfold lastOf at h2 ⊢
      rw [this.2, h2]
      show (1 : Rat) * 1 = 1
      exact Rat.one_mul 1
theorem mon_eq {B : List Rat} {S : List Rat} {b : Rat} (hS : ∀ f ∈ S, f ≠ 0) (tB : Trd B) (nB : B ≠ []) (m : lastOf B = 1) (h : ∀ x, ev B x = b * pf S x) : B = pmon S := by
  obtain ⟨n1, l1, _⟩ := pmon_facts S
  have m0 := moc_ne hS
  have e : ∀ x, ev B x = ev (psc (b / moc S) (pmon S)) x := fun x => by
    rw [ev_psc, ev_pmon hS, h]
    grind
  have c0 : b / moc S ≠ 0 := by
    intro z
    refine nB (trd_ev0 tB fun x => ?_)
    rw [e, z, ev_psc]; grind
  have eq := trd_eq tB (trd_psc c0 (trd_pmon S)) e
  have k : b / moc S = 1 := by
    rw [eq] at m
    unfold lastOf at m l1
    rw [psc_len, cf_psc, l1] at m
    grind
  rw [eq, k]
  unfold psc
  have : (fun x : Rat => 1 * x) = id := by
    funext x
    exact Rat.one_mul x
  rw [this, List.map_id]
end Sw

/-! sizes of such products; quotients over them -/
namespace Sw
theorem gokK_mono {K K' : Nat} (h : K ≤ K') {s : PQ} (g : GOkK K s) : GOkK K' s := by
  obtain ⟨t1, t2, l1, l2, a, b, a1, b1, ha, hb, az, h'⟩ := g
  refine ⟨t1, t2, l1, l2, a, b, a1, b1, ha, hb, az, ?_⟩
  rcases h' with ⟨h1, h2⟩ | ⟨h1, h2, h3⟩
  · exact .inl ⟨h1, Nat.le_trans h2 (Nat.mul_le_mul_right _ h)⟩
  · exact .inr ⟨h1, h2, Nat.le_trans h3 (Nat.mul_le_mul_right _ h)⟩
theorem bnd_pmulJ {s t j : Nat} {p q : List Rat} (hs : Bnd s p) (ht : Bnd t q) (hl : p.length * q.length ≤ 2 ^ j) : Bnd (s + t + j) (pmul p q) := by
  obtain ⟨D, M, h0, h1, h2, h3⟩ := hs
  obtain ⟨D', M', h0', h1', h2', h3'⟩ := ht
  refine ⟨D * D', p.length * (q.length * (M * M')), Nat.mul_pos h0 h0', lt_two (mul_two h1 h1') (by omega), ?_, (h3.mulSt h3' _).trim⟩
  rw [← Nat.mul_assoc]
  have e := mul_two h2 h2'
  calc p.length * q.length * (M * M') ≤ 2 ^ j * (M * M') := Nat.mul_le_mul_right _ hl
    _ < 2 ^ j * 2 ^ (s + t) := Nat.mul_lt_mul_of_pos_left e (Nat.two_pow_pos _)
    _ = 2 ^ (s + t + j) := by rw [← Nat.pow_add, Nat.add_comm]
theorem bnd_pplus {s t : Nat} {p q : List Rat} (hs : Bnd s p) (ht : Bnd t q) : Bnd (s + t + 1) (pplus p q) := by
  obtain ⟨D, M, h0, h1, h2, h3⟩ := hs
  obtain ⟨D', M', h0', h1', h2', h3'⟩ := ht
  refine Bnd.trim ⟨D * D', M * D' + M' * D, Nat.mul_pos h0 h0', lt_two (mul_two h1 h1') (by omega), ?_, bd_of fun i _ => ?_⟩
  · have a1 := mul_two h2 h1'
    have a2 := mul_two h2' h1
    rw [Nat.add_comm t s] at a2
    exact add_two a1 a2
  · rw [cf_range]
    split
    · have k1 := (h3.cf i).scale D'
      have k2 := (h3'.cf i).scale D
      rw [Nat.mul_comm D' D] at k2
      exact k1.add k2
    · exact Iz.zero
theorem bnd_pneg {s : Nat} {p : List Rat} (hs : Bnd s p) : Bnd s (pneg p) := by
  obtain ⟨D, M, h0, h1, h2, h3⟩ := hs
  exact ⟨D, M, h0, h1, h2, bd_of fun i _ => by rw [cf_pneg]; exact (h3.cf i).neg⟩
/-- over one ratio that has a size of its own -/
theorem bnd_over {s t : Nat} {p : List Rat} {l : Rat} (hs : Bnd s p) (hl : ∃ D M : Nat, 0 < D ∧ D < 2 ^ t ∧ M < 2 ^ t ∧ Iz D M l) (h0 : l ≠ 0) : Bnd (s + t) (psc (1 / l) p) := by
  obtain ⟨D, M, d0, d1, d2, d3⟩ := hs
  obtain ⟨D2, M2, e0, e1, e2, L, hL, lL⟩ := hl
  have dd : (D2 : Rat) ≠ 0 := cast_ne (b := (D2 : Int)) (by omega)
  have l0 : 0 < L.natAbs := by
    apply Nat.pos_of_ne_zero
    intro z
    have : L = 0 := by omega
    rw [this] at hL
    rcases Rat.mul_eq_zero.mp (hL.trans rfl) with z | z
    · exact h0 z
    · exact dd z
  have hs : ∃ g : Int, g.natAbs = 1 ∧ ((L.natAbs : Nat) : Rat) = (g : Rat) * (L : Rat) := by
    rcases Int.natAbs_eq L with h | h
    · refine ⟨1, rfl, ?_⟩
      have : ((L.natAbs : Int) : Rat) = (L : Rat) := by rw [← h]
      show ((L.natAbs : Int) : Rat) = _
      rw [this]; simp
    · refine ⟨-1, rfl, ?_⟩
      have h' : (L.natAbs : Int) = -1 * L := by omega
      show ((L.natAbs : Int) : Rat) = _
      rw [h', Rat.intCast_mul]
  obtain ⟨g, hg, hLg⟩ := hs
  refine ⟨D * L.natAbs, M * D2, Nat.mul_pos d0 l0, mul_two d1 (Nat.lt_of_le_of_lt lL e2), mul_two d2 e1, fun a m => ?_⟩
  obtain ⟨b, hb, rfl⟩ := List.mem_map.mp m
  obtain ⟨z, hz, lz⟩ := d3 b hb
  refine ⟨g * (z * (D2 : Int)), ?_, ?_⟩
  · rw [Rat.natCast_mul, hLg, ← hL, Rat.intCast_mul, Rat.intCast_mul, ← hz]
    show _ = (g : Rat) * (b * (D : Rat) * (D2 : Rat))
    grind
  · rw [Int.natAbs_mul, hg, Nat.one_mul, Int.natAbs_mul]
    exact Nat.mul_le_mul lz (by simp)
/-- a fall's size -/
def Fam (f : Rat) : Prop := f ≠ 0 ∧ ∃ n d : Int, n ≠ 0 ∧ n.natAbs ≤ 3 ∧ d.natAbs ≤ 5 ∧ f * (d : Rat) = (n : Rat)
theorem abs_sign (L : Int) : ∃ g : Int, g.natAbs = 1 ∧ ((L.natAbs : Nat) : Rat) = (g : Rat) * (L : Rat) := by
  rcases Int.natAbs_eq L with h | h
  · refine ⟨1, rfl, ?_⟩
    have : ((L.natAbs : Int) : Rat) = (L : Rat) := by rw [← h]
    show ((L.natAbs : Int) : Rat) = _
    rw [this]; simp
  · refine ⟨-1, rfl, ?_⟩
    have h' : (L.natAbs : Int) = -1 * L := by omega
    show ((L.natAbs : Int) : Rat) = _
    rw [h', Rat.intCast_mul]
theorem lin_bnd {f : Rat} (h : Fam f) : Bnd 3 [-(1 / f), 1] := by
  obtain ⟨f0, n, d, n0, n3, d5, e⟩ := h
  obtain ⟨g, hg, hn⟩ := abs_sign n
  refine ⟨n.natAbs, 5, by omega, Nat.lt_of_le_of_lt n3 (by decide), by decide, fun a m => ?_⟩
  rcases List.mem_cons.mp m with rfl | m
  · refine ⟨-(g * d), ?_, ?_⟩
    · rw [hn, ← e, Rat.intCast_neg, Rat.intCast_mul]
      grind
    · rw [Int.natAbs_neg, Int.natAbs_mul, hg, Nat.one_mul]; exact d5
  · obtain rfl := List.mem_singleton.mp m
    exact ⟨(n.natAbs : Int), by rw [Rat.one_mul]; rfl, by simp; omega⟩
theorem pmon_bnd : ∀ (fs : List Rat), fs.length ≤ 7 → (∀ f ∈ fs, Fam f) → Bnd (7 * fs.length + 1) (pmon fs)
  | [], _, _ => ⟨1, 1, by decide, by decide, by decide, fun a m => by
      obtain rfl := List.mem_singleton.mp m
      exact ⟨1, by rw [Rat.one_mul]; rfl, by decide⟩⟩
  | f :: fs, hl, hf => by
    have hl' : fs.length + 1 ≤ 7 := hl
    have ih := pmon_bnd fs (by omega) fun g m => hf g (List.mem_cons_of_mem _ m)
    have := bnd_pmulJ (j := 4) (lin_bnd (hf f (List.mem_cons_self ..))) ih (by rw [(pmon_facts fs).2.2]; simp only [List.length_cons, List.length_nil]; omega)
    refine this.mono ?_
    simp only [List.length_cons]
    omega
theorem Bnd.iz {t : Nat} {p : List Rat} (h : Bnd t p) (i : Nat) : ∃ D M : Nat, 0 < D ∧ D < 2 ^ t ∧ M < 2 ^ t ∧ Iz D M (cf p i) := let ⟨D, M, h0, h1, h2, h3⟩ := h; ⟨D, M, h0, h1, h2, h3.cf i⟩
/-! ### what comes of a quotient over such a product -/
structure QS (s q : PQ) (G : List Rat) : Prop where
  t1 : Trd q.1
  t2 : Trd q.2
  n2 : q.2 ≠ []
  m2 : lastOf q.2 = 1
  tg : Trd G
  ng : G ≠ []
  mg : lastOf G = 1
  k : lastOf s.2 ≠ 0
  e1 : ∀ x, ev s.1 x = lastOf s.2 * (ev G x * ev q.1 x)
  e2 : ∀ x, ev s.2 x = lastOf s.2 * (ev G x * ev q.2 x)
theorem qs_mk {s : PQ} (h0 : s.2 ≠ []) (t1 : Trd s.1) (t2 : Trd s.2) : QS s (pmk s) (pgc s) := by
  obtain ⟨g1, g2, g3, _⟩ := pgc_facts h0 t1 t2
  obtain ⟨a1, a2, a3, a4, a5, a6, a7⟩ := pmk_facts h0 t1 t2
  exact ⟨a1, a2, a3, a4, g1, g2, g3, a5, a6, a7⟩
theorem qs_law {s : PQ} (h0 : s.2 ≠ []) (t1 : Trd s.1) (t2 : Trd s.2) : QS s (lqt s) (pwu (lgc s)) ∧ Trd (lgc s) ∧ lgc s ≠ [] ∧ (lgc s).length ≤ s.2.length ∧ lastOf (pquo s.2 (lgc s)) ≠ 0 ∧ pquo s.2 (lgc s) ≠ [] := by
  have g0 : lgc s ≠ [] := pgcd_ne false (s := (s.2, s.1)) t1 (.inl h0) t2
  have gt : Trd (lgc s) := pgcd_trd false _ (s.2, s.1) (Nat.le_refl _) t2 t1
  obtain ⟨b, a, hb, ha⟩ := pgcd_div false _ (s.2, s.1) (Nat.le_refl _) t1
  have hb : ∀ x, ev s.2 x = ev (lgc s) x * ev b x := hb
  have ha : ∀ x, ev s.1 x = ev (lgc s) x * ev a x := ha
  obtain ⟨ra, qa⟩ := exact_div gt g0 ha
  obtain ⟨rb, qb⟩ := exact_div gt g0 hb
  have n0 := trd_last gt g0
  have nb : trim b ≠ [] := by
    intro e
    have hb' : ∀ x, ev s.2 x = ev (lgc s) x * ev (trim b) x := fun x => by rw [ev_trim]; exact hb x
    rw [e] at hb'
    exact h0 (trd_ev0 t2 fun x => by rw [hb']; simp only [ev]; grind)
  have lb := trd_last (trd_trim b) nb
  have pl := prod_len gt (trd_trim b) t2 g0 nb fun x => by rw [ev_trim]; exact hb x
  have lpos := List.length_pos_iff.mpr nb
  have e1 : Trd (pwu (lgc s)) := trd_pwu gt
  have e2 : pwu (lgc s) ≠ [] := fun e => g0 (pwu_eq_nil.mp e)
  have e3 : lastOf (pwu (lgc s)) = 1 := by
    unfold lastOf
    rw [pwu_len]
    exact pwu_last gt g0
  have li : 1 / lastOf (trim b) ≠ 0 := inv_ne lb
  have ls : lastOf s.2 = cf (lgc s) ((lgc s).length - 1) * lastOf (trim b) := pl.2
  have lb' : lastOf (trim b) ≠ 0 := lb
  refine ⟨⟨?_, ?_, ?_, ?_, e1, e2, e3, ?_, fun x => ?_, fun x => ?_⟩, gt, g0, by omega, by rw [qb]; exact lb, by rw [qb]; exact nb⟩
  · unfold lqt
    rw [qa, qb]
    exact trd_psc li (trd_trim a)
  · unfold lqt
    rw [qb]
    exact trd_psc li (trd_trim b)
  · unfold lqt
    rw [qb]
    intro e
    have := congrArg List.length e
    rw [psc_len] at this
    exact nb (List.length_eq_zero_iff.mp this)
  · unfold lqt
    rw [qb]
    show cf (psc _ _) ((psc _ _).length - 1) = 1
    rw [psc_len, cf_psc]
    show 1 / lastOf (trim b) * lastOf (trim b) = 1
    grind
  · rw [ls]
    intro z
    rcases Rat.mul_eq_zero.mp z with z | z
    · exact n0 z
    · exact lb z
  · unfold lqt
    rw [qa, qb, ls, pwu_ne g0, ev_psc, ev_psc, ev_trim, ha x]
    grind
  · unfold lqt
    rw [qb, ls, pwu_ne g0, ev_psc, ev_psc, ev_trim, hb x]
    grind
/-- all that is known of such a quotient -/
structure GQ (s q : PQ) (fs S T : List Rat) (a : Nat) : Prop where
  sub : S.Sublist fs
  subT : T.Sublist fs
  b2 : q.2 = pmon S
  t1 : Trd q.1
  l1 : q.1.length ≤ s.1.length
  bd : Bnd a q.1
  k : lastOf s.2 ≠ 0
  e1 : ∀ x, ev s.1 x = lastOf s.2 * (ev (pmon T) x * ev q.1 x)
  e2 : ∀ x, ev s.2 x = lastOf s.2 * (ev (pmon T) x * ev q.2 x)
theorem gq_of {s q : PQ} {G : List Rat} {k : Rat} {fs : List Rat} {a b c : Nat} (h : QS s q G) (k0 : k ≠ 0) (hk : ∀ x, ev s.2 x = k * pf fs x) (hf : ∀ f ∈ fs, Fam f) (lf : fs.length ≤ 7) (ba : Bnd a s.1) (bb : Bnd b s.2)
    (hc : ∀ g, 1 ≤ g → g ≤ 8 → (s.1.length + 2 - g) * (7 * g + 1) ≤ c) : ∃ S T, GQ s q fs S T (a + b + c) ∧ G = pmon T := by
  have hf0 : ∀ f ∈ fs, f ≠ 0 := fun f m => (hf f m).1
  have kk := h.k
  obtain ⟨S, hS, b1, b10, eS⟩ := root_split fs hf0 q.2 G (k / lastOf s.2) (by grind) fun x => by
    have := h.e2 x
    rw [hk] at this
    grind
  obtain ⟨T, hT, b2, b20, eT⟩ := root_split fs hf0 G q.2 (k / lastOf s.2) (by grind) fun x => by
    have := h.e2 x
    rw [hk] at this
    grind
  have sS : ∀ f ∈ S, f ≠ 0 := fun f m => hf0 f (hS.mem m)
  have sT : ∀ f ∈ T, f ≠ 0 := fun f m => hf0 f (hT.mem m)
  have q2 := mon_eq sS h.t2 h.n2 h.m2 eS
  have gT := mon_eq sT h.tg h.ng h.mg eT
  have lT : T.length ≤ 7 := Nat.le_trans hT.length_le lf
  have bT := pmon_bnd T lT fun f m => hf f (hT.mem m)
  obtain ⟨_, hm, ml⟩ := pmon_facts T
  have ex : ∀ x, ev s.1 x = ev G x * ev (psc (lastOf s.2) q.1) x := fun x => by rw [h.e1, ev_psc]; grind
  obtain ⟨_, pq⟩ := exact_div h.tg h.ng ex
  have tq : trim (psc (lastOf s.2) q.1) = psc (lastOf s.2) q.1 := trd_psc kk h.t1
  rw [tq] at pq
  have q1 : q.1 = psc (1 / lastOf s.2) (pquo s.1 G) := by
    rw [pq]
    unfold psc
    rw [List.map_map]
    have : ((fun x : Rat => 1 / lastOf s.2 * x) ∘ fun x => lastOf s.2 * x) = id := by
      funext x
      show 1 / lastOf s.2 * (lastOf s.2 * x) = x
      grind
    rw [this, List.map_id]
  have gl : cf G (G.length - 1) ≠ 0 := by
    show lastOf G ≠ 0
    rw [h.mg]; decide
  have bq : Bnd (a + c) (pquo s.1 G) := by
    rw [gT] at gl ⊢
    by_cases hg : T.length + 1 ≤ s.1.length + 1
    · refine (bnd_quo gl (by rw [ml]; omega) ba bT).mono ?_
      rw [ml]
      have := hc (T.length + 1) (by omega) (by omega)
      have e : 7 * T.length + 1 + 7 = 7 * (T.length + 1) + 1 := by omega
      rw [e]
      have e2 : s.1.length + 1 - (T.length + 1) + 1 = s.1.length + 2 - (T.length + 1) := by omega
      rw [e2]
      omega
    · have lq := quo_len (p := s.1) (q := pmon T)
      rw [ml] at lq
      have : pquo s.1 (pmon T) = [] := List.length_eq_zero_iff.mp (by omega)
      rw [this]
      have a1 : 1 ≤ a := by
        obtain ⟨D, M, h0, h1, _⟩ := ba
        apply Nat.pos_of_ne_zero
        intro z
        rw [z] at h1
        omega
      exact Bnd.nil.mono (by omega)
  refine ⟨S, T, ⟨hS, hT, q2, h.t1, ?_, ?_, kk, fun x => by rw [← gT]; exact h.e1 x, fun x => by rw [← gT]; exact h.e2 x⟩, gT⟩
  · rw [q1, psc_len]
    have := quo_len (p := s.1) (q := G)
    have lg := List.length_pos_iff.mpr h.ng
    omega
  · rw [q1]
    exact (bnd_over bq (bb.iz _) kk).mono (by omega)
theorem bnd_pos {t : Nat} {p : List Rat} (h : Bnd t p) : 1 ≤ t := by
  obtain ⟨D, M, h0, h1, _⟩ := h
  apply Nat.pos_of_ne_zero
  intro z
  rw [z] at h1
  omega
theorem len_pf {B : List Rat} {k : Rat} {fs : List Rat} (hf : ∀ f ∈ fs, f ≠ 0) (t : Trd B) (k0 : k ≠ 0) (h : ∀ x, ev B x = k * pf fs x) : B.length = fs.length + 1 ∧ B ≠ [] := by
  have m0 := moc_ne hf
  have c0 : k / moc fs ≠ 0 := by
    intro z
    have : k = 0 := by grind
    exact k0 this
  have e := trd_eq t (trd_psc c0 (trd_pmon fs)) fun x => by
    rw [ev_psc, ev_pmon hf, h]; grind
  have l : B.length = fs.length + 1 := by rw [e, psc_len, (pmon_facts fs).2.2]
  refine ⟨l, fun z => ?_⟩
  rw [z] at l
  simp at l
/-- made_of over such a product: it can be run, and what comes of it -/
theorem mk_all {A B fs : List Rat} {k : Rat} {a b c : Nat} (tA : Trd A) (tB : Trd B) (k0 : k ≠ 0) (hk : ∀ x, ev B x = k * pf fs x) (hf : ∀ f ∈ fs, Fam f) (lf : fs.length ≤ 6) (ba : Bnd a A) (bb : Bnd b B) (ha : a ≤ 600) (hb : b ≤ 100) (lA : A.length ≤ 8)
    (hc : ∀ g, 1 ≤ g → g ≤ 8 → (A.length + 2 - g) * (7 * g + 1) ≤ c) : MkOk (A, B) ∧ ∃ S T, GQ (A, B) (pmk (A, B)) fs S T (a + b + c) := by
  have hf0 : ∀ f ∈ fs, f ≠ 0 := fun f m => (hf f m).1
  obtain ⟨lB, nB⟩ := len_pf hf0 tB k0 hk
  obtain ⟨S, T, g, gT⟩ := gq_of (qs_mk (s := (A, B)) nB tA tB) k0 hk hf (by omega) ba bb hc
  refine ⟨⟨nB, ⟨tA, tB, by show A.length ≤ 50; omega, by show B.length ≤ 50; omega, a, b, bnd_pos ba, bnd_pos bb, ba, bb, by rw [SZ_eq]; omega, ?_⟩, a + b, 7 * T.length + 1, ba.mono (by omega), bb.mono (by omega), ?_, ?_⟩, S, T, g⟩
  · show (B.length < A.length ∧ Pot A.length a b) ∨ (A.length ≤ B.length ∧ a + b ≤ 10000 ∧ Pot B.length b (a + b + 7))
    by_cases h : B.length < A.length
    · exact .inl ⟨h, pot_mono lA ha hb (by unfold PotK; decide)⟩
    · exact .inr ⟨by omega, by omega, pot_mono (m := 7) (a' := 100) (b' := 707) (by omega) hb (by omega) (by unfold PotK; decide)⟩
  · rw [gT]
    exact pmon_bnd T (by have := g.subT.length_le; omega) fun f m => hf f (g.subT.mem m)
  · have := g.subT.length_le
    rw [SZ_eq]
    have : 60 * (7 * T.length + 1 + 7) ≤ 60 * 50 := Nat.mul_le_mul_left _ (by omega)
    omega
/-- the law's quotient over such a product -/
theorem law_all {A B fs : List Rat} {k : Rat} {a b c : Nat} (tA : Trd A) (tB : Trd B) (k0 : k ≠ 0) (hk : ∀ x, ev B x = k * pf fs x) (hf : ∀ f ∈ fs, Fam f) (lf : fs.length ≤ 4) (ba : Bnd a A) (bb : Bnd b B) (ha : a ≤ 50) (hb : b ≤ 16) (lA : A.length ≤ 5)
    (hc : ∀ g, 1 ≤ g → g ≤ 8 → (A.length + 2 - g) * (7 * g + 1) ≤ c) : QuOk (A, B) ∧ ∃ S T, GQ (A, B) (lqt (A, B)) fs S T (a + b + c) := by
  have hf0 : ∀ f ∈ fs, f ≠ 0 := fun f m => (hf f m).1
  obtain ⟨lB, nB⟩ := len_pf hf0 tB k0 hk
  obtain ⟨qs, gt, g0, gl, q1, q2⟩ := qs_law (s := (A, B)) nB tA tB
  obtain ⟨S, T, g, gT⟩ := gq_of qs k0 hk hf (by omega) ba bb hc
  have gk : GOkK 60000 (B, A) := by
    refine ⟨tB, tA, by show B.length ≤ 50; omega, by show A.length ≤ 50; omega, b, a, bnd_pos bb, bnd_pos ba, bb, ba, by rw [SZ_eq]; omega, ?_⟩
    show (A.length < B.length ∧ PotK 60000 B.length b a) ∨ (B.length ≤ A.length ∧ b + a ≤ 10000 ∧ PotK 60000 A.length a (b + a + 7))
    by_cases h : A.length < B.length
    · exact .inl ⟨h, pot_mono (m := 5) (a' := 16) (b' := 50) (by omega) hb ha (by unfold PotK; decide)⟩
    · exact .inr ⟨by omega, by omega, pot_mono (m := 5) (a' := 50) (b' := 73) (by omega) ha (by omega) (by unfold PotK; decide)⟩
  obtain ⟨t, ht, bt⟩ := gcd_bnd (u := false) gk
  have gl' : (lgc (A, B)).length ≤ B.length := gl
  have last := trd_last gt g0
  have z1 : ∀ n, n ≤ 8 → ∀ r, r ≤ 50 → r + n * (t + 7) ≤ SZ := fun n hn r hr => by
    rw [SZ_eq]
    have : n * (t + 7) ≤ 8 * (t + 7) := Nat.mul_le_mul_right _ hn
    omega
  refine ⟨⟨nB, gokK_mono (by decide) gk, ⟨g0, last, by omega, by show A.length ≤ 100; omega, a, t, ba, bt, z1 _ (by show A.length + 1 - _ + 1 ≤ 8; omega) _ ha⟩, ⟨g0, last, by omega, by show B.length ≤ 100; omega, b, t, bb, bt, z1 _ (by show B.length + 1 - _ + 1 ≤ 8; omega) _ (by omega)⟩, ?_, ?_, q1, q2⟩, S, T, g⟩
  · exact ((bnd_quo last (by omega) ba bt).mono (z1 _ (by omega) _ ha)).sm (Nat.le_refl _)
  · exact ((bnd_quo last (by omega) bb bt).mono (z1 _ (by omega) _ (by omega))).sm (Nat.le_refl _)
end Sw

/-! rows from falls below 1 step down to the end: energies of cut sequences -/
namespace Sw
abbrev Sq := Nat → Rat
def sh (v : Sq) : Sq
  | 0 => 0
  | n + 1 => v n
def E : Nat → Sq → Rat
  | 0, _ => 0
  | n + 1, v => E n v + v n * v n
def pF (f : Rat) (v : Sq) : Sq := fun n => v n - f * sh v n
def pS (f : Rat) (v : Sq) : Sq := fun n => sh v n - f * v n
def aF (fs : List Rat) (v : Sq) : Sq := fs.foldr pF v
def aS (fs : List Rat) (v : Sq) : Sq := fs.foldr pS v
theorem sq_nn (a : Rat) : 0 ≤ a * a := by
  rcases Rat.le_total (a := 0) (b := a) with h | h
  · exact Rat.mul_nonneg h h
  · have : 0 ≤ (-a) * (-a) := Rat.mul_nonneg (by grind) (by grind)
    grind
theorem sh_pF (f : Rat) (v : Sq) : sh (pF f v) = pF f (sh v) := by
  funext n
  cases n with
  | zero => simp only [sh, pF]; grind
  | succ n => rfl
theorem sh_pS (f : Rat) (v : Sq) : sh (pS f v) = pS f (sh v) := by
  funext n
  cases n with
  | zero => simp only [sh, pS]; grind
  | succ n => rfl
theorem pF_pF (f g : Rat) (v : Sq) : pF f (pF g v) = pF g (pF f v) := by
  funext n
  show pF g v n - f * sh (pF g v) n = pF f v n - g * sh (pF f v) n
  rw [sh_pF, sh_pF]
  simp only [pF]
  grind
theorem pF_pS (f g : Rat) (v : Sq) : pF f (pS g v) = pS g (pF f v) := by
  funext n
  show pS g v n - f * sh (pS g v) n = sh (pF f v) n - g * pF f v n
  rw [sh_pS, sh_pF]
  simp only [pF, pS]
  grind
theorem aF_pF (fs : List Rat) (f : Rat) (v : Sq) : aF fs (pF f v) = pF f (aF fs v) := by
  induction fs with
  | nil => rfl
  | cons g fs ih =>
    show pF g (aF fs (pF f v)) = pF f (pF g (aF fs v))
    rw [ih, pF_pF]
theorem aS_pF (fs : List Rat) (f : Rat) (v : Sq) : aS fs (pF f v) = pF f (aS fs v) := by
  induction fs with
  | nil => rfl
  | cons g fs ih =>
    show pS g (aS fs (pF f v)) = pF f (pS g (aS fs v))
    rw [ih, pF_pS]
theorem E_one (f : Rat) (v : Sq) (n : Nat) : E (n + 1) (pF f v) - E (n + 1) (pS f v) = (1 - f * f) * (v n * v n) := by
  induction n with
  | zero => simp only [E, pF, pS, sh]; grind
  | succ n ih =>
    have e1 : E (n + 1 + 1) (pF f v) = E (n + 1) (pF f v) + pF f v (n + 1) * pF f v (n + 1) := rfl
    have e2 : E (n + 1 + 1) (pS f v) = E (n + 1) (pS f v) + pS f v (n + 1) * pS f v (n + 1) := rfl
    rw [e1, e2]
    have a1 : pF f v (n + 1) = v (n + 1) - f * v n := rfl
    have a2 : pS f v (n + 1) = v n - f * v (n + 1) := rfl
    rw [a1, a2]
    grind
/-! ### at one place -/
def shN : Nat → Sq → Sq
  | 0, v => v
  | n + 1, v => sh (shN n v)
theorem shN_sh (n : Nat) (v : Sq) : shN n (sh v) = sh (shN n v) := by
  induction n with
  | zero => rfl
  | succ n ih => rw [shN, ih]; rfl
theorem shN_pF (n : Nat) (f : Rat) (v : Sq) : shN n (pF f v) = pF f (shN n v) := by
  induction n with
  | zero => rfl
  | succ n ih => rw [shN, ih, sh_pF]; rfl
theorem shN_pS (n : Nat) (f : Rat) (v : Sq) : shN n (pS f v) = pS f (shN n v) := by
  induction n with
  | zero => rfl
  | succ n ih => rw [shN, ih, sh_pS]; rfl
theorem shN_at (n : Nat) (v : Sq) : shN n v n = v 0 := by
  have : ∀ (n k : Nat) (v : Sq), shN n v (n + k) = v k := by
    intro n
    induction n with
    | zero => intro k v; rw [Nat.zero_add]; rfl
    | succ n ih =>
      intro k v
      rw [show n + 1 + k = (n + k) + 1 by omega]
      exact ih k v
  exact this n 0 v
def gprod (f : Rat) : List Rat → Rat
  | [] => 1
  | g :: gs => (1 - g * f) * gprod f gs
/-- along a geometric stretch -/
theorem geo (f : Rat) (M : Nat) : ∀ (gs : List Rat) (v : Sq) (i : Nat), (∀ j, j < gs.length → shN (i + j) v M = f * shN (i + j + 1) v M) → shN i (aS gs v) M = gprod f gs * shN (i + gs.length) v M
  | [], v, i, _ => by
    show shN i v M = 1 * shN (i + 0) v M
    rw [Rat.one_mul]; rfl
  | g :: gs, v, i, h => by
    have hl : (g :: gs).length = gs.length + 1 := rfl
    have h1 := geo f M gs v i fun j hj => h j (by rw [hl]; omega)
    have h2 := geo f M gs v (i + 1) fun j hj => by
      have := h (j + 1) (by rw [hl]; omega)
      rw [show i + (j + 1) = i + 1 + j by omega] at this
      exact this
    have h3 := h gs.length (by rw [hl]; omega)
    have e : shN i (aS (g :: gs) v) M = shN (i + 1) (aS gs v) M - g * shN i (aS gs v) M := by
      show shN i (pS g (aS gs v)) M = _
      rw [shN_pS]; rfl
    rw [e, h1, h2, h3, hl, show i + 1 + gs.length = i + gs.length + 1 by omega, show i + (gs.length + 1) = i + gs.length + 1 by omega]
    simp only [gprod]
    grind
/-- |f| < 1 -/
def Lt1 (f : Rat) : Prop := -1 < f ∧ f < 1
theorem lt1_sq {f : Rat} (h : Lt1 f) : 0 < 1 - f * f := by
  have h1 : 0 < 1 - f := by have := h.2; grind
  have h2 : 0 < 1 + f := by have := h.1; grind
  have := Rat.mul_pos h1 h2
  grind
theorem lt1_mul {f g : Rat} (h : Lt1 f) (k : Lt1 g) : 1 - g * f ≠ 0 := by
  intro z
  have a1 := lt1_sq h
  have a2 := lt1_sq k
  have a3 := Rat.mul_pos a1 a2
  have a4 := sq_nn (g - f)
  grind
theorem gprod_ne {f : Rat} (h : Lt1 f) : ∀ {gs : List Rat}, (∀ g ∈ gs, Lt1 g) → gprod f gs ≠ 0
  | [], _ => by simp only [gprod]; decide
  | g :: gs, k => by
    simp only [gprod]
    intro z
    rcases Rat.mul_eq_zero.mp z with z | z
    · exact lt1_mul h (k g (List.mem_cons_self ..)) z
    · exact gprod_ne h (fun x m => k x (List.mem_cons_of_mem _ m)) z
/-- the energies' difference: not below 0, and 0 only where the last places are 0 -/
theorem energy (n : Nat) : ∀ (fs : List Rat), (∀ f ∈ fs, Lt1 f) → ∀ v : Sq, 0 ≤ E (n + 1) (aF fs v) - E (n + 1) (aS fs v) ∧ (E (n + 1) (aF fs v) - E (n + 1) (aS fs v) = 0 → ∀ j, j < fs.length → shN j v n = 0)
  | [], _, v => by
    refine ⟨?_, fun _ j hj => by simp at hj⟩
    show 0 ≤ E (n + 1) v - E (n + 1) v
    grind
  | f :: fs, h, v => by
    have hf := h f (List.mem_cons_self ..)
    have hfs : ∀ g ∈ fs, Lt1 g := fun g m => h g (List.mem_cons_of_mem _ m)
    obtain ⟨i1, i2⟩ := energy n fs hfs (pF f v)
    have one := E_one f (aS fs v) n
    have e1 : aF (f :: fs) v = aF fs (pF f v) := by rw [aF_pF]; rfl
    have e2 : aS (f :: fs) v = pS f (aS fs v) := rfl
    rw [aS_pF] at i1 i2
    rw [e1, e2]
    have s0 := lt1_sq hf
    have s1 := sq_nn (aS fs v n)
    have s2 : 0 ≤ (1 - f * f) * (aS fs v n * aS fs v n) := Rat.mul_nonneg (by grind) s1
    refine ⟨by grind, fun hz => ?_⟩
    have z1 : E (n + 1) (aF fs (pF f v)) - E (n + 1) (pF f (aS fs v)) = 0 := by grind
    have z2 : (1 - f * f) * (aS fs v n * aS fs v n) = 0 := by grind
    have z3 : aS fs v n = 0 := by
      rcases Rat.mul_eq_zero.mp z2 with z | z
      · grind
      · rcases Rat.mul_eq_zero.mp z with z | z <;> exact z
    have k := i2 z1
    have rel : ∀ j, j < fs.length → shN j v n = f * shN (j + 1) v n := fun j hj => by
      have := k j hj
      rw [shN_pF] at this
      have this' : shN j v n - f * sh (shN j v) n = 0 := this
      have e : shN (j + 1) v n = sh (shN j v) n := rfl
      rw [e]
      grind
    have g := geo f n fs v 0 fun j hj => by
      rw [Nat.zero_add]
      exact rel j hj
    have g' : aS fs v n = gprod f fs * shN fs.length v n := by
      rw [Nat.zero_add] at g
      exact g
    rw [z3] at g'
    have last : shN fs.length v n = 0 := by
      rcases Rat.mul_eq_zero.mp g'.symm with z | z
      · exact absurd z (gprod_ne hf hfs)
      · exact z
    have down : ∀ d, d ≤ fs.length → shN (fs.length - d) v n = 0 := by
      intro d
      induction d with
      | zero => intro _; exact last
      | succ d ih =>
        intro hd
        have r := rel (fs.length - (d + 1)) (by omega)
        rw [show fs.length - (d + 1) + 1 = fs.length - d by omega, ih (by omega)] at r
        rw [r]; grind
    intro j hj
    have hj' : j < fs.length + 1 := hj
    have := down (fs.length - j) (by omega)
    rwa [show fs.length - (fs.length - j) = j by omega] at this
theorem strict {fs : List Rat} (h : ∀ f ∈ fs, Lt1 f) {N : Nat} (h1 : 1 ≤ N) (h2 : N ≤ fs.length) {v : Sq} (v0 : v 0 ≠ 0) : E N (aS fs v) < E N (aF fs v) := by
  obtain ⟨n, rfl⟩ : ∃ n, N = n + 1 := ⟨N - 1, by omega⟩
  obtain ⟨k1, k2⟩ := energy n fs h v
  by_cases z : E (n + 1) (aF fs v) - E (n + 1) (aS fs v) = 0
  · have := k2 z n (by omega)
    rw [shN_at] at this
    exact absurd this v0
  · have : 0 < E (n + 1) (aF fs v) - E (n + 1) (aS fs v) := by grind
    grind
end Sw

/-! lists acting on sequences; the step down keeps the energies' order -/
namespace Sw
def act : List Rat → Sq → Sq
  | [], _ => fun _ => 0
  | a :: p, v => fun n => a * v n + sh (act p v) n
theorem sh_add (u w : Sq) (a b : Rat) (n : Nat) : sh (fun i => a * u i + b * w i) n = a * sh u n + b * sh w n := by
  cases n with
  | zero => simp only [sh]; grind
  | succ n => rfl
theorem act_lin (a b : Rat) : ∀ (p q : List Rat) (v : Sq) (n : Nat), act (padd (psc a p) (psc b q)) v n = a * act p v n + b * act q v n
  | [], q, v, n => by
    show act (psc b q) v n = a * 0 + b * act q v n
    have : ∀ (q : List Rat) (n : Nat), act (psc b q) v n = b * act q v n := by
      intro q
      induction q with
      | nil => intro n; simp only [psc, List.map_nil, act]; grind
      | cons c q ih =>
        intro n
        have e : act (psc b (c :: q)) v n = b * c * v n + sh (act (psc b q) v) n := rfl
        have e2 : sh (act (psc b q) v) n = b * sh (act q v) n := by
          cases n with
          | zero => simp only [sh]; grind
          | succ n => exact ih n
        rw [e, e2]
        simp only [act]; grind
    rw [this]; grind
  | c :: p, [], v, n => by
    show act (psc a (c :: p)) v n = a * act (c :: p) v n + b * 0
    have : ∀ (q : List Rat) (n : Nat), act (psc a q) v n = a * act q v n := by
      intro q
      induction q with
      | nil => intro n; simp only [psc, List.map_nil, act]; grind
      | cons c q ih =>
        intro n
        have e : act (psc a (c :: q)) v n = a * c * v n + sh (act (psc a q) v) n := rfl
        have e2 : sh (act (psc a q) v) n = a * sh (act q v) n := by
          cases n with
          | zero => simp only [sh]; grind
          | succ n => exact ih n
        rw [e, e2]
        simp only [act]; grind
    rw [this]; grind
  | c :: p, d :: q, v, n => by
    have ih := act_lin a b p q v
    show (a * c + b * d) * v n + sh (act (padd (psc a p) (psc b q)) v) n = a * (c * v n + sh (act p v) n) + b * (d * v n + sh (act q v) n)
    have e : sh (act (padd (psc a p) (psc b q)) v) n = a * sh (act p v) n + b * sh (act q v) n := by
      rw [show act (padd (psc a p) (psc b q)) v = fun i => a * act p v i + b * act q v i from funext ih, sh_add]
    rw [e]; grind
theorem act_zero {p : List Rat} (h : ∀ i, cf p i = 0) (v : Sq) (n : Nat) : act p v n = 0 := by
  induction p generalizing n with
  | nil => rfl
  | cons a p ih =>
    have a0 : a = 0 := h 0
    have ih := ih fun i => by have := h (i + 1); rwa [cf_succ] at this
    show a * v n + sh (act p v) n = 0
    have : sh (act p v) n = 0 := by
      cases n with
      | zero => rfl
      | succ n => exact ih n
    rw [this, a0]; grind
theorem act_ext {p q : List Rat} (h : ∀ i, cf p i = cf q i) (v : Sq) (n : Nat) : act p v n = act q v n := by
  have := act_zero (p := padd (psc 1 p) (psc (-1) q)) (fun i => by rw [cf_padd, cf_psc, cf_psc, h]; grind) v n
  rw [act_lin] at this
  grind
/-- only the places up to n count -/
theorem act_loc {p : List Rat} {v w : Sq} : ∀ {n : Nat}, (∀ i, i ≤ n → v i = w i) → act p v n = act p w n := by
  induction p with
  | nil => intro n _; rfl
  | cons a p ih =>
    intro n h
    show a * v n + sh (act p v) n = a * w n + sh (act p w) n
    have : sh (act p v) n = sh (act p w) n := by
      cases n with
      | zero => rfl
      | succ n => exact ih fun i hi => h i (by omega)
    rw [this, h n (Nat.le_refl n)]
theorem E_loc {u w : Sq} : ∀ {N : Nat}, (∀ i, i < N → u i = w i) → E N u = E N w
  | 0, _ => rfl
  | N + 1, h => by
    show E N u + u N * u N = E N w + w N * w N
    rw [E_loc (N := N) fun i hi => h i (by omega), h N (by omega)]
theorem E_tail {u : Sq} {N : Nat} : ∀ {m : Nat}, (∀ i, N ≤ i → i < N + m → u i = 0) → E (N + m) u = E N u
  | 0, _ => rfl
  | m + 1, h => by
    show E (N + m) u + u (N + m) * u (N + m) = E N u
    rw [E_tail (m := m) fun i h1 h2 => h i h1 (by omega), h (N + m) (by omega) (by omega)]
    grind
theorem E_sh (w : Sq) (N : Nat) : E (N + 1) (sh w) = E N w := by
  induction N with
  | zero => simp only [E, sh]; grind
  | succ N ih =>
    show E (N + 1) (sh w) + sh w (N + 1) * sh w (N + 1) = E N w + w N * w N
    rw [ih]; rfl
theorem E_shN (w : Sq) (N m : Nat) : E (N + m) (shN m w) = E N w := by
  induction m with
  | zero => rfl
  | succ m ih => rw [← Nat.add_assoc]; show E (N + m + 1) (sh (shN m w)) = _; rw [E_sh, ih]
theorem E_lin {a b x y : Sq} {c : Rat} (h : ∀ n, a n * a n - b n * b n = c * (x n * x n - y n * y n)) (N : Nat) : E N a - E N b = c * (E N x - E N y) := by
  induction N with
  | zero => simp only [E]; grind
  | succ N ih =>
    have := h N
    simp only [E]
    grind
theorem act_pad (m : Nat) (p : List Rat) (v : Sq) : act (List.replicate m 0 ++ p) v = shN m (act p v) := by
  induction m with
  | zero => rfl
  | succ m ih =>
    rw [List.replicate_succ, List.cons_append]
    funext n
    show 0 * v n + sh (act (List.replicate m 0 ++ p) v) n = sh (shN m (act p v)) n
    rw [ih]; grind
theorem cf_rev {p : List Rat} (i : Nat) : cf p.reverse i = if i < p.length then cf p (p.length - 1 - i) else 0 := by
  by_cases h : i < p.length
  · rw [if_pos h]
    unfold cf
    rw [List.getD_eq_getElem?_getD, List.getD_eq_getElem?_getD, List.getElem?_reverse h]
  · rw [if_neg h, cf_ge (by rw [List.length_reverse]; omega)]
def SP (P : List Rat) : Prop := ∀ (N : Nat) (v : Sq), 1 ≤ N → N + 1 ≤ P.length → v 0 ≠ 0 → E N (act P.reverse v) < E N (act P v)
theorem act_at0 (p : List Rat) (v : Sq) : act p v 0 = cf p 0 * v 0 := by
  cases p with
  | nil => simp only [act, cf_nil]; grind
  | cons a p => simp only [act, sh, cf_zero]; grind
theorem sp_sq {P : List Rat} (h : SP P) (h1 : cf P 0 = 1) (hl : 2 ≤ P.length) : lastOf P * lastOf P < 1 := by
  have := h 1 (fun _ => 1) (Nat.le_refl _) (by omega) (by decide)
  have e1 : E 1 (act P.reverse fun _ => 1) = lastOf P * lastOf P := by
    show 0 + act P.reverse (fun _ => 1) 0 * act P.reverse (fun _ => 1) 0 = _
    rw [act_at0, cf_rev, if_pos (by omega)]
    unfold lastOf
    rw [Nat.sub_zero]; grind
  have e2 : E 1 (act P fun _ => 1) = 1 := by
    show 0 + act P (fun _ => 1) 0 * act P (fun _ => 1) 0 = _
    rw [act_at0, h1]; grind
  rwa [e1, e2] at this
theorem small_of {k : Rat} (h : k * k < 1) : small k = true := by
  have e := den_mul k
  have d0 : (0 : Rat) < (k.den : Rat) := by
    have := k.den_nz
    have h1 : (0 : Int) < (k.den : Int) := by omega
    have : ((0 : Int) : Rat) < ((k.den : Int) : Rat) := Rat.intCast_lt_intCast.mpr h1
    exact this
  have d1 := Rat.mul_pos d0 d0
  have k1 : k * k * ((k.den : Rat) * (k.den : Rat)) < 1 * ((k.den : Rat) * (k.den : Rat)) := Rat.mul_lt_mul_of_pos_right h d1
  have k2 : (k.num : Rat) * (k.num : Rat) < (k.den : Rat) * (k.den : Rat) := by
    rw [← e]
    grind
  have k3 : ((k.num * k.num : Int) : Rat) < (((k.den : Int) * (k.den : Int) : Int) : Rat) := by
    rw [Rat.intCast_mul, Rat.intCast_mul]
    exact k2
  have k4 := Rat.intCast_lt_intCast.mp k3
  have k5 : k.num.natAbs * k.num.natAbs < k.den * k.den := by
    have a1 := Int.natAbs_mul_self' k.num
    have : ((k.num.natAbs * k.num.natAbs : Nat) : Int) < ((k.den * k.den : Nat) : Int) := by
      rw [Int.natCast_mul, Int.natCast_mul, a1]
      exact k4
    omega
  refine decide_eq_true ?_
  apply Nat.lt_of_not_le
  intro hle
  have := Nat.mul_le_mul hle hle
  omega
/-- a sequence whose places from N on are turned so that T sends them to 0 -/
theorem extend (t : List Rat) (v : Sq) (N : Nat) : ∀ m : Nat, ∃ w : Sq, (∀ i, i < N → w i = v i) ∧ ∀ i, N ≤ i → i < N + m → act (1 :: t) w i = 0
  | 0 => ⟨v, fun _ _ => rfl, fun i h1 h2 => by omega⟩
  | m + 1 => by
    obtain ⟨w, h1, h2⟩ := extend t v N m
    refine ⟨fun i => if i = N + m then -(sh (act t w) (N + m)) else w i, fun i hi => ?_, fun i k1 k2 => ?_⟩
    · show (if i = N + m then _ else w i) = v i
      rw [if_neg (by omega)]; exact h1 i hi
    · by_cases e : i = N + m
      · subst e
        show 1 * (if N + m = N + m then -(sh (act t w) (N + m)) else w (N + m)) + sh (act t _) (N + m) = 0
        rw [if_pos rfl]
        have : sh (act t fun i => if i = N + m then -(sh (act t w) (N + m)) else w i) (N + m) = sh (act t w) (N + m) := by
          cases hn : N + m with
          | zero => rfl
          | succ n =>
            refine act_loc fun i hi => ?_
            show (if i = n + 1 then _ else w i) = w i
            rw [if_neg (by omega)]
        rw [this]; grind
      · have := h2 i k1 (by omega)
        rw [← this]
        refine act_loc fun j hj => ?_
        show (if j = N + m then _ else w j) = w j
        rw [if_neg (by omega)]
theorem sp_step {P : List Rat} (h : SP P) (h1 : cf P 0 = 1) (hl : 2 ≤ P.length) : SP (sdn P) := by
  have sq := sp_sq h h1 hl
  have n1 : 1 - lastOf P * lastOf P ≠ 0 := by grind
  have c0 : 0 < 1 - lastOf P * lastOf P := by grind
  generalize hk : lastOf P = k at *
  have T0 : cf (sdn P) 0 = 1 := cf_sdn0 h1 (by rw [hk]; exact n1) hl
  have Tl := sdn_len (p := P)
  have cT : ∀ i, (1 - k * k) * cf (sdn P) i = cf P i - k * cf P.reverse i := fun i => by
    rw [sdn, cf_trim, sdrow, cf_range, cf_rev]
    by_cases h2 : i < P.length - 1
    · rw [if_pos h2, if_pos (by omega)]
      unfold sdE
      rw [hk]
      grind
    · rw [if_neg h2]
      by_cases h3 : i < P.length
      · rw [if_pos h3]
        have e : i = P.length - 1 := by omega
        subst e
        rw [Nat.sub_self, h1]
        have : cf P (P.length - 1) = k := hk
        rw [this]; grind
      · rw [if_neg h3, cf_ge (p := P) (by omega)]; grind
  intro N v N1 N2 v0
  obtain ⟨t, hT⟩ : ∃ t, sdn P = 1 :: t := by
    cases e : sdn P with
    | nil => rw [e] at T0; exact absurd T0 (by decide)
    | cons a t =>
      rw [e] at T0
      have : a = 1 := T0
      exact ⟨t, by rw [this]⟩
  generalize hd : P.length - 1 - (sdn P).length = d
  obtain ⟨w, w1, w2⟩ := extend t v N (d + 1)
  rw [← hT] at w2
  have w0 : w 0 ≠ 0 := by rw [w1 0 (by omega)]; exact v0
  have key := h (N + (d + 1)) w (by omega) (by omega) w0
  have ea : ∀ n, (1 - k * k) * act (sdn P) w n = act P w n - k * act P.reverse w n := fun n => by
    have e := act_ext (p := padd (psc (1 - k * k) (sdn P)) (psc 0 P)) (q := padd (psc 1 P) (psc (-k) P.reverse)) (fun i => by
      rw [cf_padd, cf_padd, cf_psc, cf_psc, cf_psc, cf_psc, cT]; grind) w n
    rw [act_lin, act_lin] at e
    grind
  have eb : ∀ n, (1 - k * k) * shN (d + 1) (act (sdn P).reverse w) n = act P.reverse w n - k * act P w n := fun n => by
    rw [← act_pad]
    have e := act_ext (p := padd (psc (1 - k * k) (List.replicate (d + 1) 0 ++ (sdn P).reverse)) (psc 0 P)) (q := padd (psc 1 P.reverse) (psc (-k) P)) (fun i => by
      rw [cf_padd, cf_padd, cf_psc, cf_psc, cf_psc, cf_psc]
      have cz : cf (List.replicate (d + 1) 0 ++ (sdn P).reverse) i = if i < P.length then cf (sdn P) (P.length - 1 - i) else 0 := by
        unfold cf
        rw [List.getD_eq_getElem?_getD, List.getElem?_append, List.length_replicate]
        by_cases i1 : i < d + 1
        · rw [if_pos i1, List.getElem?_replicate, if_pos i1]
          by_cases i2 : i < P.length
          · rw [if_pos i2]
            exact (cf_ge (p := sdn P) (by omega)).symm
          · rw [if_neg i2]; rfl
        · rw [if_neg i1]
          have := cf_rev (p := sdn P) (i - (d + 1))
          unfold cf at this
          rw [List.getD_eq_getElem?_getD] at this
          rw [this]
          by_cases i2 : i < P.length
          · rw [if_pos i2, if_pos (by omega)]
            congr 1
            omega
          · rw [if_neg i2, if_neg (by omega)]
      rw [cz]
      by_cases i2 : i < P.length
      · have := cT (P.length - 1 - i)
        rw [cf_rev, if_pos (by omega), show P.length - 1 - (P.length - 1 - i) = i by omega] at this
        rw [if_pos i2, cf_rev, if_pos i2]
        grind
      · rw [if_neg i2, cf_rev, if_neg i2, cf_ge (p := P) (by omega)]; grind) w n
    rw [act_lin, act_lin] at e
    grind
  have lin := E_lin (a := act (sdn P) w) (b := shN (d + 1) (act (sdn P).reverse w)) (x := act P w) (y := act P.reverse w) (c := 1 / (1 - k * k)) (fun n => by
    have e1 := ea n
    have e2 := eb n
    generalize act (sdn P) w n = A at *
    generalize shN (d + 1) (act (sdn P).reverse w) n = Bb at *
    generalize act P w n = X at *
    generalize act P.reverse w n = Y at *
    have eA : A = (X - k * Y) / (1 - k * k) := by grind
    have eB : Bb = (Y - k * X) / (1 - k * k) := by grind
    rw [eA, eB]
    grind) (N + (d + 1))
  rw [E_shN, E_tail w2] at lin
  have p1 : E N (act (sdn P) w) = E N (act (sdn P) v) := E_loc fun i hi => act_loc fun j hj => w1 j (by omega)
  have p2 : E N (act (sdn P).reverse w) = E N (act (sdn P).reverse v) := E_loc fun i hi => act_loc fun j hj => w1 j (by omega)
  rw [p1, p2] at lin
  have inv : 0 < 1 / (1 - k * k) := by
    rw [Rat.div_def, Rat.one_mul]
    exact Rat.inv_pos.mpr c0
  have pos := Rat.mul_pos inv (show 0 < E (N + (d + 1)) (act P w) - E (N + (d + 1)) (act P.reverse w) by grind)
  grind
theorem sp_down : ∀ (n : Nat) (P : List Rat), SP P → cf P 0 = 1 → (drow n P).isSome = true
  | 0, _, _, _ => rfl
  | n + 1, P, h, h1 => by
    rw [drow]
    by_cases hl : P.length ≤ 1
    · rw [if_pos hl]; rfl
    · have sq := sp_sq h h1 (by omega)
      rw [if_neg hl, if_pos (small_of sq), Option.isSome_map]
      exact sp_down n (sdn P) (sp_step h h1 (by omega)) (cf_sdn0 h1 (by grind) (by omega))
/-! ### the row of a product -/
def PL : List Rat → List Rat
  | [] => [1]
  | f :: fs => padd (psc 1 (PL fs ++ [0])) (psc (-f) (0 :: PL fs))
theorem cf_snoc0 (p : List Rat) (i : Nat) : cf (p ++ [0]) i = cf p i := by
  unfold cf
  rw [List.getD_eq_getElem?_getD, List.getD_eq_getElem?_getD, List.getElem?_append]
  split
  · rfl
  · rename_i h
    rw [List.getElem?_eq_none (l := p) (by omega)]
    cases i - p.length with
    | zero => rfl
    | succ j => rfl
theorem padd_len : ∀ {p q : List Rat}, p.length = q.length → (padd p q).length = q.length
  | [], q, _ => rfl
  | a :: p, [], h => by simp at h
  | a :: p, b :: q, h => by
    show (padd p q).length + 1 = q.length + 1
    rw [padd_len (by simpa using h)]
theorem PL_len (fs : List Rat) : (PL fs).length = fs.length + 1 := by
  induction fs with
  | nil => rfl
  | cons f fs ih =>
    have : (psc 1 (PL fs ++ [0])).length = (psc (-f) (0 :: PL fs)).length := by simp [psc]
    rw [PL, padd_len this, psc_len, List.length_cons, ih]
    rfl
theorem cf_PL (f : Rat) (fs : List Rat) (i : Nat) : cf (PL (f :: fs)) i = cf (PL fs) i + -f * cf (0 :: PL fs) i := by
  rw [PL, cf_padd, cf_psc, cf_psc, cf_snoc0]; grind
theorem ev_PL (fs : List Rat) (x : Rat) : ev (PL fs) x = pf fs x := by
  induction fs with
  | nil => simp only [PL, ev, pf]; grind
  | cons f fs ih =>
    have e : ev (PL fs ++ [0]) x = ev (PL fs) x := ev_ext (cf_snoc0 _) x
    rw [PL, ev_padd, ev_psc, ev_psc, e]
    simp only [ev, pf, ih]; grind
theorem PL_zero (fs : List Rat) : cf (PL fs) 0 = 1 := by
  induction fs with
  | nil => rfl
  | cons f fs ih => rw [cf_PL, ih, cf_zero]; grind
theorem PL_last {fs : List Rat} (h : ∀ f ∈ fs, f ≠ 0) : cf (PL fs) fs.length ≠ 0 := by
  induction fs with
  | nil => show (1 : Rat) ≠ 0; decide
  | cons f fs ih =>
    have f0 := h f (List.mem_cons_self ..)
    have := ih fun g m => h g (List.mem_cons_of_mem _ m)
    rw [cf_PL, cf_ge (p := PL fs) (by rw [PL_len]; exact Nat.le_refl _)]
    show 0 + -f * cf (0 :: PL fs) (fs.length + 1) ≠ 0
    rw [cf_succ]
    intro z
    have z' : f * cf (PL fs) fs.length = 0 := by grind
    rcases Rat.mul_eq_zero.mp z' with z | z
    · exact f0 z
    · exact this z
theorem trd_PL {fs : List Rat} (h : ∀ f ∈ fs, f ≠ 0) : Trd (PL fs) := trd_of_last fun _ => by
  rw [PL_len]
  exact PL_last h
theorem act_PL (fs : List Rat) (v : Sq) : act (PL fs) v = aF fs v := by
  induction fs with
  | nil =>
    funext n
    show 1 * v n + sh (fun _ => 0) n = v n
    cases n <;> (simp only [sh]; grind)
  | cons f fs ih =>
    funext n
    have e : act (PL fs ++ [0]) v n = act (PL fs) v n := act_ext (cf_snoc0 _) v n
    have e2 : act (0 :: PL fs) v n = sh (act (PL fs) v) n := by
      show 0 * v n + _ = _
      grind
    rw [PL, act_lin, e, e2, ih]
    show _ = aF fs v n - f * sh (aF fs v) n
    grind
theorem rev_PL (f : Rat) (fs : List Rat) (i : Nat) : cf (PL (f :: fs)).reverse i = cf (0 :: (PL fs).reverse) i + -f * cf (PL fs).reverse i := by
  have l := PL_len (f :: fs)
  have l' := PL_len fs
  have hl : (f :: fs).length = fs.length + 1 := rfl
  rw [cf_rev, l, hl]
  by_cases h : i < fs.length + 1 + 1
  · rw [if_pos h, cf_PL]
    have a1 : cf (0 :: (PL fs).reverse) i = cf (PL fs) (fs.length + 1 + 1 - 1 - i) := by
      cases i with
      | zero => rw [cf_zero, cf_ge (by rw [l']; omega)]
      | succ i =>
        rw [cf_succ, cf_rev, l', if_pos (by omega)]
        congr 1
        omega
    have a2 : cf (0 :: PL fs) (fs.length + 1 + 1 - 1 - i) = cf (PL fs).reverse i := by
      rw [cf_rev, l']
      by_cases h2 : i < fs.length + 1
      · rw [if_pos h2, show fs.length + 1 + 1 - 1 - i = (fs.length + 1 - 1 - i) + 1 by omega, cf_succ]
      · rw [if_neg h2, show fs.length + 1 + 1 - 1 - i = 0 by omega, cf_zero]
    rw [a1, a2]
  · rw [if_neg h, cf_ge (by rw [List.length_cons, List.length_reverse, l']; omega), cf_ge (by rw [List.length_reverse, l']; omega)]
    grind
theorem act_rev (fs : List Rat) (v : Sq) : act (PL fs).reverse v = aS fs v := by
  induction fs with
  | nil =>
    funext n
    show 1 * v n + sh (fun _ => 0) n = v n
    cases n <;> (simp only [sh]; grind)
  | cons f fs ih =>
    funext n
    have e := act_ext (p := (PL (f :: fs)).reverse) (q := padd (psc 1 (0 :: (PL fs).reverse)) (psc (-f) (PL fs).reverse)) (fun i => by
      rw [rev_PL, cf_padd, cf_psc, cf_psc]; grind) v n
    have e2 : act (0 :: (PL fs).reverse) v n = sh (act (PL fs).reverse v) n := by
      show 0 * v n + _ = _
      grind
    rw [e, act_lin, e2, ih]
    show _ = sh (aS fs v) n - f * aS fs v n
    grind
theorem sp_PL {fs : List Rat} (h : ∀ f ∈ fs, Lt1 f) : SP (PL fs) := fun N v h1 h2 v0 => by
  rw [act_PL, act_rev]
  rw [PL_len] at h2
  exact strict h h1 (by omega) v0
/-- what is made of such a product dies -/
theorem pone_PL {B : List Rat} {S : List Rat} {b : Rat} (hS : ∀ f ∈ S, f ≠ 0) (tB : Trd B) (b0 : b ≠ 0) (h : ∀ x, ev B x = b * pf S x) : pone B = PL S ∧ cf B 0 = b := by
  have ev0 : ∀ p : List Rat, ev p 0 = cf p 0 := fun p => by
    cases p with
    | nil => rfl
    | cons a p => simp only [ev, cf_zero]; grind
  have e0 : cf B 0 = b := by rw [← ev0, h, pf_zero]; grind
  refine ⟨trd_eq (trd_psc (inv_ne (by rw [e0]; exact b0)) tB) (trd_PL hS) fun x => ?_, e0⟩
  rw [pone, ev_psc, e0, h, ev_PL]
  grind
theorem dies_of {B : List Rat} {S : List Rat} {b : Rat} (hS : ∀ f ∈ S, f ≠ 0) (h1 : ∀ f ∈ S, Lt1 f) (tB : Trd B) (b0 : b ≠ 0) (h : ∀ x, ev B x = b * pf S x) : pdies B = true := by
  unfold pdies pdown
  rw [(pone_PL hS tB b0 h).1]
  exact sp_down _ _ (sp_PL h1) (PL_zero S)
/-! ### where a root stands on the circle -/
theorem rev_ev {r : Rat} (hr : r * r = 1) (P : List Rat) : ev P.reverse r * r = r ^ P.length * ev P r := by
  induction P with
  | nil => simp only [List.reverse_nil, ev]; grind
  | cons a p ih =>
    rw [List.reverse_cons, ev_append, List.length_reverse, List.length_cons, Rat.pow_succ]
    simp only [ev]
    generalize ev p.reverse r = u at *
    generalize ev p r = w at *
    generalize r ^ p.length = z at *
    grind
theorem root_step {P : List Rat} {r : Rat} (hr : r * r = 1) (h : ev P r = 0) (h1 : cf P 0 = 1) (n1 : 1 - lastOf P * lastOf P ≠ 0) : ev (sdn P) r = 0 := by
  have hv := rev_ev hr P
  rw [h] at hv
  have hv' : ev P.reverse r = 0 := by
    have : ev P.reverse r * r * r = 0 := by rw [hv]; grind
    grind
  have e : ∀ i, cf (psc (1 - lastOf P * lastOf P) (sdn P)) i = cf (padd P (psc (-lastOf P) P.reverse)) i := fun i => by
    rw [cf_psc, cf_padd, cf_psc, sdn, cf_trim, sdrow, cf_range, cf_rev]
    by_cases h2 : i < P.length - 1
    · rw [if_pos h2, if_pos (by omega)]
      unfold sdE
      grind
    · rw [if_neg h2]
      by_cases h3 : i < P.length
      · rw [if_pos h3]
        have e : i = P.length - 1 := by omega
        subst e
        rw [Nat.sub_self, h1]
        unfold lastOf
        grind
      · rw [if_neg h3, cf_ge (p := P) (by omega)]; grind
  have := ev_ext e r
  rw [ev_psc, ev_padd, ev_psc, h, hv'] at this
  have z : (1 - lastOf P * lastOf P) * ev (sdn P) r = 0 := by rw [this]; grind
  rcases Rat.mul_eq_zero.mp z with z | z
  · exact absurd z n1
  · exact z
theorem root_down {r : Rat} (hr : r * r = 1) : ∀ (n : Nat) (P : List Rat), P.length ≤ n → cf P 0 = 1 → ev P r = 0 → drow n P = none
  | 0, P, hl, h1, _ => by
    rw [cf_ge (by omega)] at h1
    exact absurd h1 (by decide)
  | n + 1, P, hl, h1, h => by
    have l2 : 2 ≤ P.length := by
      apply Nat.lt_of_not_le
      intro hle
      cases P with
      | nil => exact absurd h1 (by decide)
      | cons a p =>
        have : p = [] := by simpa using hle
        subst this
        have a1 : a = 1 := h1
        simp only [ev] at h
        rw [a1] at h
        grind
    rw [drow, if_neg (by omega)]
    by_cases hs : small (lastOf P) = true
    · rw [if_pos hs]
      have n1 : 1 - lastOf P * lastOf P ≠ 0 := by
        intro z
        have e := den_mul (lastOf P)
        have hd : (lastOf P).num.natAbs < (lastOf P).den := of_decide_eq_true hs
        have d0 : ((lastOf P).den : Rat) ≠ 0 := cast_ne (b := ((lastOf P).den : Int)) (by have := (lastOf P).den_nz; omega)
        have q : ((lastOf P).num : Rat) * ((lastOf P).num : Rat) = ((lastOf P).den : Rat) * ((lastOf P).den : Rat) := by
          rw [← e]; grind
        have q2 : (((lastOf P).num * (lastOf P).num : Int) : Rat) = ((((lastOf P).den : Int) * ((lastOf P).den : Int) : Int) : Rat) := by
          rw [Rat.intCast_mul, Rat.intCast_mul]; exact q
        have q3 := Rat.intCast_inj.mp q2
        have q4 := congrArg Int.natAbs q3
        rw [Int.natAbs_mul, Int.natAbs_mul] at q4
        have q5 : (lastOf P).num.natAbs * (lastOf P).num.natAbs < (lastOf P).den * (lastOf P).den := Nat.mul_lt_mul'' hd hd
        simp at q4
        omega
      have ll := sdn_len (p := P)
      rw [root_down hr n (sdn P) (by omega) (cf_sdn0 h1 n1 l2) (root_step hr h h1 n1)]
      rfl
    · rw [if_neg hs]
theorem dies_not {B : List Rat} {r : Rat} (hr : r * r = 1) (b0 : cf B 0 ≠ 0) (h : ev B r = 0) : pdies B = false := by
  unfold pdies pdown
  rw [root_down hr _ _ (Nat.le_refl _) (by rw [pone, cf_psc]; grind) (by rw [pone, ev_psc, h]; grind)]
  rfl
end Sw

/-! what the defs ask, from sizes -/
namespace Sw
theorem sm1' : Sm 1 := by
  have h : (1 : Nat) < 2 ^ SZ := Nat.one_lt_two_pow (by rw [SZ_eq]; decide)
  exact ⟨h, h⟩
theorem ev1_iz {D M : Nat} : ∀ {p : List Rat}, Bd D M p → Iz D (p.length * M) (ev p 1)
  | [], _ => by
    show Iz D _ 0
    exact Iz.zero
  | a :: p, h => by
    have h1 := h a (List.mem_cons_self ..)
    have h2 := ev1_iz (p := p) fun b m => h b (List.mem_cons_of_mem _ m)
    have := h1.add h2
    have e : ev (a :: p) 1 = a + ev p 1 := by simp only [ev]; grind
    rw [e]
    refine this.mono ?_
    rw [List.length_cons, Nat.succ_mul]
    omega
theorem va_of {t : Nat} {p : List Rat} (h : Bnd t p) (hl : p.length ≤ 100) (ht : t + 7 ≤ SZ) : VaOk p 1 := by
  have sm := h.sm (by omega)
  obtain ⟨D, M, h0, h1, h2, h3⟩ := h
  have key : ∀ i, Sm (ev (p.drop i) 1) := fun i => by
    have k := ev1_iz (p := p.drop i) fun a m => h3 a (List.mem_of_mem_drop m)
    refine k.sm (by omega) (lt_two h1 (by omega)) ?_
    have : (p.drop i).length ≤ 100 := by rw [List.length_drop]; omega
    have e : (p.drop i).length * M < 2 ^ (7 + t) := mul_two (Nat.lt_of_le_of_lt this (by decide)) h2
    exact lt_two e (by omega)
  refine ⟨by omega, sm1', sm, key, fun i => ?_⟩
  rw [Rat.mul_one]
  exact key i
theorem at_of {q : PQ} {s t : Nat} (h1 : Bnd s q.1) (h2 : Bnd t q.2) (l1 : q.1.length ≤ 100) (l2 : q.2.length ≤ 100) (b1 : s + 7 ≤ SZ) (b2 : t + 7 ≤ SZ) (h0 : ev q.2 1 ≠ 0) : AtOk q 1 := ⟨va_of h1 l1 b1, va_of h2 l2 b2, h0⟩
theorem ev_at0 (p : List Rat) : ev p 0 = cf p 0 := by
  cases p with
  | nil => rfl
  | cons a p => simp only [ev, cf_zero]; grind
theorem ke_of {t : Nat} {p : List Rat} (h0 : cf p 0 ≠ 0) (h : Bnd t p) (hl : p.length ≤ 8) (ht : t ≤ 1000) : KeOk p := by
  refine ⟨h0, by omega, t, h, by rw [SZ_eq]; omega, ?_⟩
  rw [SZ_eq]
  have : 2 ^ p.length ≤ 2 ^ 8 := two_le hl
  calc (t + 1) * 2 ^ p.length ≤ 1001 * 2 ^ 8 := Nat.mul_le_mul (by omega) this
    _ ≤ 400000 := by decide
theorem ke_pmon {S : List Rat} (hS : ∀ f ∈ S, Fam f) (hl : S.length ≤ 7) : KeOk (pmon S) := by
  have h0 : ∀ f ∈ S, f ≠ 0 := fun f m => (hS f m).1
  refine ke_of ?_ (pmon_bnd S hl hS) (by rw [(pmon_facts S).2.2]; omega) (by omega)
  rw [← ev_at0, ev_pmon h0, pf_zero]
  have := moc_ne h0
  grind
/-- products that poly_times can run -/
theorem mu_of {s t : Nat} {p q : List Rat} (h1 : Bnd s p) (h2 : Bnd t q) (l1 : p.length ≤ 100) (l2 : q.length ≤ 100) (b : s + t + 14 ≤ 400000) : MuOk p q := ⟨s, t, h1, h2, by rw [SZ_eq]; exact b, l1, l2⟩
theorem pplus_len (p q : List Rat) : (pplus p q).length ≤ max p.length q.length := by
  have := trim_len ((List.range (max p.length q.length)).map fun i => cf p i + cf q i)
  rwa [List.length_map, List.length_range] at this
theorem trd_pplus (p q : List Rat) : Trd (pplus p q) := trd_trim _
/-! ### derivatives at 1 -/
def dev : List Rat → Rat → Rat
  | [], _ => 0
  | _ :: p, x => ev p x + x * dev p x
theorem dev_zero {p : List Rat} (h : ∀ i, cf p i = 0) (x : Rat) : dev p x = 0 := by
  induction p with
  | nil => rfl
  | cons a p ih =>
    have hz : ∀ i, cf p i = 0 := fun i => by have := h (i + 1); rwa [cf_succ] at this
    have e0 : ev p x = 0 := by rw [ev_ext (q := []) (fun i => by rw [hz, cf_nil])]; rfl
    show ev p x + x * dev p x = 0
    rw [e0, ih hz]; grind
theorem dev_padd (p q : List Rat) (x : Rat) : dev (padd p q) x = dev p x + dev q x := by
  induction p generalizing q with
  | nil => simp only [padd, dev]; grind
  | cons a p ih =>
    cases q with
    | nil => simp only [padd, dev]; grind
    | cons b q => simp only [padd, dev, ih, ev_padd]; grind
theorem dev_psc (c : Rat) (p : List Rat) (x : Rat) : dev (psc c p) x = c * dev p x := by
  induction p with
  | nil => simp only [psc, List.map_nil, dev]; grind
  | cons a p ih =>
    have e : dev (psc c (a :: p)) x = ev (psc c p) x + x * dev (psc c p) x := rfl
    rw [e, ih, ev_psc]
    simp only [dev]; grind
theorem dev_ext {p q : List Rat} (h : ∀ i, cf p i = cf q i) (x : Rat) : dev p x = dev q x := by
  have := dev_zero (p := padd p (psc (-1) q)) (fun i => by rw [cf_padd, cf_psc, h]; grind) x
  rw [dev_padd, dev_psc] at this
  grind
theorem dev_mulR (p q : List Rat) (x : Rat) : dev (mulR p q) x = dev p x * ev q x + ev p x * dev q x := by
  induction p with
  | nil => simp only [mulR, dev, ev]; grind
  | cons a p ih =>
    have e : dev (0 :: mulR p q) x = ev (mulR p q) x + x * dev (mulR p q) x := rfl
    rw [mulR, dev_padd, dev_psc, e, ih, ev_mulR]
    simp only [dev, ev]; grind
theorem dev_mul {p q r : List Rat} (h : ∀ x, ev r x = ev p x * ev q x) (x : Rat) : dev r x = dev p x * ev q x + ev p x * dev q x := by
  rw [← dev_mulR]
  exact dev_ext (cf_of_far (M := 0) fun y _ => by rw [h, ev_mulR]) x
theorem dev_eq {p q : List Rat} (h : ∀ x, ev p x = ev q x) (x : Rat) : dev p x = dev q x := dev_ext (cf_of_far (M := 0) fun y _ => h y) x
/-- the row of k * p_k from k on -/
def wts (k : Rat) : List Rat → List Rat
  | [] => []
  | a :: p => k * a :: wts (k + 1) p
theorem cf_wts (k : Rat) (p : List Rat) (i : Nat) : cf (wts k p) i = (k + (i : Rat)) * cf p i := by
  induction p generalizing k i with
  | nil => simp only [wts, cf_nil]; grind
  | cons a p ih =>
    cases i with
    | zero =>
      show k * a = (k + ((0 : Nat) : Rat)) * a
      rw [show ((0 : Nat) : Rat) = 0 from rfl]; grind
    | succ i =>
      have e : cf (wts k (a :: p)) (i + 1) = cf (wts (k + 1) p) i := cf_succ _ _ _
      rw [e, ih, cf_succ, show ((i + 1 : Nat) : Rat) = (i : Rat) + 1 from Rat.natCast_add i 1]
      grind
theorem ev_wts (k x : Rat) (p : List Rat) : ev (wts k p) x = k * ev p x + x * dev p x := by
  induction p generalizing k with
  | nil => simp only [wts, ev, dev]; grind
  | cons a p ih => simp only [wts, ev, dev, ih]; grind
theorem ev_pder (p : List Rat) (x : Rat) : ev (pder p) x = dev p x := by
  cases p with
  | nil => rfl
  | cons a p =>
    have e : ∀ i, cf (pder (a :: p)) i = cf (wts 1 p) i := fun i => by
      rw [pder, cf_trim, cf_wts]
      have h1 : cf (((List.range (a :: p).length).map fun (i : Nat) => (i : Rat) * cf (a :: p) i).drop 1) i = cf ((List.range (a :: p).length).map fun (i : Nat) => (i : Rat) * cf (a :: p) i) (1 + i) := by
        unfold cf
        rw [List.getD_eq_getElem?_getD, List.getD_eq_getElem?_getD, List.getElem?_drop]
      rw [h1, cf_range, Nat.add_comm 1 i, cf_succ]
      by_cases h : i + 1 < (a :: p).length
      · rw [if_pos h, show ((i + 1 : Nat) : Rat) = (i : Rat) + 1 from Rat.natCast_add i 1]; grind
      · rw [if_neg h, cf_ge (p := p) (by simp at h; omega)]; grind
    rw [ev_ext e, ev_wts]
    show 1 * ev p x + x * dev p x = ev p x + x * dev p x
    grind
theorem pder_len (p : List Rat) : (pder p).length ≤ p.length - 1 := by
  have := trim_len (((List.range p.length).map fun (i : Nat) => (i : Rat) * cf p i).drop 1)
  rwa [List.length_drop, List.length_map, List.length_range] at this
theorem bnd_pder {t : Nat} {p : List Rat} (h : Bnd t p) (hl : p.length ≤ 8) : Bnd (t + 3) (pder p) := by
  obtain ⟨D, M, h0, h1, h2, h3⟩ := h
  refine Bnd.trim ⟨D, 8 * M, h0, lt_two h1 (by omega), ?_, fun a m => ?_⟩
  · have : 2 ^ (t + 3) = 2 ^ t * 8 := by rw [Nat.pow_add]
    omega
  · have m' := List.mem_of_mem_drop m
    obtain ⟨i, hi, rfl⟩ := List.mem_map.mp m'
    have hi' := List.mem_range.mp hi
    obtain ⟨z, hz, lz⟩ := h3.cf i
    refine ⟨(i : Int) * z, ?_, ?_⟩
    · rw [Rat.intCast_mul, ← hz]
      show (i : Rat) * cf p i * (D : Rat) = (i : Rat) * (cf p i * (D : Rat))
      grind
    · rw [Int.natAbs_mul]
      exact Nat.mul_le_mul (by simp; omega) lz
theorem sm_nat {i : Nat} (h : i ≤ 100) : Sm (i : Rat) := by
  have e : (100 : Nat) < 2 ^ SZ := Nat.lt_of_lt_of_le (by decide : 100 < 2 ^ 7) (two_le (by rw [SZ_eq]; decide))
  have e1 : (1 : Nat) < 2 ^ SZ := Nat.one_lt_two_pow (by rw [SZ_eq]; decide)
  exact ⟨by rw [Rat.num_natCast]; simp; omega, by rw [Rat.den_natCast]; exact e1⟩
theorem de_of {t : Nat} {p : List Rat} (h : Bnd t p) (hl : p.length ≤ 100) (ht : t ≤ SZ) : DeOk p := ⟨by omega, fun i => by
  by_cases hi : i ≤ 100
  · exact .inl (sm_nat hi)
  · exact .inr (by omega), h.sm ht⟩
end Sw

/-! the law's streams -/
namespace Sw
theorem divInt_mul_den {n d : Int} (h : d ≠ 0) : Rat.divInt n d * (d : Rat) = (n : Rat) := by
  rw [Rat.divInt_eq_div]
  have := cast_ne h
  grind
/-- falls that are not 0 -/
def fls (l : List Part) : List Rat := (l.map fun s => s.2.1).filter fun f => decide (f ≠ 0)
theorem part_fam {s : Part} (h : PartOk s) (h0 : s.2.1 ≠ 0) : Fam s.2.1 := by
  obtain ⟨_, _, ⟨n, d, k1, k2, k3, e⟩, _⟩ := h
  have d0 : d ≠ 0 := by omega
  have e2 := divInt_mul_den (n := n) d0
  rw [← e] at e2
  refine ⟨h0, n, d, fun z => ?_, by omega, by omega, e2⟩
  rw [z] at e2
  rcases Rat.mul_eq_zero.mp (e2.trans rfl) with y | y
  · exact h0 y
  · exact cast_ne d0 y
theorem part_lt {s : Part} (h : PartOk s) : Lt1 s.2.1 := by
  obtain ⟨_, _, ⟨n, d, k1, k2, k3, e⟩, _⟩ := h
  have d0 : d ≠ 0 := by omega
  have e2 := divInt_mul_den (n := n) d0
  rw [← e] at e2
  have dp : (0 : Rat) < (d : Rat) := by
    have : ((0 : Int) : Rat) < ((d : Int) : Rat) := Rat.intCast_lt_intCast.mpr (by omega)
    exact this
  have a1 : (n : Rat) < (d : Rat) := Rat.intCast_lt_intCast.mpr (by omega)
  have a2 : ((-d : Int) : Rat) < (n : Rat) := Rat.intCast_lt_intCast.mpr (by omega)
  rw [Rat.intCast_neg] at a2
  generalize s.2.1 = f at *
  refine ⟨?_, ?_⟩
  · apply Rat.not_le.mp
    intro hle
    have := Rat.mul_le_mul_of_nonneg_right hle (show (0 : Rat) ≤ (d : Rat) by grind)
    grind
  · apply Rat.not_le.mp
    intro hle
    have := Rat.mul_le_mul_of_nonneg_right hle (show (0 : Rat) ≤ (d : Rat) by grind)
    grind
theorem fls_fam {l : List Part} (h : ∀ s ∈ l, PartOk s) : ∀ f ∈ fls l, Fam f := fun f m => by
  obtain ⟨m1, m2⟩ := List.mem_filter.mp m
  obtain ⟨s, ms, rfl⟩ := List.mem_map.mp m1
  exact part_fam (h s ms) (by simpa using m2)
theorem fls_lt {l : List Part} (h : ∀ s ∈ l, PartOk s) : ∀ f ∈ fls l, Lt1 f := fun f m => by
  obtain ⟨m1, m2⟩ := List.mem_filter.mp m
  obtain ⟨s, ms, rfl⟩ := List.mem_map.mp m1
  exact part_lt (h s ms)
theorem fls_len (l : List Part) : (fls l).length ≤ l.length := by
  have := List.length_filter_le (fun f => decide (f ≠ 0)) (l.map fun s => s.2.1)
  rwa [List.length_map] at this
theorem ev_pits (s : Part) (x : Rat) : ev (pits s) x = 1 - s.2.1 * x := by
  unfold pits
  by_cases h : s.2.1 = 0
  · rw [if_pos h, h]; simp only [ev]; grind
  · rw [if_neg h]; simp only [ev]; grind
theorem pits_len (s : Part) : (pits s).length ≤ 2 ∧ Trd (pits s) := by
  unfold pits
  by_cases h : s.2.1 = 0
  · rw [if_pos h]
    exact ⟨by decide, trd_of_last fun _ => show (1 : Rat) ≠ 0 by decide⟩
  · rw [if_neg h]
    refine ⟨by simp, trd_of_last fun _ => ?_⟩
    show 0 - s.2.1 ≠ 0
    grind
theorem pits_bnd {s : Part} (h : PartOk s) : Bnd 3 (pits s) := by
  obtain ⟨_, _, ⟨n, d, k1, k2, k3, e⟩, _⟩ := h
  have d0 : d ≠ 0 := by omega
  have e2 := divInt_mul_den (n := n) d0
  rw [← e] at e2
  refine ⟨d.natAbs, 5, by omega, Nat.lt_of_le_of_lt (show d.natAbs ≤ 5 by omega) (by decide), by decide, fun a m => ?_⟩
  have dc : ((d.natAbs : Nat) : Rat) = (d : Rat) := by
    have : ((d.natAbs : Nat) : Int) = d := by omega
    show ((d.natAbs : Int) : Rat) = _
    rw [this]
  unfold pits at m
  have one : Iz d.natAbs 5 1 := ⟨d, by rw [Rat.one_mul, dc], by omega⟩
  by_cases h : s.2.1 = 0
  · rw [if_pos h] at m
    obtain rfl := List.mem_singleton.mp m
    exact one
  · rw [if_neg h] at m
    rcases List.mem_cons.mp m with rfl | m
    · exact one
    · obtain rfl := List.mem_singleton.mp m
      refine ⟨-n, ?_, by omega⟩
      rw [dc, Rat.intCast_neg, ← e2]
      grind
theorem small_bnd {q : Rat} (h : IsSmall q) : ∃ d : Nat, 0 < d ∧ d ≤ 3 ∧ Iz d 3 q := by
  obtain ⟨n, d, k1, k2, k3, e⟩ := h
  have d0 : d ≠ 0 := by omega
  have e2 := divInt_mul_den (n := n) d0
  rw [← e] at e2
  refine ⟨d.natAbs, by omega, by omega, n, ?_, by omega⟩
  have dc : ((d.natAbs : Nat) : Rat) = (d : Rat) := by
    have : ((d.natAbs : Nat) : Int) = d := by omega
    show ((d.natAbs : Int) : Rat) = _
    rw [this]
  rw [dc, e2]
theorem ptp_facts {s : Part} (h : PartOk s) : (ptp s).length ≤ 3 ∧ Trd (ptp s) ∧ Bnd 2 (ptp s) ∧ ∀ x, ev (ptp s) x = s.1 * x ^ s.2.2 := by
  obtain ⟨w0, sm, _, l2⟩ := h
  refine ⟨?_, ?_, ?_, fun x => ?_⟩
  · simp only [ptp, List.length_append, List.length_replicate, List.length_cons, List.length_nil]
    omega
  · exact trim_snoc w0 _
  · obtain ⟨d, d0, d3, iz⟩ := small_bnd sm
    refine ⟨d, 3, d0, by omega, by decide, fun a m => ?_⟩
    rcases List.mem_append.mp m with m | m
    · rw [List.eq_of_mem_replicate m]; exact Iz.zero
    · rw [List.mem_singleton.mp m]; exact iz
  · rw [ptp, ev_append, ev_zeros, List.length_replicate]
    simp only [ev]; grind
theorem pf_fls (l : List Part) (x : Rat) : pf (fls l) x = pf (l.map fun s => s.2.1) x := by
  unfold fls
  induction l with
  | nil => rfl
  | cons s l ih =>
    rw [List.map_cons, List.filter_cons]
    by_cases h : s.2.1 = 0
    · rw [if_neg (by simp [h])]
      simp only [pf]
      rw [ih, h]; grind
    · rw [if_pos (by simp [h])]
      simp only [pf]
      rw [ih]
theorem pf_snoc (fs : List Rat) (f x : Rat) : pf (fs ++ [f]) x = pf fs x * (1 - f * x) := by
  rw [pf_append]; simp only [pf]; grind
theorem mall_snoc (l : List Part) (s : Part) : mall (l ++ [s]) = mstep (mall l) s := by
  unfold mall
  rw [List.foldl_append]; rfl
/-- what the fold makes, part by part -/
structure MF (l : List Part) (a b : Nat) : Prop where
  t1 : Trd (mall l).1
  t2 : Trd (mall l).2
  l1 : (mall l).1.length ≤ (if l.length = 0 then 0 else l.length + 2)
  l2 : (mall l).2.length ≤ l.length + 1
  b1 : Bnd a (mall l).1
  b2 : Bnd b (mall l).2
  e2 : ∀ x, ev (mall l).2 x = pf (l.map fun s => s.2.1) x
theorem mf_nil : MF [] 1 1 := ⟨rfl, trd_of_last fun _ => show (1 : Rat) ≠ 0 by decide, by decide, by decide, Bnd.nil, ⟨1, 1, by decide, by decide, by decide, fun a m => by
  obtain rfl := List.mem_singleton.mp m
  exact ⟨1, by rw [Rat.one_mul]; rfl, by decide⟩⟩, fun x => by
  show ev [1] x = 1
  simp only [ev]; grind⟩
theorem mf_step {l : List Part} {s : Part} {a b ja jb jc : Nat} (h : MF l a b) (hs : PartOk s) (hl : l.length ≤ 2) (ha : (if l.length = 0 then 0 else l.length + 2) * 2 ≤ 2 ^ ja) (hb : (l.length + 1) * 2 ≤ 2 ^ jb) (hc : 3 * (l.length + 1) ≤ 2 ^ jc) (za : a ≤ 1000) (zb : b ≤ 1000) :
    MsOk (mall l) s ∧ MF (l ++ [s]) ((a + 3 + ja) + (2 + b + jc) + 1) (b + 3 + jb) := by
  obtain ⟨t1, t2, l1, l2, b1, b2, e2⟩ := h
  obtain ⟨p1, p2⟩ := pits_len s
  have pb := pits_bnd hs
  obtain ⟨q1, q2, q3, q4⟩ := ptp_facts hs
  have k1 := bnd_pmulJ (j := ja) b1 pb (Nat.le_trans (Nat.mul_le_mul l1 p1) ha)
  have k2 := bnd_pmulJ (j := jc) q3 b2 (Nat.le_trans (Nat.mul_le_mul q1 l2) hc)
  have k3 := bnd_pmulJ (j := jb) b2 pb (Nat.le_trans (Nat.mul_le_mul l2 p1) hb)
  have n1 := pmul_len (mall l).1 (pits s)
  have n2 := pmul_len (ptp s) (mall l).2
  have n3 := pmul_len (mall l).2 (pits s)
  have n4 := pplus_len (pmul (mall l).1 (pits s)) (pmul (ptp s) (mall l).2)
  have smf : Sm s.2.1 := by
    have h1 : Sm (cf (pits s) 1) := pb.sm (by rw [SZ_eq]; decide) 1
    by_cases h0 : s.2.1 = 0
    · rw [h0]
      have : cf (pits s) 1 = 0 := by unfold pits; rw [if_pos h0]; rfl
      rwa [this] at h1
    · have : cf (pits s) 1 = -s.2.1 := by
        unfold pits
        rw [if_neg h0]
        show (0 : Rat) - s.2.1 = _
        grind
      rw [this] at h1
      unfold Sm at *
      rwa [Rat.neg_num, Rat.neg_den, Int.natAbs_neg] at h1
  have l1' : (mall l).1.length ≤ l.length + 2 := by
    split at l1 <;> omega
  refine ⟨⟨smf, by have := hs.2.2.2; omega, ⟨a, 3, b1, pb, ?_, by omega, by omega⟩, ⟨2, b, q3, b2, ?_, by omega, by omega⟩, ⟨b, 3, b2, pb, ?_, by omega, by omega⟩⟩, ?_⟩
  · rw [SZ_eq]; omega
  · rw [SZ_eq]; omega
  · rw [SZ_eq]; omega
  · rw [show MF (l ++ [s]) _ _ = MF (l ++ [s]) _ _ from rfl]
    refine ⟨?_, ?_, ?_, ?_, ?_, ?_, fun x => ?_⟩
    · rw [mall_snoc]; exact trd_pplus _ _
    · rw [mall_snoc]; exact trd_pmul _ _
    · rw [mall_snoc, if_neg (by rw [List.length_append]; simp), List.length_append]
      show (pplus _ _).length ≤ _
      simp only [List.length_cons, List.length_nil]
      omega
    · rw [mall_snoc, List.length_append]
      show (pmul _ _).length ≤ _
      simp only [List.length_cons, List.length_nil]
      omega
    · rw [mall_snoc]; exact bnd_pplus k1 k2
    · rw [mall_snoc]; exact k3
    · rw [mall_snoc]
      show ev (pmul _ _) x = _
      rw [ev_pmul, e2, ev_pits, List.map_append]
      exact (pf_snoc _ _ _).symm
theorem mf_mono {l : List Part} {a b a' b' : Nat} (h : MF l a b) (ha : a ≤ a') (hb : b ≤ b') : MF l a' b' := ⟨h.t1, h.t2, h.l1, h.l2, h.b1.mono ha, h.b2.mono hb, h.e2⟩
theorem mall_all {l : List Part} (h : StreamOk l) : (∀ k s, l[k]? = some s → MsOk (mall (l.take k)) s) ∧ MF l 50 16 := by
  obtain ⟨h1, h3, hp⟩ := h
  match l, h1, h3, hp with
  | [s1], _, _, hp =>
    obtain ⟨m1, f1⟩ := mf_step (ja := 0) (jb := 1) (jc := 2) mf_nil (hp s1 (by simp)) (by decide) (by decide) (by decide) (by decide) (by decide) (by decide)
    refine ⟨fun k s e => ?_, mf_mono f1 (by decide) (by decide)⟩
    match k, e with
    | 0, e => cases e; exact m1
  | [s1, s2], _, _, hp =>
    obtain ⟨m1, f1⟩ := mf_step (ja := 0) (jb := 1) (jc := 2) mf_nil (hp s1 (by simp)) (by decide) (by decide) (by decide) (by decide) (by decide) (by decide)
    obtain ⟨m2, f2⟩ := mf_step (l := [s1]) (ja := 3) (jb := 2) (jc := 3) f1 (hp s2 (by simp)) (Nat.le_of_ble_eq_true rfl) (Nat.le_of_ble_eq_true rfl) (Nat.le_of_ble_eq_true rfl) (Nat.le_of_ble_eq_true rfl) (by decide) (by decide)
    refine ⟨fun k s e => ?_, mf_mono f2 (by decide) (by decide)⟩
    match k, e with
    | 0, e => cases e; exact m1
    | 1, e => cases e; exact m2
  | [s1, s2, s3], _, _, hp =>
    obtain ⟨m1, f1⟩ := mf_step (ja := 0) (jb := 1) (jc := 2) mf_nil (hp s1 (by simp)) (by decide) (by decide) (by decide) (by decide) (by decide) (by decide)
    obtain ⟨m2, f2⟩ := mf_step (l := [s1]) (ja := 3) (jb := 2) (jc := 3) f1 (hp s2 (by simp)) (Nat.le_of_ble_eq_true rfl) (Nat.le_of_ble_eq_true rfl) (Nat.le_of_ble_eq_true rfl) (Nat.le_of_ble_eq_true rfl) (by decide) (by decide)
    obtain ⟨m3, f3⟩ := mf_step (l := [s1, s2]) (ja := 3) (jb := 3) (jc := 4) f2 (hp s3 (by simp)) (Nat.le_of_ble_eq_true rfl) (Nat.le_of_ble_eq_true rfl) (Nat.le_of_ble_eq_true rfl) (Nat.le_of_ble_eq_true rfl) (by decide) (by decide)
    refine ⟨fun k s e => ?_, mf_mono f3 (by decide) (by decide)⟩
    match k, e with
    | 0, e => cases e; exact m1
    | 1, e => cases e; exact m2
    | 2, e => cases e; exact m3
  | s1 :: s2 :: s3 :: s4 :: l, _, h3, _ => exact absurd h3 (by simp)
end Sw

/-! one lap: the stream by itself -/
namespace Sw
theorem c5 {n : Nat} (h : n ≤ 5) : ∀ g, 1 ≤ g → g ≤ 8 → (n + 2 - g) * (7 * g + 1) ≤ 88 := by
  intro g h1 h2
  have : (n + 2 - g) * (7 * g + 1) ≤ (5 + 2 - g) * (7 * g + 1) := Nat.mul_le_mul_right _ (by omega)
  refine Nat.le_trans this ?_
  have : ∀ g, g < 9 → (5 + 2 - g) * (7 * g + 1) ≤ 88 := by decide
  exact this g (by omega)
theorem c6 {n : Nat} (h : n ≤ 6) : ∀ g, 1 ≤ g → g ≤ 8 → (n + 2 - g) * (7 * g + 1) ≤ 116 := by
  intro g h1 h2
  have : (n + 2 - g) * (7 * g + 1) ≤ (6 + 2 - g) * (7 * g + 1) := Nat.mul_le_mul_right _ (by omega)
  refine Nat.le_trans this ?_
  have : ∀ g, g < 9 → (6 + 2 - g) * (7 * g + 1) ≤ 116 := by decide
  exact this g (by omega)
theorem c7 {n : Nat} (h : n ≤ 7) : ∀ g, 1 ≤ g → g ≤ 8 → (n + 2 - g) * (7 * g + 1) ≤ 145 := by
  intro g h1 h2
  have : (n + 2 - g) * (7 * g + 1) ≤ (7 + 2 - g) * (7 * g + 1) := Nat.mul_le_mul_right _ (by omega)
  refine Nat.le_trans this ?_
  have : ∀ g, g < 9 → (7 + 2 - g) * (7 * g + 1) ≤ 145 := by decide
  exact this g (by omega)
theorem c8 {n : Nat} (h : n ≤ 8) : ∀ g, 1 ≤ g → g ≤ 8 → (n + 2 - g) * (7 * g + 1) ≤ 180 := by
  intro g h1 h2
  have : (n + 2 - g) * (7 * g + 1) ≤ (8 + 2 - g) * (7 * g + 1) := Nat.mul_le_mul_right _ (by omega)
  refine Nat.le_trans this ?_
  have : ∀ g, g < 9 → (8 + 2 - g) * (7 * g + 1) ≤ 180 := by decide
  exact this g (by omega)
/-- all of the stream's quotient -/
theorem made_all {l : List Part} (h : StreamOk l) : MaOk l ∧ ∃ S T, GQ (mall l) (pmade l) (fls l) S T 154 := by
  obtain ⟨hs, f⟩ := mall_all h
  obtain ⟨h1, h3, hp⟩ := h
  have e2 : ∀ x, ev (mall l).2 x = 1 * pf (fls l) x := fun x => by rw [f.e2, pf_fls]; grind
  have l1 : (mall l).1.length ≤ 5 := by
    have := f.l1
    split at this <;> omega
  have fl := fls_len l
  obtain ⟨q, S, T, g⟩ := law_all (c := 88) f.t1 f.t2 (by decide) e2 (fls_fam hp) (by omega) f.b1 f.b2 (Nat.le_refl _) (Nat.le_refl _) l1 (c5 l1)
  exact ⟨⟨by omega, hs, q⟩, S, T, g⟩
/-- the facts of one that the rest leans on -/
structure One (l : List Part) (S T : List Rat) : Prop where
  g : GQ (mall l) (pmade l) (fls l) S T 154
  famS : ∀ f ∈ S, Fam f
  famT : ∀ f ∈ T, Fam f
  ltS : ∀ f ∈ S, Lt1 f
  lS : S.length ≤ 3
  lT : T.length ≤ 3
  l1 : (pmade l).1.length ≤ 5
  nz : ∀ f ∈ S, f ≠ 0
theorem one_all {l : List Part} (h : StreamOk l) : ∃ S T, One l S T := by
  obtain ⟨_, S, T, g⟩ := made_all h
  obtain ⟨hs, f⟩ := mall_all h
  obtain ⟨h1, h3, hp⟩ := h
  have fl := fls_len l
  have k1 := g.sub.length_le
  have k2 := g.subT.length_le
  have l1 : (mall l).1.length ≤ 5 := by
    have := f.l1
    split at this <;> omega
  have gl := g.l1
  exact ⟨S, T, g, fun x m => fls_fam hp x (g.sub.mem m), fun x m => fls_fam hp x (g.subT.mem m), fun x m => fls_lt hp x (g.sub.mem m), by omega, by omega, by omega, fun x m => (fls_fam hp x (g.sub.mem m)).1⟩
section
variable {l : List Part} {S T : List Rat}
theorem One.ke (h : One l S T) : KeOk (pmade l).2 := by
  rw [h.g.b2]
  exact ke_pmon h.famS (by have := h.lS; omega)
theorem One.dies (h : One l S T) : pdies (pmade l).2 = true := by
  rw [h.g.b2]
  exact dies_of h.nz h.ltS (trd_pmon S) (moc_ne h.nz) (ev_pmon h.nz)
theorem One.la (h : One l S T) : LaOk (pmade l) := ⟨h.ke, fun e => by rw [h.dies] at e; cases e⟩
theorem lt1_ne1 {f : Rat} (h : Lt1 f) : 1 - f * 1 ≠ 0 := by
  have := h.2
  grind
theorem One.at1 (h : One l S T) : ev (pmade l).2 1 ≠ 0 := by
  rw [h.g.b2, ev_pmon h.nz]
  intro z
  rcases Rat.mul_eq_zero.mp z with z | z
  · exact moc_ne h.nz z
  · exact pf_ne (fun f m => lt1_ne1 (h.ltS f m)) z
theorem One.b2 (h : One l S T) : Bnd 22 (pmade l).2 ∧ (pmade l).2.length ≤ 4 := by
  rw [h.g.b2, (pmon_facts S).2.2]
  have := h.lS
  exact ⟨(pmon_bnd S (by omega) h.famS).mono (by omega), by omega⟩
theorem One.atOk (h : One l S T) : AtOk (pmade l) 1 := by
  have l1 := h.l1
  obtain ⟨b, lb⟩ := h.b2
  exact at_of h.g.bd b (by omega) (by omega) (by rw [SZ_eq]; decide) (by rw [SZ_eq]; decide) h.at1
theorem One.to (h : One l S T) : ToOk (pmade l) := ⟨h.ke, fun _ => h.atOk⟩
theorem One.se (h : One l S T) : SeOk (pmade l).1 (pmade l).2 12 := by
  obtain ⟨b, lb⟩ := h.b2
  exact seok_of h.g.bd b h.ke.1 (by omega) (by decide) (by rw [SZ_eq]; decide)
/-- a quotient's value where what is below it is not 0 -/
theorem gq_val {s q : PQ} {fs S T : List Rat} {a : Nat} {x : Rat} (g : GQ s q fs S T a) (h : ev s.2 x ≠ 0) : ev q.2 x ≠ 0 ∧ pat q x = ev s.1 x / ev s.2 x := by
  have e1 := g.e1 x
  have e2 := g.e2 x
  have k := g.k
  have n1 : ev q.2 x ≠ 0 := fun z => h (by rw [e2, z]; grind)
  have n2 : ev (pmon T) x ≠ 0 := fun z => h (by rw [e2, z]; grind)
  refine ⟨n1, ?_⟩
  unfold pat
  rw [e1, e2]
  grind
/-! ### totals -/
theorem rsum_snoc (l : List Rat) (a : Rat) : rsum (l ++ [a]) = rsum l + a := by
  unfold rsum
  rw [List.foldl_append]; rfl
theorem pow_one (n : Nat) : (1 : Rat) ^ n = 1 := by
  induction n with
  | zero => exact Rat.pow_zero _
  | succ n ih => rw [Rat.pow_succ, ih]; grind
theorem dev_pits (s : Part) (x : Rat) : dev (pits s) x = -s.2.1 := by
  unfold pits
  by_cases h : s.2.1 = 0
  · rw [if_pos h, h]; simp only [dev, ev]; grind
  · rw [if_neg h]; simp only [dev, ev]; grind
theorem dev_zeros (n : Nat) : ∀ w : Rat, dev (List.replicate n 0 ++ [w]) 1 = (n : Rat) * w := by
  induction n with
  | zero =>
    intro w
    show 0 + 1 * 0 = ((0 : Nat) : Rat) * w
    rw [show ((0 : Nat) : Rat) = 0 from rfl]; grind
  | succ n ih =>
    intro w
    rw [List.replicate_succ, List.cons_append]
    show ev (List.replicate n 0 ++ [w]) 1 + 1 * dev (List.replicate n 0 ++ [w]) 1 = _
    rw [ih, ev_append, ev_zeros, pow_one, show ((n + 1 : Nat) : Rat) = (n : Rat) + 1 from Rat.natCast_add n 1]
    simp only [ev]; grind
theorem dev_ptp (s : Part) : dev (ptp s) 1 = (s.2.2 : Rat) * s.1 := dev_zeros _ _
theorem slope_step (A A' B B' w g f L : Rat) (b : B ≠ 0) (h : g ≠ 0) : ((A' * g + A * -f + (L * w * B + w * B')) * (B * g) - (A * g + w * B) * (B' * g + B * -f)) / (B * g * (B * g)) = (A' * B - A * B') / (B * B) + w * (L / g + f / (g * g)) := by
  have b2 : B * B ≠ 0 := by
    intro z
    rcases Rat.mul_eq_zero.mp z with z | z <;> exact b z
  have h2 : g * g ≠ 0 := by
    intro z
    rcases Rat.mul_eq_zero.mp z with z | z <;> exact h z
  grind
/-- values and slopes at 1, part by part -/
theorem at_one : ∀ (n : Nat) (l : List Part), l.length = n → (∀ s ∈ l, PartOk s) → ev (mall l).2 1 ≠ 0 ∧ ev (mall l).1 1 / ev (mall l).2 1 = rsum (pwh l) ∧
    (dev (mall l).1 1 * ev (mall l).2 1 - ev (mall l).1 1 * dev (mall l).2 1) / (ev (mall l).2 1 * ev (mall l).2 1) = rsum (ppt l) := by
  intro n
  induction n with
  | zero =>
    intro l hl _
    have : l = [] := List.length_eq_zero_iff.mp hl
    subst this
    have e1 : ev (mall []).2 1 = 1 := by
      show ev [1] 1 = 1
      simp only [ev]; grind
    have e2 : ev (mall []).1 1 = 0 := rfl
    have e3 : dev (mall []).1 1 = 0 := rfl
    refine ⟨by rw [e1]; decide, ?_, ?_⟩
    · rw [e1, e2]
      show (0 : Rat) / 1 = 0
      grind
    · rw [e1, e2, e3]
      show _ = (0 : Rat)
      grind
  | succ n ih =>
    intro l hl hp
    rcases List.eq_nil_or_concat l with e | ⟨l', s, e⟩
    · rw [e] at hl; simp at hl
    · rw [List.concat_eq_append] at e
      subst e
      have hl' : l'.length = n := by
        rw [List.length_append] at hl
        simpa using hl
      obtain ⟨i1, i2, i3⟩ := ih l' hl' fun x m => hp x (List.mem_append_left _ m)
      have hs := hp s (by simp)
      have g0 : gapOf s ≠ 0 := by
        have := lt1_ne1 (part_lt hs)
        unfold gapOf
        grind
      have a1 : ∀ x, ev (mall (l' ++ [s])).2 x = ev (mall l').2 x * ev (pits s) x := fun x => by
        rw [mall_snoc]; exact ev_pmul _ _ x
      have a2 : ∀ x, ev (mall (l' ++ [s])).1 x = ev (padd (mulR (mall l').1 (pits s)) (mulR (ptp s) (mall l').2)) x := fun x => by
        rw [mall_snoc]
        show ev (pplus _ _) x = _
        rw [ev_pplus, ev_pmul, ev_pmul, ev_padd, ev_mulR, ev_mulR]
      have b1 := dev_mul a1 1
      have b2 := dev_eq a2 1
      rw [dev_padd, dev_mulR, dev_mulR] at b2
      have a1' := a1 1
      have a2' := a2 1
      rw [ev_padd, ev_mulR, ev_mulR] at a2'
      have p1 : ev (pits s) 1 = gapOf s := by
        rw [ev_pits]; unfold gapOf; grind
      have p2 : dev (pits s) 1 = -s.2.1 := dev_pits s 1
      have p3 : ev (ptp s) 1 = s.1 := by
        rw [(ptp_facts hs).2.2.2, pow_one]; grind
      have p4 := dev_ptp s
      rw [p1] at a1' a2' b1 b2
      rw [p3] at a2' b2
      rw [p2] at b1 b2
      rw [p4] at b2
      rw [a1', a2', b1, b2, pwh, ppt, List.map_append, List.map_append]
      have r1 : rsum (l'.map (fun s => s.1 / gapOf s) ++ [s].map (fun s => s.1 / gapOf s)) = rsum (pwh l') + s.1 / gapOf s := rsum_snoc _ _
      have r2 : rsum (l'.map (fun s => s.1 * ((s.2.2 : Rat) / gapOf s + s.2.1 / (gapOf s * gapOf s))) ++ [s].map (fun s => s.1 * ((s.2.2 : Rat) / gapOf s + s.2.1 / (gapOf s * gapOf s)))) = rsum (ppt l') + s.1 * ((s.2.2 : Rat) / gapOf s + s.2.1 / (gapOf s * gapOf s)) := rsum_snoc _ _
      rw [r1, r2, ← i2, ← i3]
      generalize ev (mall l').2 1 = B at *
      generalize ev (mall l').1 1 = A at *
      generalize dev (mall l').1 1 = A' at *
      generalize dev (mall l').2 1 = B' at *
      generalize gapOf s = g at *
      have bg : B * g ≠ 0 := by
        intro z
        rcases Rat.mul_eq_zero.mp z with z | z
        · exact i1 z
        · exact g0 z
      refine ⟨bg, ?_, slope_step A A' B B' s.1 g s.2.1 (s.2.2 : Rat) i1 g0⟩
      clear ih hp hs a1 a2 r1 r2 i2 i3 p1 p2 p3 p4 b1 b2 a1' a2'
      grind
end
end Sw

/-! one lap: led by ticks -/
namespace Sw
theorem slope_same (A A' B B' G dG : Rat) (g : G ≠ 0) (b : B ≠ 0) : ((dG * A + G * A') * (G * B) - G * A * (dG * B + G * B')) / (G * B * (G * B)) = (A' * B - A * B') / (B * B) := by
  have b2 : B * B ≠ 0 := by
    intro z
    rcases Rat.mul_eq_zero.mp z with z | z <;> exact b z
  have g2 : G * G ≠ 0 := by
    intro z
    rcases Rat.mul_eq_zero.mp z with z | z <;> exact g z
  have gb : G * B * (G * B) ≠ 0 := by
    intro z
    have : G * G * (B * B) = 0 := by grind
    rcases Rat.mul_eq_zero.mp this with z | z
    · exact g2 z
    · exact b2 z
  grind
/-- a quotient's slope is that of what it was made of -/
theorem gq_slope {s q : PQ} {fs S T : List Rat} {a : Nat} {x : Rat} (g : GQ s q fs S T a) (h : ev s.2 x ≠ 0) :
    (dev q.1 x * ev q.2 x - ev q.1 x * dev q.2 x) / (ev q.2 x * ev q.2 x) = (dev s.1 x * ev s.2 x - ev s.1 x * dev s.2 x) / (ev s.2 x * ev s.2 x) := by
  have e1 : ∀ y, ev s.1 y = ev (psc (lastOf s.2) (pmon T)) y * ev q.1 y := fun y => by rw [g.e1, ev_psc]; grind
  have e2 : ∀ y, ev s.2 y = ev (psc (lastOf s.2) (pmon T)) y * ev q.2 y := fun y => by rw [g.e2, ev_psc]; grind
  have d1 := dev_mul e1 x
  have d2 := dev_mul e2 x
  have n1 : ev q.2 x ≠ 0 := fun z => h (by rw [e2, z]; grind)
  have n2 : ev (psc (lastOf s.2) (pmon T)) x ≠ 0 := fun z => h (by rw [e2, z]; grind)
  rw [d1, d2, e1, e2]
  exact (slope_same _ _ _ _ _ _ n2 n1).symm
section
variable {l : List Part} {S T : List Rat}
theorem One.led (h : One l S T) : LeOk (pmade l) ∧ ToOk (pled (pmade l)) ∧ pdies (pled (pmade l)).2 = true ∧ pat (pled (pmade l)) 1 = (dev (pmade l).1 1 * ev (pmade l).2 1 - ev (pmade l).1 1 * dev (pmade l).2 1) / (ev (pmade l).2 1 * ev (pmade l).2 1) := by
  obtain ⟨b2, l2⟩ := h.b2
  have b1 := h.g.bd
  have l1 := h.l1
  have t1 := h.g.t1
  have q2 := h.g.b2
  have n2 := h.at1
  have d1 := bnd_pder b1 (by omega)
  have d2 := bnd_pder b2 (by omega)
  have m1 := pder_len (pmade l).1
  have m2 := pder_len (pmade l).2
  have nz := h.nz
  have moc0 := moc_ne nz
  have famS := h.famS
  have lS := h.lS
  have ltS := h.ltS
  have pone1 : pf S 1 ≠ 0 := pf_ne fun f m => lt1_ne1 (ltS f m)
  generalize pmade l = q at *
  have p1 := bnd_pmulJ (j := 4) d1 b2 (Nat.le_trans (Nat.mul_le_mul (show (pder q.1).length ≤ 4 by omega) l2) (by decide))
  have p2 := bnd_pmulJ (j := 4) b1 d2 (Nat.le_trans (Nat.mul_le_mul l1 (show (pder q.2).length ≤ 3 by omega)) (by decide))
  have p3 := bnd_pmulJ (j := 4) b2 b2 (Nat.le_trans (Nat.mul_le_mul l2 l2) (by decide))
  have tb : Bnd 367 (ptop q) := (bnd_pplus p1 (bnd_pneg p2)).mono (by decide)
  have n1 := pmul_len (pder q.1) q.2
  have n3 := pmul_len q.1 (pder q.2)
  have n4 := pplus_len (pmul (pder q.1) q.2) (pneg (pmul q.1 (pder q.2)))
  rw [pneg_len] at n4
  have tl : (ptop q).length ≤ 7 := by
    show (pplus _ _).length ≤ 7
    omega
  have sq : ∀ x, ev (pmul q.2 q.2) x = moc S * moc S * pf (S ++ S) x := fun x => by
    rw [ev_pmul, q2, ev_pmon nz, pf_append]; grind
  have k0 : moc S * moc S ≠ 0 := by
    intro z
    rcases Rat.mul_eq_zero.mp z with z | z <;> exact moc0 z
  obtain ⟨mk1, S1, T1, g1⟩ := mk_all (A := ptop q) (B := pmul q.2 q.2) (fs := S ++ S) (a := 367) (b := 48) (c := 145) (trd_pplus _ _) (trd_pmul _ _) k0 sq (fun f m => (List.mem_append.mp m).elim (famS f) (famS f)) (by rw [List.length_append]; omega) tb p3 (by decide) (by decide) (by omega) (c7 tl)
  have f1 : ∀ f ∈ S1, f ∈ S := fun f m => (List.mem_append.mp (g1.sub.mem m)).elim id id
  have lS1 : S1.length ≤ 6 := by
    have := g1.sub.length_le
    rw [List.length_append] at this
    omega
  have nz1 : ∀ f ∈ S1, f ≠ 0 := fun f m => nz f (f1 f m)
  have r1 := g1.bd
  have r2 := g1.b2
  have r3 := g1.l1
  have r4 : (pmk (ptop q, pmul q.2 q.2)).1.length ≤ 7 := Nat.le_trans r3 tl
  have sqn : ev (pmul q.2 q.2) 1 ≠ 0 := by
    rw [ev_pmul]
    intro z
    rcases Rat.mul_eq_zero.mp z with z | z <;> exact n2 z
  have v1 := gq_val g1 sqn
  generalize hr : pmk (ptop q, pmul q.2 q.2) = r at *
  have rb := pmon_bnd S1 (by omega) fun f m => famS f (f1 f m)
  have rl := (pmon_facts S1).2.2
  have u1 := bnd_pmulJ (j := 4) bnd_x r1 (Nat.le_trans (Nat.mul_le_mul (show [0, (1 : Rat)].length ≤ 2 by decide) r4) (by decide))
  have u2 : Bnd 50 (pmul [1] r.2) := by
    rw [r2]
    exact (bnd_pmulJ (j := 3) bnd_1 rb (Nat.le_trans (Nat.mul_le_mul (show [(1 : Rat)].length ≤ 1 by decide) (show (pmon S1).length ≤ 7 by omega)) (by decide))).mono (by omega)
  have ul := pmul_len [0, 1] r.1
  have ul' : (pmul [0, 1] r.1).length ≤ 8 := by
    simp only [List.length_cons, List.length_nil] at ul
    omega
  have ev2 : ∀ x, ev (pmul [1] r.2) x = moc S1 * pf S1 x := fun x => by
    rw [ev_pmul, r2, ev_pmon nz1]; simp only [ev]; grind
  obtain ⟨mk2, S2, T2, g2⟩ := mk_all (A := pmul [0, 1] r.1) (B := pmul [1] r.2) (fs := S1) (a := 566) (b := 50) (c := 180) (trd_pmul _ _) (trd_pmul _ _) (moc_ne nz1) ev2 (fun f m => famS f (f1 f m)) lS1 (u1.mono (by decide)) u2 (by decide) (by decide) ul' (c8 ul')
  have f2 : ∀ f ∈ S2, f ∈ S := fun f m => f1 f (g2.sub.mem m)
  have lS2 : S2.length ≤ 6 := Nat.le_trans g2.sub.length_le lS1
  have pr : PrOk cX r := by
    refine ⟨mu_of bnd_x r1 (by decide) (by omega) (by decide), ?_, mk2⟩
    show MuOk [1] r.2
    rw [r2]
    exact mu_of bnd_1 rb (by decide) (by omega) (by omega)
  have n5 : ev (pmul [1] r.2) 1 ≠ 0 := by
    rw [ev_pmul]
    have := v1.1
    simp only [ev]
    grind
  have v2 := gq_val g2 n5
  have e2 : pled q = pmk (pmul [0, 1] r.1, pmul [1] r.2) := by
    unfold pled
    rw [hr]; rfl
  refine ⟨⟨de_of b1 (by omega) (by rw [SZ_eq]; decide), de_of b2 (by omega) (by rw [SZ_eq]; decide), mu_of d1 b2 (by omega) (by omega) (by decide), mu_of b1 d2 (by omega) (by omega) (by decide), mu_of b2 b2 (by omega) (by omega) (by decide), mk1, by rw [hr]; exact pr⟩, ?_, ?_, ?_⟩
  · rw [e2]
    have w2 := g2.b2
    have wl := g2.l1
    have wb := pmon_bnd S2 (by omega) fun f m => famS f (f2 f m)
    have wp := (pmon_facts S2).2.2
    refine ⟨by rw [w2]; exact ke_pmon (fun f m => famS f (f2 f m)) (by omega), fun _ => at_of (s := 796) (t := 50) g2.bd ?_ ?_ ?_ (by rw [SZ_eq]; decide) (by rw [SZ_eq]; decide) v2.1⟩
    · rw [w2]; exact wb.mono (by omega)
    · have wl' : (pmk (pmul [0, 1] r.1, pmul [1] r.2)).1.length ≤ (pmul [0, 1] r.1).length := wl
      omega
    · rw [w2, wp]; omega
  · rw [e2, g2.b2]
    have nz2 : ∀ f ∈ S2, f ≠ 0 := fun f m => nz f (f2 f m)
    exact dies_of nz2 (fun f m => ltS f (f2 f m)) (trd_pmon S2) (moc_ne nz2) (ev_pmon nz2)
  · rw [e2, v2.2]
    show ev (pmul [0, 1] r.1) 1 / ev (pmul [1] r.2) 1 = _
    have x1 : ev (pmul [0, 1] r.1) 1 = ev r.1 1 := by rw [ev_pmul]; simp only [ev]; grind
    have x2 : ev (pmul [1] r.2) 1 = ev r.2 1 := by rw [ev_pmul]; simp only [ev]; grind
    rw [x1, x2]
    have := v1.2
    unfold pat at this
    rw [this]
    show ev (ptop q) 1 / ev (pmul q.2 q.2) 1 = _
    have y1 : ev (ptop q) 1 = dev q.1 1 * ev q.2 1 - ev q.1 1 * dev q.2 1 := by
      show ev (pplus _ (pneg _)) 1 = _
      have : ev (pneg (pmul q.1 (pder q.2))) 1 = -(ev (pmul q.1 (pder q.2)) 1) := by
        have e : ∀ i, cf (pneg (pmul q.1 (pder q.2))) i = cf (psc (-1) (pmul q.1 (pder q.2))) i := fun i => by rw [cf_pneg, cf_psc]; grind
        rw [ev_ext e, ev_psc]; grind
      rw [ev_pplus, this, ev_pmul, ev_pmul, ev_pder, ev_pder]; grind
    rw [y1, ev_pmul]
end
end Sw

/-! one lap: sums, steps, and another pole -/
namespace Sw
theorem zdiv (a : Rat) : 0 / a = 0 := by rw [Rat.div_def, Rat.zero_mul]
theorem pox_1 (x : Rat) : ev pOX.1 x = 1 - x := by
  show ev [1, -1] x = _
  simp only [ev]; grind
theorem pox_2 (x : Rat) : ev pOX.2 x = 1 := by
  show ev [1] x = _
  simp only [ev]; grind
theorem psum_1 (x : Rat) : ev pSUM.1 x = -1 := by
  show ev [-1] x = _
  simp only [ev]; grind
theorem psum_2 (x : Rat) : ev pSUM.2 x = x - 1 := by
  show ev [-1, 1] x = _
  simp only [ev]; grind
section
variable {l : List Part} {S T : List Rat}
theorem One.tot (h : One l S T) (hl : StreamOk l) : pat (pmade l) 1 = rsum (pwh l) := by
  obtain ⟨a1, a2, _⟩ := at_one _ l rfl hl.2.2
  rw [(gq_val h.g a1).2, a2]
theorem One.ledt (h : One l S T) (hl : StreamOk l) : ptotal (pled (pmade l)) = some (rsum (ppt l)) ∧ MeOk (pmade l) := by
  obtain ⟨a1, a2, a3⟩ := at_one _ l rfl hl.2.2
  obtain ⟨le, tle, hd, v⟩ := h.led
  refine ⟨?_, h.ke, fun _ => ⟨le, tle, h.to⟩⟩
  rw [ptotal_of hd, v, gq_slope h.g a1, a3]
/-- a product with a quotient of small, short rows -/
theorem prod_all {q c : PQ} {S C : List Rat} {a n k : Nat} {kc : Rat} (b1 : Bnd a q.1) (l1 : q.1.length ≤ n) (q2 : q.2 = pmon S) (famS : ∀ f ∈ S, Fam f) (famC : ∀ f ∈ C, Fam f) (lS : S.length + C.length ≤ 6) (bc1 : Bnd 2 c.1) (lc1 : c.1.length ≤ 2) (c2v : ∀ x, ev c.2 x = kc * pf C x) (kc0 : kc ≠ 0)
    (bc2 : Bnd 2 c.2) (lc2 : c.2.length ≤ 2) (ha : a ≤ 590) (hn : n ≤ 7) (hc : ∀ m, m ≤ n + 1 → ∀ g, 1 ≤ g → g ≤ 8 → (m + 2 - g) * (7 * g + 1) ≤ k) : PrOk q c ∧ ∃ S' T', GQ (pmul q.1 c.1, pmul q.2 c.2) (pprod q c) (S ++ C) S' T' (a + 6 + 50 + k) := by
  have nz : ∀ f ∈ S, f ≠ 0 := fun f m => (famS f m).1
  have b2 := pmon_bnd S (by omega) famS
  have l2 := (pmon_facts S).2.2
  have p1 := bnd_pmulJ (j := 4) b1 bc1 (Nat.le_trans (Nat.mul_le_mul (show q.1.length ≤ 7 by omega) lc1) (by decide))
  have n1 := pmul_len q.1 c.1
  have p2 : Bnd 50 (pmul q.2 c.2) := by
    rw [q2]
    exact (bnd_pmulJ (j := 4) b2 bc2 (Nat.le_trans (Nat.mul_le_mul (show (pmon S).length ≤ 7 by omega) lc2) (by decide))).mono (by omega)
  have v : ∀ x, ev (pmul q.2 c.2) x = moc S * kc * pf (S ++ C) x := fun x => by
    rw [ev_pmul, q2, ev_pmon nz, c2v, pf_append]; grind
  have k0 : moc S * kc ≠ 0 := by
    intro z
    rcases Rat.mul_eq_zero.mp z with z | z
    · exact moc_ne nz z
    · exact kc0 z
  have ll : (pmul q.1 c.1).length ≤ n + 1 := by omega
  obtain ⟨mk, S', T', g⟩ := mk_all (A := pmul q.1 c.1) (B := pmul q.2 c.2) (a := a + 6) (b := 50) (c := k) (trd_pmul _ _) (trd_pmul _ _) k0 v (fun f m => (List.mem_append.mp m).elim (famS f) (famC f)) (by rw [List.length_append]; exact lS) (p1.mono (by omega)) p2 (by omega) (by decide) (by omega) (hc _ ll)
  refine ⟨⟨mu_of b1 bc1 (by omega) (by omega) (by omega), ?_, mk⟩, S', T', g⟩
  rw [q2]
  exact mu_of b2 bc2 (by omega) (by omega) (by omega)
theorem One.stp (h : One l S T) : PrOk (pmade l) pOX ∧ ToOk (pprod (pmade l) pOX) ∧ ptotal (pprod (pmade l) pOX) = some 0 := by
  have at1 := h.at1
  have e1 := pox_1
  have e2 := pox_2
  have b1 : Bnd 2 pOX.1 := bnd_s
  have b2 : Bnd 2 pOX.2 := bnd_1
  have l1 : pOX.1.length ≤ 2 := by decide
  have l2 : pOX.2.length ≤ 2 := by decide
  generalize pOX = c at *
  obtain ⟨pr, S', T', g⟩ := prod_all (q := pmade l) (c := c) (C := []) (n := 5) (k := 116) (kc := 1) h.g.bd h.l1 h.g.b2 h.famS (fun f m => by cases m) (by have := h.lS; simp; omega) b1 l1 (fun x => by rw [e2]; simp only [pf]; grind) (by decide) b2 l2 (by decide) (by decide) (fun m hm => c6 hm)
  have f' : ∀ f ∈ S', f ∈ S := fun f m => by simpa using g.sub.mem m
  have nz' : ∀ f ∈ S', f ≠ 0 := fun f m => h.nz f (f' f m)
  have l' : S'.length ≤ 3 := by
    have k1 := g.sub.length_le
    have k2 := h.lS
    rw [List.append_nil] at k1
    omega
  have hd : pdies (pprod (pmade l) c).2 = true := by
    rw [g.b2]
    exact dies_of nz' (fun f m => h.ltS f (f' f m)) (trd_pmon S') (moc_ne nz') (ev_pmon nz')
  have n5 : ev (pmul (pmade l).2 c.2) 1 ≠ 0 := by
    rw [ev_pmul, e2]
    grind
  have v := gq_val g n5
  have gl : (pprod (pmade l) c).1.length ≤ (pmul (pmade l).1 c.1).length := g.l1
  have pl := pmul_len (pmade l).1 c.1
  have ll1 := h.l1
  have wp := (pmon_facts S').2.2
  refine ⟨pr, ⟨by rw [g.b2]; exact ke_pmon (fun f m => h.famS f (f' f m)) (by omega), fun _ => at_of (s := 154 + 6 + 50 + 116) (t := 50) g.bd ?_ (by omega) ?_ (by rw [SZ_eq]; decide) (by rw [SZ_eq]; decide) v.1⟩, ?_⟩
  · rw [g.b2]
    exact (pmon_bnd S' (by omega) fun f m => h.famS f (f' f m)).mono (by omega)
  · rw [g.b2, wp]; omega
  · have e : ev ((pmul (pmade l).1 c.1, pmul (pmade l).2 c.2) : PQ).1 1 = 0 := by
      have := ev_pmul (pmade l).1 c.1 1
      rw [e1] at this
      rw [this]; grind
    rw [ptotal_of hd, v.2, e, zdiv]
end
end Sw

/-! lowest terms; last values where 1 is a root below -/
namespace Sw
/-- what divides both divides the last divisor -/
theorem pgcd_great (u : Bool) : ∀ (n : Nat) (s : List Rat × List Rat), s.2.length ≤ n → Trd s.2 → ∀ d a b : List Rat, (∀ x, ev s.1 x = ev d x * ev a x) → (∀ x, ev s.2 x = ev d x * ev b x) → ∃ c, ∀ x, ev (pgcd u s) x = ev d x * ev c x := by
  intro n
  induction n with
  | zero =>
    intro s h _ d a b ha _
    exact ⟨a, fun x => by rw [pgcd_nil (List.length_eq_zero_iff.mp (by omega)), ha]⟩
  | succ n ih =>
    intro s h ht d a b ha hb
    by_cases h0 : s.2 = []
    · exact ⟨a, fun x => by rw [pgcd_nil h0, ha]⟩
    · have hl := gst_len (u := u) ht h0
      rw [pgcd_step ht h0]
      have hq := div_eq (p := s.1) h0 (trd_last ht h0)
      have hr : ∀ x, ev (prem s.1 s.2) x = ev d x * ev (padd a (psc (-1) (mulR (pquo s.1 s.2) b))) x := fun x => by
        have h1 := hq x
        rw [ha, hb] at h1
        rw [ev_padd, ev_psc, ev_mulR]
        grind
      cases u with
      | false => exact ih (gst false s) (by omega) gst_trd d b _ hb hr
      | true =>
        by_cases r0 : prem s.1 s.2 = []
        · refine ih (gst true s) (by omega) gst_trd d b [] hb fun x => ?_
          show ev (pwu (prem s.1 s.2)) x = _
          rw [r0]
          show (0 : Rat) = ev d x * 0
          grind
        · refine ih (gst true s) (by omega) gst_trd d b (psc (1 / cf (prem s.1 s.2) ((prem s.1 s.2).length - 1)) (padd a (psc (-1) (mulR (pquo s.1 s.2) b)))) hb fun x => ?_
          show ev (pwu (prem s.1 s.2)) x = _
          rw [pwu_ne r0, ev_psc, hr, ev_psc]
          grind
/-- above and below have no root in common -/
theorem mk_coprime {s : PQ} (h0 : s.2 ≠ []) (t1 : Trd s.1) (t2 : Trd s.2) (r : Rat) (h1 : ev (pmk s).1 r = 0) (h2 : ev (pmk s).2 r = 0) : False := by
  obtain ⟨_, _, _, _, a5, a6, a7⟩ := pmk_facts h0 t1 t2
  have g0 := pgcd_ne true t2 (.inr h0) t1
  have gt := pgcd_trd true _ s (Nat.le_refl _) t1 t2
  have n0 := trd_last gt g0
  obtain ⟨c, hc⟩ := pgcd_great true _ s (Nat.le_refl _) t2 (mulR (pgc s) [-r, 1]) (psc (lastOf s.2) (syn r (pmk s).1)) (psc (lastOf s.2) (syn r (pmk s).2)) (fun x => by
    have := ev_syn r (pmk s).1 x
    rw [a6, this, h1, ev_mulR, ev_psc]
    simp only [ev]
    grind) (fun x => by
    have := ev_syn r (pmk s).2 x
    rw [a7, this, h2, ev_mulR, ev_psc]
    simp only [ev]
    grind)
  generalize hu : cf (pgcd true s) ((pgcd true s).length - 1) = u at *
  have e : ∀ x, ev (pgc s) x = 1 / u * ev (pgcd true s) x := fun x => by
    unfold pgc
    rw [pwu_ne g0, ev_psc, hu]
  have q0 : trim (padd [1] (psc (-(1 / u)) (mulR [-r, 1] c))) ≠ [] := by
    intro z
    have h := ev_trim (padd [1] (psc (-(1 / u)) (mulR [-r, 1] c))) r
    rw [z, ev_padd, ev_psc, ev_mulR] at h
    simp only [ev] at h
    grind
  refine prod_ne gt (trd_trim _) g0 q0 fun x => ?_
  have h := hc x
  rw [ev_mulR, e] at h
  rw [ev_trim, ev_padd, ev_psc, ev_mulR]
  simp only [ev] at h ⊢
  grind
theorem bnd_PL {S : List Rat} (fam : ∀ f ∈ S, Fam f) (lS : S.length ≤ 7) : Bnd (7 * S.length + 1) (PL S) := by
  have nz : ∀ f ∈ S, f ≠ 0 := fun f m => (fam f m).1
  obtain ⟨e, e0⟩ := pone_PL nz (trd_pmon S) (moc_ne nz) (ev_pmon nz)
  obtain ⟨D, M, k0, k1, k2, k3⟩ := pmon_bnd S lS fam
  rw [← e]
  exact bnd_div ⟨D, M, k0, k1, k2, k3, k3.cf 0⟩ (by rw [e0]; exact moc_ne nz)
theorem ke_PL {S : List Rat} (fam : ∀ f ∈ S, Fam f) (lS : S.length ≤ 7) : KeOk (PL S) :=
  ke_of (by rw [PL_zero]; decide) (bnd_PL fam lS) (by rw [PL_len]; omega) (by omega)
theorem fam_one : Fam 1 := ⟨by decide, 1, 1, by decide, by decide, by decide, by decide +kernel⟩
theorem fam_neg : Fam (-1) := ⟨by decide, -1, 1, by decide, by decide, by decide, by decide +kernel⟩
theorem fam_app {S C : List Rat} (h : ∀ f ∈ S, Fam f) (k : ∀ f ∈ C, Fam f) : ∀ f ∈ S ++ C, Fam f := fun f m => (List.mem_append.mp m).elim (h f) (k f)
theorem pf_one_end (S : List Rat) (x : Rat) : pf (S ++ [1]) x = (1 - x) * pf S x := by
  rw [pf_snoc]; grind
theorem ev_step (x : Rat) : ev cSTEP x = 1 - x := by
  show ev [1, -1] x = _
  simp only [ev]; grind
theorem trd_step : Trd cSTEP := trd_of_last fun _ => show (-1 : Rat) ≠ 0 by decide
/-- with one root at 1 taken out -/
theorem step_out {S : List Rat} (fam : ∀ f ∈ S, Fam f) (lS : S.length ≤ 5) : pone (pmon (S ++ [1])) = PL (S ++ [1]) ∧ ev (PL (S ++ [1])) 1 = 0 ∧ pquo (PL (S ++ [1])) cSTEP = PL S ∧ DvOk (PL (S ++ [1])) cSTEP ∧ KeOk (pmon (S ++ [1])) ∧ pdies (pmon (S ++ [1])) = false ∧ VaOk (PL (S ++ [1])) 1 := by
  have fam' := fam_app fam (C := [1]) (fun f m => by rw [List.mem_singleton.mp m]; exact fam_one)
  have ll : (S ++ [1]).length = S.length + 1 := by rw [List.length_append]; rfl
  have nz : ∀ f ∈ S, f ≠ 0 := fun f m => (fam f m).1
  have nz' : ∀ f ∈ S ++ [1], f ≠ 0 := fun f m => (fam' f m).1
  have pl := PL_len (S ++ [1])
  have bp := bnd_PL fam' (by omega)
  have ke := ke_pmon fam' (by omega)
  have hz : ev (PL (S ++ [1])) 1 = 0 := by rw [ev_PL, pf_one_end]; grind
  refine ⟨(pone_PL nz' (trd_pmon _) (moc_ne nz') (ev_pmon nz')).1, hz, ?_, ?_, ke, ?_, va_of bp (by omega) (by rw [SZ_eq]; omega)⟩
  · rw [(exact_div trd_step (by decide) (a := PL S) fun x => by rw [ev_PL, ev_step, ev_PL, pf_one_end]).2]
    exact trd_PL nz
  · refine ⟨by decide, by decide, by decide, by omega, _, 2, bp, bnd_s, ?_⟩
    rw [SZ_eq]
    have : cSTEP.length = 2 := rfl
    rw [this]
    have : ((PL (S ++ [1])).length + 1 - 2 + 1) * (2 + 7) ≤ 7 * (2 + 7) := Nat.mul_le_mul_right _ (by omega)
    omega
  · refine dies_not (r := 1) (by decide +kernel) ke.1 ?_
    rw [ev_pmon nz', pf_one_end]; grind
/-- a last value where 1 is a root once -/
theorem la_one {q : PQ} {S : List Rat} {a : Nat} (q2 : q.2 = pmon (S ++ [1])) (fam : ∀ f ∈ S, Fam f) (lt : ∀ f ∈ S, Lt1 f) (lS : S.length ≤ 4) (ba : Bnd a q.1) (ha : a ≤ 590) (l1 : q.1.length ≤ 7) (n1 : ev q.1 1 ≠ 0) :
    LaOk q ∧ pdies q.2 = false ∧ plast q = some (ev q.1 1 / (moc (S ++ [1]) * pf S 1)) := by
  have fam' := fam_app fam (C := [1]) (fun f m => by rw [List.mem_singleton.mp m]; exact fam_one)
  have ll : (S ++ [1]).length = S.length + 1 := by rw [List.length_append]; rfl
  have nz : ∀ f ∈ S, f ≠ 0 := fun f m => (fam f m).1
  have nz' : ∀ f ∈ S ++ [1], f ≠ 0 := fun f m => (fam' f m).1
  obtain ⟨o1, o2, o3, o4, o5, o6, o7⟩ := step_out fam (by omega)
  have dS : pdies (PL S) = true := dies_of nz lt (trd_PL nz) (b := 1) (by decide) fun x => by rw [ev_PL]; grind
  have e1 := pox_1
  have e2 := pox_2
  have b1 : Bnd 2 pOX.1 := bnd_s
  have b2 : Bnd 2 pOX.2 := bnd_1
  have m1 : pOX.1.length ≤ 2 := by decide
  have m2 : pOX.2.length ≤ 2 := by decide
  have key : PrOk q pOX ∧ AtOk (pprod q pOX) 1 ∧ pat (pprod q pOX) 1 = ev q.1 1 / (moc (S ++ [1]) * pf S 1) := by
    generalize pOX = c at *
    obtain ⟨pr, S', T', g⟩ := prod_all (q := q) (c := c) (C := []) (n := 7) (k := 180) (kc := 1) ba l1 q2 fam' (fun f m => by cases m) (by rw [ll]; simp; omega) b1 m1 (fun x => by rw [e2]; simp only [pf]; grind) (by decide) b2 m2 ha (by decide) (fun m hm => c8 hm)
    refine ⟨pr, ?_⟩
    have hr : pprod q c = pmk (pmul q.1 c.1, pmul q.2 c.2) := rfl
    rw [hr] at g ⊢
    have s1 : ∀ x, ev (pmul q.1 c.1) x = ev q.1 x * (1 - x) := fun x => by rw [ev_pmul, e1]
    have s2 : ∀ x, ev (pmul q.2 c.2) x = moc (S ++ [1]) * ((1 - x) * pf S x) := fun x => by rw [ev_pmul, e2, q2, ev_pmon nz', pf_one_end]; grind
    have t1 := trd_pmul q.1 c.1
    have t2 := trd_pmul q.2 c.2
    have gb := g.bd
    have gl : (pmk (pmul q.1 c.1, pmul q.2 c.2)).1.length ≤ (pmul q.1 c.1).length := g.l1
    have pl := pmul_len q.1 c.1
    have k := g.k
    have g1 := g.e1
    have g2 := g.e2
    have gB := g.b2
    have gs := g.sub
    clear hr g pr
    generalize pmul q.1 c.1 = A at *
    generalize pmul q.2 c.2 = B at *
    have nB : B ≠ [] := by
      intro z
      rw [z] at k
      exact k rfl
    have cop := mk_coprime (s := (A, B)) nB t1 t2 1
    generalize pmk (A, B) = r at *
    have k' : lastOf B ≠ 0 := k
    have g1 : ∀ x, ev A x = lastOf B * (ev (pmon T') x * ev r.1 x) := g1
    have g2 : ∀ x, ev B x = lastOf B * (ev (pmon T') x * ev r.2 x) := g2
    have cross : ∀ x, ev r.1 x * ev B x = ev r.2 x * ev A x := fun x => by rw [g1, g2]; grind
    have can := cancel (f := 1) (p := psc (moc (S ++ [1])) (mulR r.1 (PL S))) (q := mulR r.2 q.1) (fun x => by
      have := cross x
      rw [s1, s2] at this
      rw [ev_psc, ev_mulR, ev_mulR, ev_PL]
      grind) 1
    rw [ev_psc, ev_mulR, ev_mulR, ev_PL] at can
    have mc := moc_ne nz'
    have pS : pf S 1 ≠ 0 := pf_ne fun f m => lt1_ne1 (lt f m)
    have r2 : ev r.2 1 ≠ 0 := by
      intro z
      rw [z] at can
      have : moc (S ++ [1]) * pf S 1 * ev r.1 1 = 0 := by grind
      rcases Rat.mul_eq_zero.mp this with y | y
      · rcases Rat.mul_eq_zero.mp y with y | y
        · exact mc y
        · exact pS y
      · exact cop y z
    have gsl := gs.length_le
    rw [List.append_nil, ll] at gsl
    have gf : ∀ f ∈ S', Fam f := fun f m => fam' f (by simpa using gs.mem m)
    have wp := (pmon_facts S').2.2
    refine ⟨at_of (t := 50) gb ?_ (by omega) ?_ (by rw [SZ_eq]; omega) (by rw [SZ_eq]; decide) r2, ?_⟩
    · rw [gB]
      exact (pmon_bnd S' (by omega) gf).mono (by omega)
    · rw [gB, wp]; omega
    · unfold pat
      have d0 : moc (S ++ [1]) * pf S 1 ≠ 0 := by
        intro z
        rcases Rat.mul_eq_zero.mp z with y | y
        · exact mc y
        · exact pS y
      clear cop g1 g2 cross s1 s2
      grind
  obtain ⟨pr, at', v⟩ := key
  refine ⟨⟨by rw [q2]; exact o5, fun _ => ?_⟩, by rw [q2]; exact o6, ?_⟩
  · rw [q2, o1]
    refine ⟨o7, fun _ => ⟨o4, ?_, fun _ => ⟨pr, at'⟩⟩⟩
    rw [o3]
    exact ke_PL fam (by omega)
  · unfold plast
    rw [q2, o1, o3, if_neg (by rw [o6]; decide), if_pos ⟨o2, dS⟩, v]
/-- and where it is one twice -/
theorem la_two {q : PQ} {S : List Rat} (q2 : q.2 = pmon (S ++ [1] ++ [1])) (fam : ∀ f ∈ S, Fam f) (lS : S.length ≤ 4) : LaOk q ∧ plast q = none := by
  have fam' := fam_app fam (C := [1]) (fun f m => by rw [List.mem_singleton.mp m]; exact fam_one)
  have ll : (S ++ [1]).length = S.length + 1 := by rw [List.length_append]; rfl
  obtain ⟨o1, o2, o3, o4, o5, o6, o7⟩ := step_out fam' (by omega)
  have d : pdies (PL (S ++ [1])) = false := dies_not (r := 1) (by decide +kernel) (by rw [PL_zero]; decide) (by rw [ev_PL, pf_one_end]; grind)
  refine ⟨⟨by rw [q2]; exact o5, fun _ => ?_⟩, ?_⟩
  · rw [q2, o1]
    refine ⟨o7, fun _ => ⟨o4, ?_, fun h => ?_⟩⟩
    · rw [o3]
      exact ke_PL fam' (by omega)
    · rw [o3, d] at h
      cases h
  · unfold plast
    rw [q2, o1, o3, if_neg (by rw [o6]; decide), if_neg (by rw [d]; simp)]
end Sw

/-! one lap: summed up; with another pole -/
namespace Sw
theorem split_last {S' S : List Rat} {c : Rat} (h : S'.Sublist (S ++ [c])) : ∃ S1, S1.Sublist S ∧ (S' = S1 ∨ S' = S1 ++ [c]) := by
  obtain ⟨l1, l2, e, h1, h2⟩ := List.sublist_append_iff.mp h
  refine ⟨l1, h1, ?_⟩
  cases h2 with
  | cons _ h =>
    have := List.sublist_nil.mp h
    exact .inl (by rw [e, this, List.append_nil])
  | cons_cons _ h =>
    have := List.sublist_nil.mp h
    exact .inr (by rw [e, this])
/-- a sum of two such quotients -/
theorem sum_all {q c : PQ} {S C : List Rat} {a n t k : Nat} {kc : Rat} (b1 : Bnd a q.1) (l1 : q.1.length ≤ n) (q2 : q.2 = pmon S) (famS : ∀ f ∈ S, Fam f) (famC : ∀ f ∈ C, Fam f) (lS : S.length ≤ 3) (lC : C.length ≤ 1) (bc1 : Bnd t c.1) (lc1 : c.1.length ≤ 2) (c2v : ∀ x, ev c.2 x = kc * pf C x) (kc0 : kc ≠ 0)
    (bc2 : Bnd t c.2) (lc2 : c.2.length ≤ 2) (ht : t ≤ 30) (ha : a ≤ 400) (hn : n ≤ 7) (hc : ∀ m, m ≤ max (n + 1) 5 → ∀ g, 1 ≤ g → g ≤ 8 → (m + 2 - g) * (7 * g + 1) ≤ k) :
    SuOk q c ∧ ∃ S' T', GQ (pplus (pmul q.1 c.2) (pmul c.1 q.2), pmul q.2 c.2) (psum q c) (S ++ C) S' T' ((a + t + 4) + (t + 25) + 1 + (t + 26) + k) := by
  have nz : ∀ f ∈ S, f ≠ 0 := fun f m => (famS f m).1
  have b2 : Bnd 22 q.2 := by rw [q2]; exact (pmon_bnd S (by omega) famS).mono (by omega)
  have l2 : q.2.length ≤ 4 := by rw [q2, (pmon_facts S).2.2]; omega
  have p1 := bnd_pmulJ (j := 4) b1 bc2 (Nat.le_trans (Nat.mul_le_mul (show q.1.length ≤ 7 by omega) lc2) (by decide))
  have p2 := bnd_pmulJ (j := 3) bc1 b2 (Nat.le_trans (Nat.mul_le_mul lc1 l2) (by decide))
  have p3 := bnd_pmulJ (j := 4) b2 bc2 (Nat.le_trans (Nat.mul_le_mul l2 lc2) (by decide))
  have n1 := pmul_len q.1 c.2
  have n2 := pmul_len c.1 q.2
  have n4 := pplus_len (pmul q.1 c.2) (pmul c.1 q.2)
  have v : ∀ x, ev (pmul q.2 c.2) x = moc S * kc * pf (S ++ C) x := fun x => by
    rw [ev_pmul, q2, ev_pmon nz, c2v, pf_append]; grind
  have k0 : moc S * kc ≠ 0 := by
    intro z
    rcases Rat.mul_eq_zero.mp z with z | z
    · exact moc_ne nz z
    · exact kc0 z
  have ll : (pplus (pmul q.1 c.2) (pmul c.1 q.2)).length ≤ max (n + 1) 5 := by omega
  obtain ⟨mk, S', T', g⟩ := mk_all (A := pplus (pmul q.1 c.2) (pmul c.1 q.2)) (B := pmul q.2 c.2) (a := (a + t + 4) + (t + 25) + 1) (b := t + 26) (c := k) (trd_pplus _ _) (trd_pmul _ _) k0 v (fam_app famS famC) (by rw [List.length_append]; omega) ((bnd_pplus p1 p2).mono (by omega)) (p3.mono (by omega)) (by omega) (by omega) (by omega) (hc _ ll)
  exact ⟨⟨mu_of b1 bc2 (by omega) (by omega) (by omega), mu_of bc1 b2 (by omega) (by omega) (by omega), mu_of b2 bc2 (by omega) (by omega) (by omega), mk⟩, S', T', g⟩
/-- a last value where all falls are below 1 -/
theorem la_far {q : PQ} {S : List Rat} (q2 : q.2 = pmon S) (fam : ∀ f ∈ S, Fam f) (lt : ∀ f ∈ S, Lt1 f) (lS : S.length ≤ 7) : LaOk q ∧ pdies q.2 = true ∧ plast q = some 0 := by
  have nz : ∀ f ∈ S, f ≠ 0 := fun f m => (fam f m).1
  have d : pdies q.2 = true := by
    rw [q2]
    exact dies_of nz lt (trd_pmon S) (moc_ne nz) (ev_pmon nz)
  exact ⟨⟨by rw [q2]; exact ke_pmon fam lS, fun e => by rw [d] at e; cases e⟩, d, plast_of d⟩
/-- and where one is -1, none 1 -/
theorem la_neg {q : PQ} {S : List Rat} (q2 : q.2 = pmon S) (fam : ∀ f ∈ S, Fam f) (lS : S.length ≤ 5) (h1 : ev q.2 (-1) = 0) (h2 : ev q.2 1 ≠ 0) : LaOk q ∧ pdies q.2 = false ∧ plast q = none := by
  have nz : ∀ f ∈ S, f ≠ 0 := fun f m => (fam f m).1
  have ke := ke_pmon fam (by omega)
  rw [q2] at h1 h2
  have d : pdies (pmon S) = false := dies_not (r := -1) (by decide +kernel) ke.1 h1
  have o1 := (pone_PL nz (trd_pmon _) (moc_ne nz) (ev_pmon nz)).1
  have n1 : ev (PL S) 1 ≠ 0 := by
    rw [ev_PL]
    intro z
    rw [ev_pmon nz, z] at h2
    exact h2 (Rat.mul_zero _)
  have bp := bnd_PL fam (by omega)
  have pl := PL_len S
  refine ⟨⟨by rw [q2]; exact ke, fun _ => ?_⟩, by rw [q2]; exact d, ?_⟩
  · rw [q2, o1]
    exact ⟨va_of bp (by omega) (by rw [SZ_eq]; omega), fun e => absurd e n1⟩
  · unfold plast
    rw [q2, o1, if_neg (by rw [d]; decide), if_neg fun e => n1 e.1]
theorem mul_ne {a b : Rat} (h : a ≠ 0) (k : b ≠ 0) : a * b ≠ 0 := fun z => (Rat.mul_eq_zero.mp z).elim h k
section
variable {l : List Part} {S T : List Rat}
theorem bnd_m1 : Bnd 2 [-1] := bnd_ints (l := [-1]) 2 (by decide) (by decide)
theorem bnd_m11 : Bnd 2 [-1, 1] := bnd_ints (l := [-1, 1]) 2 (by decide) (by decide)
theorem bnd_11 : Bnd 2 [1, 1] := bnd_ints (l := [1, 1]) 2 (by decide) (by decide)
theorem famC1 : ∀ f ∈ [(1 : Rat)], Fam f := fun f m => by rw [List.mem_singleton.mp m]; exact fam_one
theorem famCm : ∀ f ∈ [(-1 : Rat)], Fam f := fun f m => by rw [List.mem_singleton.mp m]; exact fam_neg
theorem One.cell (h : One l S T) : PrOk (pmade l) pSUM ∧ LaOk (pprod (pmade l) pSUM) ∧ pcell (pmade l) = some (pat (pmade l) 1) := by
  have at1 := h.at1
  have lS := h.lS
  have q2 := h.g.b2
  have nz := h.nz
  have famS := h.famS
  have ltS := h.ltS
  have pS1 : pf S 1 ≠ 0 := pf_ne fun f m => lt1_ne1 (ltS f m)
  have c1 := psum_1
  have c2 := psum_2
  have b1 : Bnd 2 pSUM.1 := bnd_m1
  have b2 : Bnd 2 pSUM.2 := bnd_m11
  have m1 : pSUM.1.length ≤ 1 := by decide
  have m2 : pSUM.2.length ≤ 2 := by decide
  have hb := h.g.bd
  have hl := h.l1
  have ht := h.g.t1
  unfold pcell
  generalize pmade l = q at *
  generalize pSUM = c at *
  obtain ⟨pr, S', T', g⟩ := prod_all (q := q) (c := c) (C := [1]) (n := 5) (k := 116) (kc := -1) hb hl q2 famS famC1 (by simp; omega) b1 (by omega) (fun x => by rw [c2]; simp only [pf]; grind) (by decide) b2 m2 (by decide) (by decide) (fun m hm => c6 hm)
  have s1 : ∀ x, ev (pmul q.1 c.1) x = -ev q.1 x := fun x => by rw [ev_pmul, c1]; grind
  have s2 : ∀ x, ev (pmul q.2 c.2) x = ev q.2 x * (x - 1) := fun x => by rw [ev_pmul, c2]
  have hr : pprod q c = pmk (pmul q.1 c.1, pmul q.2 c.2) := rfl
  rw [hr] at g ⊢
  have t1 := trd_pmul q.1 c.1
  have t2 := trd_pmul q.2 c.2
  have gb := g.bd
  have gl : (pmk (pmul q.1 c.1, pmul q.2 c.2)).1.length ≤ (pmul q.1 c.1).length := g.l1
  have pl := pmul_len q.1 c.1
  have k := g.k
  have g1 := g.e1
  have g2 := g.e2
  have gB := g.b2
  have gs := g.sub
  refine ⟨pr, ?_⟩
  clear hr g pr
  generalize pmul q.1 c.1 = A at *
  generalize pmul q.2 c.2 = B at *
  have nB : B ≠ [] := by
    intro z
    rw [z] at k
    exact k rfl
  have cop := mk_coprime (s := (A, B)) nB t1 t2 1
  generalize pmk (A, B) = r at *
  have k' : lastOf B ≠ 0 := k
  have g1 : ∀ x, ev A x = lastOf B * (ev (pmon T') x * ev r.1 x) := g1
  have g2 : ∀ x, ev B x = lastOf B * (ev (pmon T') x * ev r.2 x) := g2
  obtain ⟨S1, hS1, e⟩ := split_last gs
  have fam1 : ∀ f ∈ S1, Fam f := fun f m => famS f (hS1.mem m)
  have lt1 : ∀ f ∈ S1, Lt1 f := fun f m => ltS f (hS1.mem m)
  have lS1 := hS1.length_le
  have nz1 : ∀ f ∈ S1, f ≠ 0 := fun f m => nz f (hS1.mem m)
  have pS11 : pf S1 1 ≠ 0 := pf_ne fun f m => lt1_ne1 (lt1 f m)
  rcases e with e | e
  · rw [e] at gB
    obtain ⟨f1, f2, f3⟩ := la_far gB fam1 lt1 (by omega)
    refine ⟨f1, ?_⟩
    rw [f3]
    have r2 : ev r.2 1 ≠ 0 := by
      rw [gB, ev_pmon nz1]
      exact mul_ne (moc_ne nz1) pS11
    have z2 := g2 1
    rw [s2] at z2
    have z1 := g1 1
    rw [s1] at z1
    have a0 : ev q.1 1 = 0 := by
      have : ev (pmon T') 1 = 0 := by
        have y : lastOf B * (ev (pmon T') 1 * ev r.2 1) = 0 := by rw [← z2]; grind
        rcases Rat.mul_eq_zero.mp y with y | y
        · exact absurd y k'
        · rcases Rat.mul_eq_zero.mp y with y | y
          · exact y
          · exact absurd y r2
      rw [this] at z1
      grind
    unfold pat
    rw [a0, zdiv]
  · rw [e] at gB
    have nz1' : ∀ f ∈ S1 ++ [1], f ≠ 0 := fun f m => (fam_app fam1 famC1 f m).1
    have r20 : ev r.2 1 = 0 := by
      rw [gB, ev_pmon nz1', pf_one_end]; grind
    have r1 : ev r.1 1 ≠ 0 := fun z => cop z r20
    obtain ⟨f1, f2, f3⟩ := la_one gB fam1 lt1 (by omega) gb (by omega) (by omega) r1
    refine ⟨f1, ?_⟩
    rw [f3]
    have cross : ∀ x, ev r.1 x * ev B x = ev r.2 x * ev A x := fun x => by rw [g1, g2]; grind
    have can := cancel (f := 1) (p := mulR r.1 q.2) (q := psc (moc (S1 ++ [1])) (mulR (PL S1) q.1)) (fun x => by
      have := cross x
      rw [s1, s2, gB, ev_pmon nz1', pf_one_end] at this
      rw [ev_psc, ev_mulR, ev_mulR, ev_PL]
      grind) 1
    rw [ev_psc, ev_mulR, ev_mulR, ev_PL] at can
    have d0 : moc (S1 ++ [1]) * pf S1 1 ≠ 0 := mul_ne (moc_ne nz1') pS11
    unfold pat
    congr 1
    clear cop g1 g2 cross s1 s2
    grind
theorem One.turn (h : One l S T) : SuOk (pmade l) ([1], [1, 1]) ∧ LaOk (psum (pmade l) ([1], [1, 1])) ∧ plast (psum (pmade l) ([1], [1, 1])) = none := by
  have lS := h.lS
  have q2 := h.g.b2
  have nz := h.nz
  have famS := h.famS
  have ltS := h.ltS
  have b1 : Bnd 2 (([1], [1, 1]) : PQ).1 := bnd_1
  have b2 : Bnd 2 (([1], [1, 1]) : PQ).2 := bnd_11
  have m1 : (([1], [1, 1]) : PQ).1.length ≤ 2 := by decide
  have m2 : (([1], [1, 1]) : PQ).2.length ≤ 2 := by decide
  have c1 : ∀ x, ev (([1], [1, 1]) : PQ).1 x = 1 := fun x => by
    show ev [1] x = 1
    simp only [ev]; grind
  have c2 : ∀ x, ev (([1], [1, 1]) : PQ).2 x = 1 + x := fun x => by
    show ev [1, 1] x = _
    simp only [ev]; grind
  have hb := h.g.bd
  have hl := h.l1
  generalize pmade l = q at *
  generalize (([1], [1, 1]) : PQ) = c at *
  obtain ⟨su, S', T', g⟩ := sum_all (q := q) (c := c) (C := [-1]) (n := 5) (k := 116) (kc := 1) hb hl q2 famS famCm lS (by decide) b1 m1 (fun x => by rw [c2]; simp only [pf]; grind) (by decide) b2 m2 (by decide) (by decide) (by decide) (fun m hm => c6 (by omega))
  refine ⟨su, ?_⟩
  have s1 : ∀ x, ev (pplus (pmul q.1 c.2) (pmul c.1 q.2)) x = ev q.1 x * (1 + x) + ev q.2 x := fun x => by rw [ev_pplus, ev_pmul, ev_pmul, c1, c2]; grind
  have s2 : ∀ x, ev (pmul q.2 c.2) x = ev q.2 x * (1 + x) := fun x => by rw [ev_pmul, c2]
  have k := g.k
  have g1 := g.e1
  have g2 := g.e2
  have gB := g.b2
  have gs := g.sub
  clear g su
  generalize psum q c = r at *
  generalize pplus (pmul q.1 c.2) (pmul c.1 q.2) = A at *
  generalize pmul q.2 c.2 = B at *
  have k' : lastOf B ≠ 0 := k
  have g1 : ∀ x, ev A x = lastOf B * (ev (pmon T') x * ev r.1 x) := g1
  have g2 : ∀ x, ev B x = lastOf B * (ev (pmon T') x * ev r.2 x) := g2
  have gsl := gs.length_le
  rw [List.length_append] at gsl
  have gsl : S'.length ≤ S.length + 1 := gsl
  have fam' : ∀ f ∈ S', Fam f := fun f m => fam_app famS famCm f (gs.mem m)
  have q2m : ev q.2 (-1) ≠ 0 := by
    rw [q2, ev_pmon nz]
    refine mul_ne (moc_ne nz) (pf_ne fun f m => ?_)
    have := (ltS f m).1
    grind
  have q21 : ev q.2 1 ≠ 0 := by
    rw [q2, ev_pmon nz]
    exact mul_ne (moc_ne nz) (pf_ne fun f m => lt1_ne1 (ltS f m))
  have x1 := g1 (-1)
  have x2 := g2 (-1)
  have y2 := g2 1
  rw [s1] at x1
  rw [s2] at x2 y2
  have tm : ev (pmon T') (-1) ≠ 0 := by
    intro z
    rw [z] at x1
    grind
  obtain ⟨u1, u2, u3⟩ := la_neg gB fam' (by omega) (by
    have : lastOf B * (ev (pmon T') (-1) * ev r.2 (-1)) = 0 := by rw [← x2]; grind
    rcases Rat.mul_eq_zero.mp this with z | z
    · exact absurd z k'
    · rcases Rat.mul_eq_zero.mp z with z | z
      · exact absurd z tm
      · exact z) (by
    intro z
    rw [z] at y2
    grind)
  exact ⟨u1, u3⟩
end
end Sw

/-! one lap: with a steady one beside -/
namespace Sw
/-! ### sizes of single ratios -/
def Sz (a : Nat) (q : Rat) : Prop := ∃ D M : Nat, 0 < D ∧ D < 2 ^ a ∧ M < 2 ^ a ∧ Iz D M q
section
variable {a b : Nat} {p q : Rat}
theorem Sz.mono (h : Sz a p) (k : a ≤ b) : Sz b p := let ⟨D, M, h0, h1, h2, h3⟩ := h; ⟨D, M, h0, lt_two h1 k, lt_two h2 k, h3⟩
theorem Sz.sm (h : Sz a p) (k : a ≤ 400000) : Sm p := let ⟨D, M, h0, h1, h2, h3⟩ := h
  h3.sm (by omega) (lt_two h1 (by rw [SZ_eq]; exact k)) (lt_two h2 (by rw [SZ_eq]; exact k))
theorem Sz.mul (h : Sz a p) (k : Sz b q) : Sz (a + b) (p * q) := let ⟨D, M, h0, h1, h2, h3⟩ := h; let ⟨D', M', k0, k1, k2, k3⟩ := k
  ⟨D * D', M * M', Nat.mul_pos h0 k0, mul_two h1 k1, mul_two h2 k2, h3.mul k3⟩
theorem Sz.neg (h : Sz a p) : Sz a (-p) := let ⟨D, M, h0, h1, h2, h3⟩ := h; ⟨D, M, h0, h1, h2, h3.neg⟩
theorem Sz.add (h : Sz a p) (k : Sz b q) : Sz (a + b + 1) (p + q) := by
  obtain ⟨D, M, h0, h1, h2, h3⟩ := h
  obtain ⟨D', M', k0, k1, k2, k3⟩ := k
  refine ⟨D * D', M * D' + M' * D, Nat.mul_pos h0 k0, lt_two (mul_two h1 k1) (by omega), ?_, ?_⟩
  · have e1 := mul_two h2 k1
    have e2 := mul_two k2 h1
    rw [Nat.add_comm b a] at e2
    exact add_two e1 e2
  · have x := h3.scale D'
    have y := k3.scale D
    rw [Nat.mul_comm D' D] at y
    exact x.add y
theorem Sz.sub (h : Sz a p) (k : Sz b q) : Sz (a + b + 1) (p - q) := by
  rw [Rat.sub_eq_add_neg]
  exact h.add k.neg
theorem Sz.inv (h : Sz a p) (h0 : p ≠ 0) : Sz a (1 / p) := by
  obtain ⟨D, M, d0, d1, d2, L, hL, lL⟩ := h
  have dd : (D : Rat) ≠ 0 := cast_ne (b := (D : Int)) (by omega)
  have l0 : 0 < L.natAbs := by
    apply Nat.pos_of_ne_zero
    intro z
    have : L = 0 := by omega
    rw [this] at hL
    rcases Rat.mul_eq_zero.mp (hL.trans rfl) with z | z
    · exact h0 z
    · exact dd z
  obtain ⟨g, hg, hn⟩ := abs_sign L
  refine ⟨L.natAbs, D, l0, Nat.lt_of_le_of_lt lL d2, d1, g * (D : Int), ?_, ?_⟩
  · rw [hn, ← hL, Rat.intCast_mul]
    show 1 / p * ((g : Rat) * (p * (D : Rat))) = (g : Rat) * (D : Rat)
    grind
  · rw [Int.natAbs_mul, hg, Nat.one_mul]
    simp
theorem Sz.div (h : Sz a p) (k : Sz b q) (k0 : q ≠ 0) : Sz (a + b) (p / q) := by
  have := h.mul (k.inv k0)
  have e : p * (1 / q) = p / q := by grind
  rwa [e] at this
theorem Sz.one : Sz 1 1 := ⟨1, 1, by decide, by decide, by decide, 1, by rw [Rat.one_mul]; rfl, by decide⟩
theorem Sz.zero : Sz 1 0 := ⟨1, 1, by decide, by decide, by decide, Iz.zero⟩
theorem Sz.pow (h : Sz a p) : ∀ n : Nat, Sz (n * a + 1) (p ^ n)
  | 0 => by rw [Rat.pow_zero]; exact Sz.one.mono (by omega)
  | n + 1 => by
    rw [Rat.pow_succ]
    exact (Sz.mul (Sz.pow h n) h).mono (by rw [Nat.succ_mul]; omega)
theorem Sz.nat {n : Nat} (h : n ≤ 100) : Sz 7 (n : Rat) := ⟨1, n, by decide, by decide, by omega, (n : Int), by show (n : Rat) * ((1 : Nat) : Rat) = (n : Rat); rw [show ((1 : Nat) : Rat) = 1 from rfl, Rat.mul_one], by simp⟩
theorem Sz.sum (s : Nat) : ∀ (l : List Rat), (∀ q ∈ l, Sz s q) → Sz (l.length * (s + 1) + 1) (l.foldl (· + ·) 0) := by
  intro l
  induction hn : l.length generalizing l with
  | zero =>
    intro _
    have : l = [] := List.length_eq_zero_iff.mp hn
    rw [this]
    exact Sz.zero.mono (by omega)
  | succ n ih =>
    intro h
    rcases List.eq_nil_or_concat l with e | ⟨l', x, e⟩
    · rw [e] at hn; simp at hn
    · rw [List.concat_eq_append] at e
      subst e
      have hn' : l'.length = n := by
        rw [List.length_append] at hn
        simpa using hn
      rw [List.foldl_append]
      have k := ih l' hn' fun q m => h q (List.mem_append_left _ m)
      refine (Sz.add k (h x (by simp))).mono ?_
      rw [Nat.succ_mul]; omega
theorem sumok_of {s : Nat} {l : List Rat} (h : ∀ q ∈ l, Sz s q) (hl : l.length ≤ 100) (hs : s ≤ 3000) : SumOk l := by
  refine ⟨by omega, fun k => ?_, fun q m => (h q m).sm (by omega)⟩
  have := Sz.sum s (l.take k) fun q m => h q (List.mem_of_mem_take m)
  have e : (l.take k).length ≤ 100 := by rw [List.length_take]; omega
  have e2 : (l.take k).length * (s + 1) ≤ 100 * 3001 := Nat.mul_le_mul e (by omega)
  exact Sz.sm this (by omega)
end
theorem sz_small {q : Rat} (h : IsSmall q) : Sz 2 q := by
  obtain ⟨d, d0, d3, iz⟩ := small_bnd h
  exact ⟨d, 3, d0, by omega, by decide, iz⟩
theorem sz_fall {s : Part} (h : PartOk s) : Sz 3 s.2.1 := by
  obtain ⟨_, _, ⟨n, d, k1, k2, k3, e⟩, _⟩ := h
  have d0 : d ≠ 0 := by omega
  have e2 := divInt_mul_den (n := n) d0
  rw [← e] at e2
  refine ⟨d.natAbs, 5, by omega, Nat.lt_of_le_of_lt (show d.natAbs ≤ 5 by omega) (by decide), by decide, n, ?_, by omega⟩
  have dc : ((d.natAbs : Nat) : Rat) = (d : Rat) := by
    have : ((d.natAbs : Nat) : Int) = d := by omega
    show ((d.natAbs : Int) : Rat) = _
    rw [this]
  rw [dc, e2]
theorem gap_ne {s : Part} (h : PartOk s) : gapOf s ≠ 0 := by
  have := lt1_ne1 (part_lt h)
  unfold gapOf
  grind
theorem sz_gap {s : Part} (h : PartOk s) : Sz 5 (gapOf s) := Sz.one.sub (sz_fall h)
theorem gap_ok {s : Part} (h : PartOk s) : GapOk s := by
  have w := sz_small h.2.1
  have f := sz_fall h
  have g := sz_gap h
  have g0 := gap_ne h
  have l : Sz 7 (s.2.2 : Rat) := Sz.nat (by have := h.2.2.2; omega)
  have a := l.div g g0
  have b := g.mul g
  have c := f.div b (mul_ne g0 g0)
  exact ⟨w.sm (by decide), f.sm (by decide), g.sm (by decide), g0, l.sm (by decide), a.sm (by decide), b.sm (by decide), c.sm (by decide), (a.add c).sm (by decide)⟩
theorem wsum_ok {l : List Part} (h : StreamOk l) : SumOk (pwh l) ∧ SumOk (ppt l) := by
  obtain ⟨h1, h3, hp⟩ := h
  constructor
  · refine sumok_of (s := 7) (fun q m => ?_) (by rw [pwh, List.length_map]; omega) (by decide)
    obtain ⟨s, ms, rfl⟩ := List.mem_map.mp m
    exact (sz_small (hp s ms).2.1).div (sz_gap (hp s ms)) (gap_ne (hp s ms))
  · refine sumok_of (s := 28) (fun q m => ?_) (by rw [ppt, List.length_map]; omega) (by decide)
    obtain ⟨s, ms, rfl⟩ := List.mem_map.mp m
    have hs := hp s ms
    have l : Sz 7 (s.2.2 : Rat) := Sz.nat (by have := hs.2.2.2; omega)
    have g := sz_gap hs
    have g0 := gap_ne hs
    exact ((sz_small hs.2.1).mul ((l.div g g0).add ((sz_fall hs).div (g.mul g) (mul_ne g0 g0)))).mono (by decide)
theorem fi_ok {l : List Part} (h : StreamOk l) : FiOk l 12 := by
  obtain ⟨h1, h3, hp⟩ := h
  refine ⟨by omega, by decide, fun t ht => ?_, fun s ms => ⟨(sz_small (hp s ms).2.1).sm (by decide), fun k hk => ((sz_fall (hp s ms)).pow k).sm (by omega)⟩⟩
  have ll : (pter t l).length ≤ 3 := Nat.le_trans (List.length_filterMap_le _ _) h3
  refine sumok_of (s := 60) (fun q m => ?_) (by omega) (by decide)
  obtain ⟨s, ms, e⟩ := List.mem_filterMap.mp m
  by_cases hd : s.2.2 ≤ t
  · rw [if_pos hd] at e
    cases e
    exact ((sz_small (hp s ms).2.1).mul ((sz_fall (hp s ms)).pow (t - s.2.2))).mono (by omega)
  · rw [if_neg hd] at e
    cases e
/-! ### the steady one -/
theorem pst_zero : pst 0 = ([], [1]) := by
  unfold pst
  rw [show trim [(0 : Rat)] = [] from rfl]
  decide +kernel
theorem trim_one {v : Rat} (h : v ≠ 0) : trim [v] = [v] := trd_of_last fun _ => h
theorem bnd_v {v : Rat} (h : Sz 2 v) : Bnd 2 [v] := by
  obtain ⟨D, M, h0, h1, h2, h3⟩ := h
  exact ⟨D, M, h0, h1, h2, fun a m => by rw [List.mem_singleton.mp m]; exact h3⟩
theorem cst {n : Nat} (h : n ≤ 1) : ∀ g, 1 ≤ g → g ≤ 8 → (n + 2 - g) * (7 * g + 1) ≤ 16 := by
  intro g h1 h2
  have : (n + 2 - g) * (7 * g + 1) ≤ (1 + 2 - g) * (7 * g + 1) := Nat.mul_le_mul_right _ (by omega)
  refine Nat.le_trans this ?_
  have : ∀ g, g < 9 → (1 + 2 - g) * (7 * g + 1) ≤ 16 := by decide
  exact this g (by omega)
theorem pmon_1 : pmon [1] = [-1, 1] := by decide +kernel
theorem qu_st {v : Rat} (h : IsSmall v) : QuOk (trim [v], [1, -1]) ∧ (v ≠ 0 → (pst v).2 = [-1, 1] ∧ (∀ x, ev (pst v).1 x = -v) ∧ (pst v).1.length ≤ 1 ∧ Bnd 20 (pst v).1) := by
  have sz := sz_small h
  have tl : (trim [v]).length ≤ 1 := trim_len [v]
  obtain ⟨q, S, T, g⟩ := law_all (A := trim [v]) (B := [1, -1]) (fs := [1]) (k := 1) (a := 2) (b := 2) (c := 16) (trd_trim _) trd_step (by decide) (fun x => by simp only [ev, pf]; grind) famC1 (by decide) (bnd_v sz).trim bnd_s (by decide) (by decide) (by omega) (cst tl)
  refine ⟨q, fun v0 => ?_⟩
  have e1 := g.e1
  have e2 := g.e2
  have b2 := g.b2
  have gb := g.bd
  have gs := g.sub
  have gt := g.subT
  have gl : (pst v).1.length ≤ (trim [v]).length := g.l1
  have gB : (pst v).2 = pmon S := b2
  have gb : Bnd 20 (pst v).1 := gb
  have t1 : Trd (pst v).1 := g.t1
  have e1 : ∀ x, ev (trim [v]) x = -1 * (ev (pmon T) x * ev (pst v).1 x) := e1
  have e2 : ∀ x, ev [1, -1] x = -1 * (ev (pmon T) x * ev (pst v).2 x) := e2
  clear g b2
  generalize pst v = c at *
  have evv : ∀ x, ev (trim [v]) x = v := fun x => by rw [ev_trim]; simp only [ev]; grind
  have T0 : T = [] := by
    obtain ⟨T1, hT1, e⟩ := split_last (S := []) gt
    have := List.sublist_nil.mp hT1
    rcases e with e | e
    · rw [e, this]
    · exfalso
      have y := e1 1
      rw [e, this, List.nil_append, evv, ev_pmon (fun f m => (famC1 f m).1)] at y
      simp only [pf] at y
      grind
  have p0 : ∀ x, ev (pmon T) x = 1 := fun x => by
    rw [T0]
    show ev [1] x = 1
    simp only [ev]; grind
  have S1 : S = [1] := by
    obtain ⟨S1, hS1, e⟩ := split_last (S := []) gs
    have := List.sublist_nil.mp hS1
    rcases e with e | e
    · exfalso
      have y := e2 1
      rw [gB, e, this, p0] at y
      simp only [pmon, ev] at y
      grind
    · rw [e, this]; rfl
  refine ⟨by rw [gB, S1, pmon_1], fun x => ?_, by omega, gb⟩
  have y := e1 x
  rw [evv, p0] at y
  grind
end Sw

namespace Sw
/-- a step summed up: 1 is a root twice -/
theorem step_twice {r : PQ} {S : List Rat} {a : Nat} (r2 : r.2 = pmon (S ++ [1])) (fam : ∀ f ∈ S, Fam f) (lt : ∀ f ∈ S, Lt1 f) (lS : S.length ≤ 3) (br : Bnd a r.1) (lr : r.1.length ≤ 6) (ha : a ≤ 400) (r1 : ev r.1 1 ≠ 0) : PrOk r pSUM ∧ LaOk (pprod r pSUM) ∧ plast (pprod r pSUM) = none := by
  have ll : (S ++ [1]).length = S.length + 1 := by rw [List.length_append]; rfl
  have fam' := fam_app fam famC1
  have nz : ∀ f ∈ S, f ≠ 0 := fun f m => (fam f m).1
  have nz' : ∀ f ∈ S ++ [1], f ≠ 0 := fun f m => (fam' f m).1
  have c1 := psum_1
  have c2 := psum_2
  have b1 : Bnd 2 pSUM.1 := bnd_m1
  have b2 : Bnd 2 pSUM.2 := bnd_m11
  have m1 : pSUM.1.length ≤ 2 := by decide
  have m2 : pSUM.2.length ≤ 2 := by decide
  generalize pSUM = c at *
  obtain ⟨pr, S', T', g⟩ := prod_all (q := r) (c := c) (C := [1]) (n := 6) (k := 145) (kc := -1) br lr r2 fam' famC1 (by rw [ll]; simp; omega) b1 m1 (fun x => by rw [c2]; simp only [pf]; grind) (by decide) b2 m2 (by omega) (by decide) (fun m hm => c7 hm)
  refine ⟨pr, ?_⟩
  have s1 : ∀ x, ev (pmul r.1 c.1) x = -ev r.1 x := fun x => by rw [ev_pmul, c1]; grind
  have s2 : ∀ x, ev (pmul r.2 c.2) x = -(moc (S ++ [1]) * pf S x) * (1 - x) * (1 - x) := fun x => by rw [ev_pmul, c2, r2, ev_pmon nz', pf_one_end]; grind
  have k := g.k
  have g1 := g.e1
  have g2 := g.e2
  have gB := g.b2
  have gs := g.sub
  clear g pr
  generalize pprod r c = w at *
  generalize pmul r.1 c.1 = A at *
  generalize pmul r.2 c.2 = B at *
  have k' : lastOf B ≠ 0 := k
  have g1 : ∀ x, ev A x = lastOf B * (ev (pmon T') x * ev w.1 x) := g1
  have g2 : ∀ x, ev B x = lastOf B * (ev (pmon T') x * ev w.2 x) := g2
  have tm : ev (pmon T') 1 ≠ 0 := by
    intro z
    have x1 := g1 1
    rw [s1, z] at x1
    grind
  have m0 := moc_ne nz'
  have pS1 : ∀ S1 : List Rat, S1.Sublist S → pf S1 1 ≠ 0 := fun S1 hS => pf_ne fun f m => lt1_ne1 (lt f (hS.mem m))
  have once : ∀ S1 : List Rat, S1.Sublist S → w.2 = pmon (S1 ++ [1]) → False := fun S1 hS e => by
    have nz1 : ∀ f ∈ S1 ++ [1], f ≠ 0 := fun f m => (fam_app (fun f m => fam f (hS.mem m)) famC1 f m).1
    have can := cancel (f := 1) (p := mulR (psc (-(moc (S ++ [1]))) (PL S)) [1, -1]) (q := psc (lastOf B * moc (S1 ++ [1])) (mulR (pmon T') (PL S1))) (fun x => by
      have := g2 x
      rw [s2, e, ev_pmon nz1, pf_one_end] at this
      rw [ev_mulR, ev_psc, ev_psc, ev_mulR, ev_PL, ev_PL]
      simp only [ev]
      grind) 1
    rw [ev_mulR, ev_psc, ev_psc, ev_mulR, ev_PL, ev_PL] at can
    have d0 := mul_ne (mul_ne k' (moc_ne nz1)) (mul_ne tm (pS1 S1 hS))
    simp only [ev] at can
    refine d0 ?_
    rw [← can]
    grind
  obtain ⟨U, hU, eU⟩ := split_last gs
  obtain ⟨S1, hS1, e1⟩ := split_last hU
  have lS1 := hS1.length_le
  have fam1 : ∀ f ∈ S1, Fam f := fun f m => fam f (hS1.mem m)
  rcases eU with eU | eU
  · rcases e1 with e1 | e1
    · exfalso
      have nz1 : ∀ f ∈ S1, f ≠ 0 := fun f m => (fam1 f m).1
      have y := g2 1
      rw [s2, gB, eU, e1, ev_pmon nz1] at y
      refine mul_ne k' (mul_ne tm (mul_ne (moc_ne nz1) (pS1 S1 hS1))) ?_
      rw [← y]; grind
    · exfalso
      exact once S1 hS1 (by rw [gB, eU, e1])
  · rcases e1 with e1 | e1
    · exfalso
      exact once S1 hS1 (by rw [gB, eU, e1])
    · exact la_two (by rw [gB, eU, e1]) fam1 (by omega)
section
variable {l : List Part} {S T : List Rat} {v : Rat}
theorem One.lap2 (h : One l S T) (hv : IsSmall v) : Lap2 l v := by
  have sz := sz_small hv
  have sv : Sm v := sz.sm (by decide)
  have sv1 : Sm (v + 1) := (sz.add Sz.one).sm (by decide)
  obtain ⟨qu, st⟩ := qu_st hv
  have lS := h.lS
  have q2 := h.g.b2
  have nz := h.nz
  have famS := h.famS
  have ltS := h.ltS
  have hb := h.g.bd
  have hl := h.l1
  have q21 := h.at1
  by_cases v0 : v = 0
  · subst v0
    obtain ⟨su, S', T', g⟩ := sum_all (q := pmade l) (c := pst 0) (C := []) (n := 5) (t := 2) (k := 116) (kc := 1) hb hl q2 famS (fun f m => by cases m) lS (by decide) (by rw [pst_zero]; exact Bnd.nil.mono (by decide)) (by rw [pst_zero]; decide) (fun x => by rw [pst_zero]; simp only [ev, pf]; grind) (by decide) (by rw [pst_zero]; exact bnd_1) (by rw [pst_zero]; decide) (by decide) (by decide) (by decide) (fun m hm => c6 (by omega))
    have gs := g.sub
    rw [List.append_nil] at gs
    have lS' := gs.length_le
    obtain ⟨u1, u2, u3⟩ := la_far g.b2 (fun f m => famS f (gs.mem m)) (fun f m => ltS f (gs.mem m)) (by omega)
    exact ⟨qu, su, u1, u3, sv, sv1, fun n => absurd rfl n, fun n => absurd rfl n⟩
  · obtain ⟨d2, d1, dl, db⟩ := st v0
    have bs2 : Bnd 20 (pst v).2 := by rw [d2]; exact bnd_m11.mono (by decide)
    have ls2 : (pst v).2.length ≤ 2 := by rw [d2]; decide
    have d2v : ∀ x, ev (pst v).2 x = x - 1 := fun x => by
      rw [d2]
      simp only [ev]; grind
    have eb : pbo l v = psum (pmade l) (pst v) := rfl
    rw [show Lap2 l v = Lap2 l v from rfl]
    have key : SuOk (pmade l) (pst v) ∧ LaOk (psum (pmade l) (pst v)) ∧ pdies (psum (pmade l) (pst v)).2 = false ∧ plast (psum (pmade l) (pst v)) = some v ∧ PrOk (psum (pmade l) (pst v)) pSUM ∧ LaOk (pprod (psum (pmade l) (pst v)) pSUM) ∧ plast (pprod (psum (pmade l) (pst v)) pSUM) = none := by
      clear eb qu st h
      generalize pst v = c at *
      generalize pmade l = q at *
      obtain ⟨su, S', T', g⟩ := sum_all (q := q) (c := c) (C := [1]) (n := 5) (t := 20) (k := 116) (kc := -1) hb hl q2 famS famC1 lS (by decide) db (by omega) (fun x => by rw [d2v]; simp only [pf]; grind) (by decide) bs2 ls2 (by decide) (by decide) (by decide) (fun m hm => c6 (by omega))
      refine ⟨su, ?_⟩
      have s1 : ∀ x, ev (pplus (pmul q.1 c.2) (pmul c.1 q.2)) x = ev q.1 x * (x - 1) - v * ev q.2 x := fun x => by rw [ev_pplus, ev_pmul, ev_pmul, d1, d2v]; grind
      have s2 : ∀ x, ev (pmul q.2 c.2) x = ev q.2 x * (x - 1) := fun x => by rw [ev_pmul, d2v]
      have k := g.k
      have g1 := g.e1
      have g2 := g.e2
      have gB := g.b2
      have gs := g.sub
      have gb := g.bd
      have gl : (psum q c).1.length ≤ (pplus (pmul q.1 c.2) (pmul c.1 q.2)).length := g.l1
      have n4 := pplus_len (pmul q.1 c.2) (pmul c.1 q.2)
      have n1 := pmul_len q.1 c.2
      have n2 := pmul_len c.1 q.2
      have n3 : q.2.length ≤ 4 := by rw [q2, (pmon_facts S).2.2]; omega
      have rl : (psum q c).1.length ≤ 6 := by omega
      clear g su gl n4 n1 n2 n3
      generalize psum q c = r at *
      generalize pplus (pmul q.1 c.2) (pmul c.1 q.2) = A at *
      generalize pmul q.2 c.2 = B at *
      have k' : lastOf B ≠ 0 := k
      have g1 : ∀ x, ev A x = lastOf B * (ev (pmon T') x * ev r.1 x) := g1
      have g2 : ∀ x, ev B x = lastOf B * (ev (pmon T') x * ev r.2 x) := g2
      have x1 := g1 1
      have x2 := g2 1
      rw [s1] at x1
      rw [s2] at x2
      have vq := mul_ne v0 q21
      have tm : ev (pmon T') 1 ≠ 0 := by
        intro z
        rw [z] at x1
        grind
      have r1 : ev r.1 1 ≠ 0 := by
        intro z
        rw [z] at x1
        grind
      have r20 : ev r.2 1 = 0 := by
        have : lastOf B * (ev (pmon T') 1 * ev r.2 1) = 0 := by rw [← x2]; grind
        rcases Rat.mul_eq_zero.mp this with z | z
        · exact absurd z k'
        · rcases Rat.mul_eq_zero.mp z with z | z
          · exact absurd z tm
          · exact z
      obtain ⟨S1, hS1, e⟩ := split_last gs
      have fam1 : ∀ f ∈ S1, Fam f := fun f m => famS f (hS1.mem m)
      have lt1 : ∀ f ∈ S1, Lt1 f := fun f m => ltS f (hS1.mem m)
      have lS1 := hS1.length_le
      have nz1 : ∀ f ∈ S1, f ≠ 0 := fun f m => (fam1 f m).1
      have pS11 : pf S1 1 ≠ 0 := pf_ne fun f m => lt1_ne1 (lt1 f m)
      rcases e with e | e
      · exfalso
        rw [gB, e, ev_pmon nz1] at r20
        exact mul_ne (moc_ne nz1) pS11 r20
      · rw [e] at gB
        obtain ⟨u1, u2, u3⟩ := la_one gB fam1 lt1 (by omega) gb (by omega) (by omega) r1
        obtain ⟨w1, w2, w3⟩ := step_twice gB fam1 lt1 (by omega) gb rl (by omega) r1
        refine ⟨u1, u2, ?_, w1, w2, w3⟩
        rw [u3]
        congr 1
        have nz1' : ∀ f ∈ S1 ++ [1], f ≠ 0 := fun f m => (fam_app fam1 famC1 f m).1
        have cross : ∀ x, ev r.1 x * ev B x = ev r.2 x * ev A x := fun x => by rw [g1, g2]; grind
        have can := cancel (f := 1) (p := psc (-1) (mulR r.1 q.2)) (q := psc (moc (S1 ++ [1])) (mulR (PL S1) (padd (mulR q.1 [-1, 1]) (psc (-v) q.2)))) (fun x => by
          have := cross x
          rw [s1, s2, gB, ev_pmon nz1', pf_one_end] at this
          rw [ev_psc, ev_mulR, ev_psc, ev_mulR, ev_PL, ev_padd, ev_mulR, ev_psc]
          simp only [ev]
          grind) 1
        rw [ev_psc, ev_mulR, ev_psc, ev_mulR, ev_PL, ev_padd, ev_mulR, ev_psc] at can
        simp only [ev] at can
        have d0 : moc (S1 ++ [1]) * pf S1 1 ≠ 0 := mul_ne (moc_ne nz1') pS11
        have can' : ev q.2 1 * ev r.1 1 = ev q.2 1 * (v * (moc (S1 ++ [1]) * pf S1 1)) := by grind
        have can2 : ev r.1 1 = v * (moc (S1 ++ [1]) * pf S1 1) := by
          clear g1 g2 cross s1 s2 can d0
          grind
        rw [can2]
        clear g1 g2 cross s1 s2 can can' can2
        grind
    obtain ⟨su, u1, u2, u3, w1, w2, w3⟩ := key
    exact ⟨qu, su, u1, u3, sv, sv1, fun _ => u2, fun _ => ⟨w1, w2, w3⟩⟩
end
/-! ### turned about -/
theorem pTU_eq : pTU = ([1], [1, 1]) := by decide +kernel
theorem pmon_m : pmon [-1] = [1, 1] := by decide +kernel
theorem lapT : LapT := by
  have q2 : (([1], [1, 1]) : PQ).2 = pmon [-1] := pmon_m.symm
  obtain ⟨q, S, T, g⟩ := law_all (A := [1]) (B := [1, 1]) (fs := [-1]) (k := 1) (a := 2) (b := 2) (c := 16) (trd_of_last fun _ => show (1 : Rat) ≠ 0 by decide) (trd_of_last fun _ => show (1 : Rat) ≠ 0 by decide) (by decide) (fun x => by simp only [ev, pf]; grind) famCm (by decide) bnd_1 bnd_11 (by decide) (by decide) (by decide) (cst (by decide))
  obtain ⟨u1, u2, u3⟩ := la_neg q2 famCm (by decide) (by simp only [ev]; grind) (by simp only [ev]; grind)
  exact ⟨q, by rw [pTU_eq]; exact u1, by rw [pTU_eq]; exact u3, by rw [pTU_eq]; exact u2⟩
end Sw

/-! first values -/
namespace Sw
theorem act_psc (a : Rat) (p : List Rat) (v : Sq) (n : Nat) : act (psc a p) v n = a * act p v n := by
  have := act_lin a 1 p [] v n
  have e : act (padd (psc a p) (psc 1 [])) v n = act (psc a p) v n := act_ext (fun i => by rw [cf_padd]; show cf (psc a p) i + cf [] i = _; rw [cf_nil]; grind) v n
  rw [e] at this
  rw [this]
  show a * act p v n + 1 * 0 = _
  grind
theorem act_padd (p q : List Rat) (v : Sq) (n : Nat) : act (padd p q) v n = act p v n + act q v n := by
  have := act_lin 1 1 p q v n
  have e : act (padd (psc 1 p) (psc 1 q)) v n = act (padd p q) v n := act_ext (fun i => by rw [cf_padd, cf_padd, cf_psc, cf_psc]; grind) v n
  rw [e] at this
  rw [this]; grind
theorem act_mulR (p q : List Rat) (v : Sq) (n : Nat) : act (mulR p q) v n = act p (act q v) n := by
  induction p generalizing n with
  | nil => rfl
  | cons a p ih =>
    rw [mulR, act_padd, act_psc]
    show _ + (0 * v n + sh (act (mulR p q) v) n) = a * act q v n + sh (act p (act q v)) n
    rw [show act (mulR p q) v = act p (act q v) from funext ih]; grind
theorem act_vec (a b : Rat) (p : List Rat) (u w : Sq) (n : Nat) : act p (fun i => a * u i + b * w i) n = a * act p u n + b * act p w n := by
  induction p generalizing n with
  | nil => show (0 : Rat) = a * 0 + b * 0; grind
  | cons c p ih =>
    show c * (a * u n + b * w n) + sh (act p fun i => a * u i + b * w i) n = a * (c * u n + sh (act p u) n) + b * (c * w n + sh (act p w) n)
    rw [show act p (fun i => a * u i + b * w i) = fun i => a * act p u i + b * act p w i from funext ih, sh_add]; grind
theorem cf_sh (p : List Rat) (n : Nat) : cf (0 :: p) n = sh (cf p) n := by
  cases n with
  | zero => rfl
  | succ n => exact cf_succ _ _ _
theorem act_cf (p q : List Rat) (n : Nat) : act p (cf q) n = cf (mulR p q) n := by
  induction p generalizing n with
  | nil => rfl
  | cons a p ih =>
    rw [mulR, cf_padd, cf_psc, cf_sh]
    show a * cf q n + sh (act p (cf q)) n = _
    rw [show act p (cf q) = cf (mulR p q) from funext ih]
theorem act_inj {B : List Rat} (h0 : cf B 0 ≠ 0) {u w : Sq} (h : ∀ n, act B u n = act B w n) (n : Nat) : u n = w n := by
  cases B with
  | nil => exact absurd (cf_nil 0) h0
  | cons b p =>
    have b0 : b ≠ 0 := h0
    induction n using Nat.strongRecOn with
    | ind n ih =>
      have k : b * u n + sh (act p u) n = b * w n + sh (act p w) n := h n
      have e : sh (act p u) n = sh (act p w) n := by
        cases n with
        | zero => rfl
        | succ n => exact act_loc fun i hi => ih i (by omega)
      rw [e] at k
      grind
/-! ### as a sum -/
def sS (p : List Rat) (v : Sq) (n : Nat) : Nat → Rat
  | 0 => 0
  | m + 1 => sS p v n m + cf p m * v (n - m)
theorem sS_front (a : Rat) (p : List Rat) (v : Sq) (n m : Nat) : sS (a :: p) v (n + 1) (m + 1) = a * v (n + 1) + sS p v n m := by
  induction m with
  | zero =>
    show 0 + a * v (n + 1 - 0) = _ + 0
    rw [Nat.sub_zero]; grind
  | succ m ih =>
    rw [sS, ih, sS, cf_succ, show n + 1 - (m + 1) = n - m by omega]; grind
theorem act_sS (p : List Rat) (v : Sq) (n : Nat) : act p v n = sS p v n (n + 1) := by
  induction p generalizing n with
  | nil =>
    have : ∀ m, sS [] v n m = 0 := fun m => by
      induction m with
      | zero => rfl
      | succ m ih => rw [sS, ih, cf_nil]; grind
    rw [this]; rfl
  | cons a p ih =>
    cases n with
    | zero =>
      show a * v 0 + 0 = 0 + a * v 0
      grind
    | succ n =>
      rw [sS_front, ← ih]; rfl
theorem sS_tail {p : List Rat} (v : Sq) (n : Nat) : ∀ d : Nat, sS p v n (p.length + d) = sS p v n p.length
  | 0 => rfl
  | d + 1 => by
    show sS p v n (p.length + d) + cf p (p.length + d) * _ = _
    rw [sS_tail v n d, cf_ge (by omega)]; grind
theorem vst_sS {A B f : List Rat} {v : Sq} {k : Nat} (h : ∀ i, i < k → cf f i = v i) : ∀ j, j ≤ k → vst A B f k j = cf A k + cf B 0 * v k - sS B v k (j + 1)
  | 0, _ => by
    show cf A k = _ - (0 + cf B 0 * v (k - 0))
    rw [Nat.sub_zero]; grind
  | j + 1, hj => by
    rw [vst, vst_sS h j (by omega), h _ (by omega)]
    rw [show sS B v k (j + 1 + 1) = sS B v k (j + 1) + cf B (j + 1) * v (k - (j + 1)) from rfl]
    grind
theorem ser_of {A B : List Rat} {P : Sq} (h0 : cf B 0 ≠ 0) (h : ∀ n, act B P n = cf A n) : ∀ n, ser A B n = (List.range n).map P
  | 0 => rfl
  | k + 1 => by
    rw [ser, ser_of h0 h k, List.range_succ, List.map_append]
    congr 1
    show [_] = [P k]
    congr 1
    have lB : 0 < B.length := by
      apply Nat.pos_of_ne_zero
      intro z
      exact h0 (cf_ge (by omega))
    rw [vst_sS (v := P) (fun i hi => by rw [cf_range, if_pos hi]) _ (Nat.min_le_left _ _)]
    have e : sS B P k (min k (B.length - 1) + 1) = sS B P k (k + 1) := by
      by_cases hk : k ≤ B.length - 1
      · rw [Nat.min_eq_left hk]
      · rw [Nat.min_eq_right (by omega), show B.length - 1 + 1 = B.length by omega, show k + 1 = B.length + (k + 1 - B.length) by omega, sS_tail]
    rw [e, ← act_sS, h]
    grind
/-! ### the stream's own values -/
def pvl (l : List Part) : Sq := fun t => rsum (pter t l)
def gvl (s : Part) : Sq := fun n => if s.2.2 ≤ n then s.1 * s.2.1 ^ (n - s.2.2) else 0
theorem pvl_snoc (l : List Part) (s : Part) (n : Nat) : pvl (l ++ [s]) n = 1 * pvl l n + 1 * gvl s n := by
  unfold pvl pter gvl
  rw [List.filterMap_append]
  by_cases h : s.2.2 ≤ n
  · rw [if_pos h]
    have : List.filterMap (fun s : Part => if s.2.2 ≤ n then some (s.1 * s.2.1 ^ (n - s.2.2)) else none) [s] = [s.1 * s.2.1 ^ (n - s.2.2)] := by simp [h]
    rw [this, rsum_snoc]; grind
  · rw [if_neg h]
    have : List.filterMap (fun s : Part => if s.2.2 ≤ n then some (s.1 * s.2.1 ^ (n - s.2.2)) else none) [s] = [] := by simp [h]
    rw [this, List.append_nil]; grind
theorem cf_ptp (s : Part) (n : Nat) : cf (ptp s) n = if n = s.2.2 then s.1 else 0 := by
  unfold ptp cf
  rw [List.getD_eq_getElem?_getD, List.getElem?_append, List.length_replicate]
  by_cases h : n < s.2.2
  · rw [if_pos h, if_neg (by omega), List.getElem?_replicate, if_pos h]; rfl
  · rw [if_neg h]
    by_cases h2 : n = s.2.2
    · rw [if_pos h2, h2, Nat.sub_self]; rfl
    · rw [if_neg h2, List.getElem?_eq_none (by simp; omega)]; rfl
theorem act_pits (s : Part) (v : Sq) (n : Nat) : act (pits s) v n = v n - s.2.1 * sh v n := by
  unfold pits
  by_cases h : s.2.1 = 0
  · rw [if_pos h, h]
    show 1 * v n + sh (fun _ => 0) n = _
    have : sh (fun _ => (0 : Rat)) n = 0 := by cases n <;> rfl
    rw [this]; grind
  · rw [if_neg h]
    show 1 * v n + sh (fun m => (0 - s.2.1) * v m + sh (fun _ => 0) m) n = _
    cases n with
    | zero => show 1 * v 0 + 0 = v 0 - s.2.1 * 0; grind
    | succ n =>
      show 1 * v (n + 1) + ((0 - s.2.1) * v n + sh (fun _ => 0) n) = v (n + 1) - s.2.1 * v n
      have : sh (fun _ => (0 : Rat)) n = 0 := by cases n <;> rfl
      rw [this]; grind
theorem act_gvl (s : Part) (n : Nat) : act (pits s) (gvl s) n = cf (ptp s) n := by
  rw [act_pits, cf_ptp]
  cases n with
  | zero =>
    show gvl s 0 - s.2.1 * 0 = _
    unfold gvl
    by_cases h : s.2.2 = 0
    · rw [if_pos (by omega), if_pos h.symm, h, Rat.pow_zero]; grind
    · rw [if_neg (by omega), if_neg (by omega)]; grind
  | succ n =>
    show gvl s (n + 1) - s.2.1 * gvl s n = _
    unfold gvl
    by_cases h : s.2.2 = n + 1
    · rw [if_pos (by omega), if_neg (by omega), if_pos h.symm, h, Nat.sub_self, Rat.pow_zero]; grind
    · by_cases h2 : s.2.2 ≤ n
      · rw [if_pos (by omega), if_pos h2, if_neg (by omega), show n + 1 - s.2.2 = (n - s.2.2) + 1 by omega, Rat.pow_succ]; grind
      · rw [if_neg (by omega), if_neg h2, if_neg (by omega)]; grind
theorem act_mall : ∀ (n : Nat) (l : List Part), l.length = n → ∀ i, act (mall l).2 (pvl l) i = cf (mall l).1 i := by
  intro n
  induction n with
  | zero =>
    intro l hl i
    have : l = [] := List.length_eq_zero_iff.mp hl
    subst this
    show 1 * pvl [] i + sh (fun _ => 0) i = cf [] i
    have e1 : sh (fun _ => (0 : Rat)) i = 0 := by cases i <;> rfl
    have e2 : pvl [] i = 0 := rfl
    rw [e1, e2, cf_nil]; grind
  | succ n ih =>
    intro l hl i
    rcases List.eq_nil_or_concat l with e | ⟨l', s, e⟩
    · rw [e] at hl; simp at hl
    · rw [List.concat_eq_append] at e
      subst e
      have hl' : l'.length = n := by
        rw [List.length_append] at hl
        simpa using hl
      have ih := ih l' hl'
      have b : ∀ i, cf (mall (l' ++ [s])).2 i = cf (mulR (pits s) (mall l').2) i := cf_of_far (M := 0) fun x _ => by
        rw [mall_snoc, ev_mulR]
        show ev (pmul _ _) x = _
        rw [ev_pmul]; grind
      have b' : ∀ i, cf (mulR (pits s) (mall l').2) i = cf (mulR (mall l').2 (pits s)) i := cf_of_far (M := 0) fun x _ => by rw [ev_mulR, ev_mulR]; grind
      have a : ∀ i, cf (mall (l' ++ [s])).1 i = cf (padd (mulR (pits s) (mall l').1) (mulR (mall l').2 (ptp s))) i := cf_of_far (M := 0) fun x _ => by
        rw [mall_snoc, ev_padd, ev_mulR, ev_mulR]
        show ev (pplus _ _) x = _
        rw [ev_pplus, ev_pmul, ev_pmul]; grind
      rw [a, cf_padd, ← act_cf, ← act_cf, act_ext b, act_mulR]
      have s1 : act (mall l').2 (pvl (l' ++ [s])) = fun i => 1 * act (mall l').2 (pvl l') i + 1 * act (mall l').2 (gvl s) i := funext fun i => by
        rw [← act_vec]
        rw [show pvl (l' ++ [s]) = fun i => 1 * pvl l' i + 1 * gvl s i from funext (pvl_snoc l' s)]
      rw [s1, act_vec, show act (mall l').2 (pvl l') = cf (mall l').1 from funext ih, ← act_mulR, act_ext b', act_mulR, show act (pits s) (gvl s) = cf (ptp s) from funext (act_gvl s)]
      grind
section
variable {l : List Part} {S T : List Rat}
theorem One.first (h : One l S T) (n : Nat) : ser (pmade l).1 (pmade l).2 n = pfirst l n := by
  have g := h.g
  refine ser_of (P := pvl l) h.ke.1 (act_inj (B := psc (lastOf (mall l).2) (pmon T)) ?_ fun i => ?_) n
  · rw [cf_psc, ← ev_at0, ev_pmon fun f m => (h.famT f m).1, pf_zero]
    exact mul_ne g.k (mul_ne (moc_ne fun f m => (h.famT f m).1) (by decide))
  · rw [act_cf, ← act_mulR]
    have e1 : ∀ i, cf (mulR (psc (lastOf (mall l).2) (pmon T)) (pmade l).1) i = cf (mall l).1 i := cf_of_far (M := 0) fun x _ => by rw [ev_mulR, ev_psc, g.e1]; grind
    have e2 : ∀ i, cf (mulR (psc (lastOf (mall l).2) (pmon T)) (pmade l).2) i = cf (mall l).2 i := cf_of_far (M := 0) fun x _ => by rw [ev_mulR, ev_psc, g.e2]; grind
    rw [e1, act_ext e2]
    exact act_mall _ l rfl i
theorem lap1 (hl : StreamOk l) : Lap1 l := by
  obtain ⟨S, T, h⟩ := one_all hl
  obtain ⟨ws, ts⟩ := wsum_ok hl
  obtain ⟨c1, c2, c3⟩ := h.cell
  obtain ⟨p1, p2, p3⟩ := h.stp
  obtain ⟨t1, t2, t3⟩ := h.turn
  obtain ⟨l1, l2⟩ := h.ledt hl
  exact ⟨(made_all hl).1, h.se, fi_ok hl, h.first 12, h.la, h.dies, fun s m => gap_ok (hl.2.2 s m), ws, ts, l2, h.tot hl, l1, c1, c2, by rw [c3, h.tot hl], p1, p2, p3, by rw [pTU_eq]; exact t1, by rw [pTU_eq]; exact t2, by rw [pTU_eq]; exact t3⟩
theorem lap2 (hl : StreamOk l) {v : Rat} (hv : IsSmall v) : Lap2 l v := by
  obtain ⟨S, T, h⟩ := one_all hl
  exact h.lap2 hv
end
end Sw

namespace Sw
open PySem PySem.Spec L2
open PyProof.Rows hiding St
def topS (i : Nat) : Stmt := PySem.Challenge.pw_streamwebs_k97_whole_totals_of_falling_s.main.body.getD i (.Pass ⟨0, 0, 0, 0⟩)
structure Glb (P : Program) (K : Fg) (mg : Str → Option Value) (base : Heap) : Prop where
  seer : base.NoSeer
  tree : P.given.tree = none
  g_isinstance : mg "isinstance" = none
  g_int : mg "int" = none
  g_bool : mg "bool" = none
  g_tuple : mg "tuple" = none
  g_list : mg "list" = none
  g_len : mg "len" = none
  g_abs : mg "abs" = none
  g_max : mg "max" = none
  g_min : mg "min" = none
  g_all : mg "all" = none
  g_any : mg "any" = none
  g_range : mg "range" = none
  g_enumerate : mg "enumerate" = none
  g_zip : mg "zip" = none
  k_NIL : Kon K mg "NIL" (encR 0)
  k_UNIT : Kon K mg "UNIT" (encR 1)
  k_ONE : Kon K mg "ONE" (encQ ([1], [1]))
  k_X : Kon K mg "X" (encQ ([0, 1], [1]))
  k_STEP : Kon K mg "STEP" (encP [1, -1])
  k_MOST_TICKS : Kon K mg "MOST_TICKS" (.int 400)
abbrev sp1 {α : Type} (K : Fg) (e1 : α → PyData) (pre : α → Prop) (res : α → PyData) : Sp := spT K (fun a => [e1 a]) pre res
abbrev sp2 {α β : Type} (K : Fg) (e1 : α → PyData) (e2 : β → PyData) (pre : α × β → Prop) (res : α × β → PyData) : Sp := spT K (fun a : α × β => [e1 a.1, e2 a.2]) pre res
section
variable {K : Fg} {H0 : Hp} {F : List FE} {G : List B} {ta tb : TE} {E : XK}
theorem ev_call1 {α : Type} {e1 : α → PyData} {pre : α → Prop} {res : α → PyData} (a : α) (h : EvE K H0 F G ta (e1 a)) (hp : pre a) : EvE K H0 F G (tCall (sp1 K e1 pre res) [] E (tCons ta tNil)) (res a) := ev_call a (ea_cons h ea_nil) hp
theorem ev_call2 {α β : Type} {e1 : α → PyData} {e2 : β → PyData} {pre : α × β → Prop} {res : α × β → PyData} (a : α) (b : β) (h : EvE K H0 F G ta (e1 a)) (h' : EvE K H0 F G tb (e2 b)) (hp : pre (a, b)) :
    EvE K H0 F G (tCall (sp2 K e1 e2 pre res) [] E (tCons ta (tCons tb tNil))) (res (a, b)) := ev_call (a, b) (ea_cons h (ea_cons h' ea_nil)) hp
/-! readings of fractions -/
theorem ev_num {q : Rat} (h : EvE K H0 F G ta (encR q)) (hb : EvE K H0 F G tb (.int 0)) : EvE K H0 F G (tOp (rIx K) ta tb) (.int q.num) := ev_ixT h hb rfl
theorem ev_den {q : Rat} (h : EvE K H0 F G ta (encR q)) (hb : EvE K H0 F G tb (.int 1)) : EvE K H0 F G (tOp (rIx K) ta tb) (.int (q.den : Nat)) := ev_ixT h hb rfl
end
theorem kit_ii : kitB "int" "int" = some true := by decide +kernel
theorem kit_ib : kitB "int" "bool" = some false := by decide +kernel
theorem kit_tt : kitB "tuple" "tuple" = some true := by decide +kernel
section
variable {P : Program} {w : World} {K : Fg} {mg : Str → Option Value} {base : Heap}

abbrev s_is_int : Stmt := topS 5
theorem sc_is_int : FnScope ["thing"] ["thing"] (defScope s_is_int) := ⟨rfl, rfl, rfl, by decide +kernel, rfl, by decide +kernel, by decide +kernel⟩
theorem ok_is_int (M : Glb P K mg base) (F : Dfn K mg "is_int" s_is_int) : Cal P w K mg base "is_int" ["thing"] 41 (sp1 K PyData.int (fun _ => True) (fun _ => .bool true)) := by
  refine def_ok F sc_is_int (fun _ _ _ _ _ _ us hl => match us, hl with | [_], _ => rfl) (fun _ => rfl) (fun _ => rfl) fun cdv f A outer s H E hr a ha => ?_
  refine ⟨_, (pss_one (ps_ret (pe_and (pe_isi (by rfl) M.g_isinstance (by rfl) M.g_int boot_int (pv 0)) (pe_one (pe_not (pe_isi (by rfl) M.g_isinstance (by rfl) M.g_bool boot_bool (pv 0))))))), fun D hD => ?_⟩
  exact g_ret (x := .bool true) ((ev_andV (ev_isi (x := .int a) (ev_var rfl) kit_ii) fun _ => ev_notV (ev_isi (x := .int a) (ev_var rfl) kit_ib)).to rfl) hD

abbrev s_common_divisor : Stmt := topS 6
theorem sc_common_divisor : FnScope ["one", "other"] ["one", "other"] (defScope s_common_divisor) := ⟨rfl, rfl, rfl, by decide +kernel, rfl, by decide +kernel, by decide +kernel⟩
theorem ok_common_divisor (M : Glb P K mg base) (F : Dfn K mg "common_divisor" s_common_divisor) : Cal P w K mg base "common_divisor" ["one", "other"] 41 (sp2 K PyData.int PyData.int (fun _ => True) (fun a => .int (Int.gcd a.1 a.2 : Nat))) := by
  refine def_ok F sc_common_divisor (fun _ _ _ _ _ _ us hl => match us, hl with | [_, _], _ => rfl) (fun _ => rfl) (fun _ => rfl) fun cdv f A outer s H E hr a ha => ?_
  have hu := room_eq (k := 0) hr
  refine ⟨_, (pss_cons (ps_par (i := 0) (j := 1) rfl sc_common_divisor.nd rfl rfl (by decide) rfl rfl (pa_cons (pe_callB call_absS (by rfl) M.g_abs boot_abs (pa_cons (pv 0) pa_nil)) (pa_cons (pe_callB call_absS (by rfl) M.g_abs boot_abs (pa_cons (pv 1) pa_nil)) pa_nil)) (by rfl))
      (pss_cons (ps_while PassesOwn.never (pt_cmpR (op_neD hu) (pv 1) pe_int (nomark _)) (pss_one (ps_par (i := 0) (j := 1) rfl sc_common_divisor.nd rfl rfl (by decide) rfl rfl (pa_cons (pv 1) (pa_cons (pe_op op_modS (pv 0) (pv 1)) pa_nil)) (by rfl))))
      (pss_one (ps_ret (pv 0))))), fun D hD => ?_⟩
  refine g_seq (g_par (b1 := .d (.int a.1.natAbs)) (b2 := .d (.int a.2.natAbs)) ⟨ev_cb (ea_cons (ev_var rfl) ea_nil) rc_abs, rfl⟩ ⟨ev_cb (ea_cons (ev_var rfl) ea_nil) rc_abs, rfl⟩ ?_)
  refine g_seq (g_while (fun p : Nat × Nat => [.d (.int p.1), .d (.int p.2)]) (fun p => Nat.gcd p.1 p.2 = Int.gcd a.1 a.2) (fun p => decide (p.2 ≠ 0)) (fun p => (p.2, p.1 % p.2)) (fun p => p.2) (a.1.natAbs, a.2.natAbs) (LeG.refl _) rfl
    (fun p _ => et_test (ev_ne (ev_var rfl) ev_int rfl rfl (by rw [eqv_int]; by_cases h : p.2 = 0 <;> simp [h]))) (fun p hp hc => ?_) (fun p hp hc => ?_))
  · have h0 : p.2 ≠ 0 := by simpa using hc
    refine ⟨?_, Nat.mod_lt _ (by omega), ?_⟩
    · rw [← hp]
      show Nat.gcd p.2 (p.1 % p.2) = _
      rw [Nat.gcd_comm, ← Nat.gcd_rec, Nat.gcd_comm]
    · exact g_par (b1 := .d (.int p.2)) (b2 := .d (.int (p.1 % p.2 : Nat))) ⟨ev_var rfl, rfl⟩ ⟨(ev_mod (ev_var rfl) (ev_var rfl) (by omega)).to (by rw [Int.natCast_emod]), rfl⟩ (fun _ _ o => o)
  · have h0 : p.2 = 0 := by simpa using hc
    refine g_ret (x := .int (Int.gcd a.1 a.2 : Nat)) ((ev_var rfl).to ?_) hD
    rw [← hp, h0, Nat.gcd_zero_right]

abbrev s_is_fraction : Stmt := topS 7
theorem sc_is_fraction : FnScope ["thing"] ["thing"] (defScope s_is_fraction) := ⟨rfl, rfl, rfl, by decide +kernel, rfl, by decide +kernel, by decide +kernel⟩
theorem ok_is_fraction (M : Glb P K mg base) (F : Dfn K mg "is_fraction" s_is_fraction) (c_common_divisor : Cal P w K mg base "common_divisor" ["one", "other"] 41 (sp2 K PyData.int PyData.int (fun _ => True) (fun a => .int (Int.gcd a.1 a.2 : Nat)))) (c_is_int : Cal P w K mg base "is_int" ["thing"] 41 (sp1 K PyData.int (fun _ => True) (fun _ => .bool true))) : Cal P w K mg base "is_fraction" ["thing"] 42 (sp1 K encR (fun _ => True) (fun _ => .bool true)) := by
  refine def_ok F sc_is_fraction (fun _ _ _ _ _ _ us hl => match us, hl with | [_], _ => rfl) (fun _ => rfl) (fun _ => rfl) fun cdv f A outer s H E hr a ha => ?_
  have hu := room_eq (k := 1) hr
  refine ⟨_, (pss_cons (ps_if (pw_or (pt_not (pt_val (pe_isi (by rfl) M.g_isinstance (by rfl) M.g_tuple boot_tuple (pv 0)))) (pw_or (pt_cmpR (op_neD hu) (pe_callB call_lenS (by rfl) M.g_len boot_len (pa_cons (pv 0) pa_nil)) pe_int (nomark _)) (pw_or (pt_not (pt_val (pe_cal c_is_int (hr.mono (by decide)) (by rfl) (pa_cons (pe_ix ix_seq (pv 0) pe_int (fun _ _ => rfl)) pa_nil)))) (pw_or1 (pt_not (pt_val (pe_cal c_is_int (hr.mono (by decide)) (by rfl) (pa_cons (pe_ix ix_seq (pv 0) pe_int (fun _ _ => rfl)) pa_nil)))))))).pt (pss_one (ps_ret pe_bl)) pss_nil)
      (pss_one (ps_ret (pe_and (pe_cmpR op_gtS (pe_ix ix_seq (pv 0) pe_int (fun _ _ => rfl)) pe_int (nomark _)) (pe_one (pe_cmpR (op_eqD hu) (pe_cal c_common_divisor (hr.mono (by decide)) (by rfl) (pa_cons (pe_ix ix_seq (pv 0) pe_int (fun _ _ => rfl)) (pa_cons (pe_ix ix_seq (pv 0) pe_int (fun _ _ => rfl)) pa_nil))) pe_int (nomark _))))))), fun D hD => ?_⟩
  refine g_seq (g_no (et_or0 (et_not0 (et_B (ev_isi (ev_var rfl) kit_tt))) (et_or0 (et_test (ev_ne (b := false) (ev_cb (ea_cons (ev_var rfl) ea_nil) rc_lenT) ev_int rfl rfl rfl))
    (et_or0 (et_not0 (et_B (ev_call1 a.num (ev_num (ev_var rfl) ev_int) trivial))) (et_not0 (et_B (ev_call1 (a.den : Int) (ev_den (ev_var rfl) ev_int) trivial)))))) (g_next ?_))
  have hd := a.den_nz
  refine g_ret (x := .bool true) ((ev_andV (ev_gt (ev_den (ev_var rfl) ev_int) ev_int) fun _ => ev_eq (b := true) (ev_call2 a.num (a.den : Int) (ev_num (ev_var rfl) ev_int) (ev_den (ev_var rfl) ev_int) trivial) ev_int rfl rfl ?_).to ?_) hD
  · rw [eqv_int]
    have h : a.num.natAbs.gcd a.den = 1 := a.reduced
    simp [Int.gcd, h]
  · simp
    omega

abbrev s_made : Stmt := topS 8
theorem sc_made : FnScope ["over", "under", "its", "sign"] ["over", "under"] (defScope s_made) := ⟨rfl, rfl, rfl, by decide +kernel, rfl, by decide +kernel, by decide +kernel⟩
theorem ok_made (M : Glb P K mg base) (F : Dfn K mg "made" s_made) (c_common_divisor : Cal P w K mg base "common_divisor" ["one", "other"] 41 (sp2 K PyData.int PyData.int (fun _ => True) (fun a => .int (Int.gcd a.1 a.2 : Nat)))) (c_is_int : Cal P w K mg base "is_int" ["thing"] 41 (sp1 K PyData.int (fun _ => True) (fun _ => .bool true))) : Cal P w K mg base "made" ["over", "under"] 42 (sp2 K PyData.int PyData.int (fun a => a.2 ≠ 0 ∧ a.1.natAbs < 2 ^ (2 * SZ + 1) ∧ a.2.natAbs < 2 ^ (2 * SZ + 1)) (fun a => encR (Rat.divInt a.1 a.2))) := by
  refine def_ok F sc_made (fun _ _ _ _ _ _ us hl => match us, hl with | [_, _], _ => rfl) (fun _ => rfl) (fun _ => rfl) fun cdv f A outer s H E hr a ha => ?_
  have hu := room_eq (k := 1) hr
  have hdv := room_div (k := 1) hr
  refine ⟨_, (pss_cons (ps_if (pw_or (pt_not (pt_val (pe_cal c_is_int (hr.mono (by decide)) (by rfl) (pa_cons (pv 0) pa_nil)))) (pw_or (pt_not (pt_val (pe_cal c_is_int (hr.mono (by decide)) (by rfl) (pa_cons (pv 1) pa_nil)))) (pw_or1 (pt_cmpR (op_eqD hu) (pv 1) pe_int (nomark _))))).pt pss_never pss_nil)
      (pss_cons (ps_set (i := 2) sc_made.nd rfl (by first | exact Or.inl rfl | exact Or.inr rfl) (pe_cal c_common_divisor (hr.mono (by decide)) (by rfl) (pa_cons (pv 0) (pa_cons (pv 1) pa_nil))))
      (pss_cons (ps_set (i := 3) sc_made.nd rfl (by first | exact Or.inl rfl | exact Or.inr rfl) (pe_ifExp (pt_cmpR op_gtS (pv 1) pe_int (nomark _)) pe_int (pe_un un_negS pe_int)))
      (pss_one (ps_ret (pe_tup (pa_cons (pe_op (op_divP M.seer M.tree hdv) (pe_op op_mulAny (pv 3) (pv 0)) (pv 2)) (pa_cons (pe_op (op_divP M.seer M.tree hdv) (pe_op op_mulAny (pv 3) (pv 1)) (pv 2)) pa_nil)))))))), fun D hD => ?_⟩
  have h0 : a.2 ≠ 0 := ha.1
  refine g_seq (g_no (et_or0 (et_not0 (et_B (ev_call1 a.1 (ev_var rfl) trivial))) (et_or0 (et_not0 (et_B (ev_call1 a.2 (ev_var rfl) trivial))) (et_test (ev_eq (b := false) (ev_var rfl) ev_int rfl rfl (by rw [eqv_int]; simpa using h0))))) (g_next ?_))
  refine g_seq (g_set (ev_call2 a.1 a.2 (ev_var rfl) (ev_var rfl) trivial) rfl ?_)
  refine g_seq (g_set (x := .int a.2.sign) (ev_if (b := decide (0 < a.2)) (et_test (ev_gt (ev_var rfl) ev_int)) (fun h => ev_int.to ?_) (fun h => (ev_ng ev_int).to ?_)) rfl ?_)
  · rw [Int.sign_eq_one_of_pos (by simpa using h)]
  · have h' : ¬ (0 < a.2) := by simpa using h
    rw [Int.sign_eq_neg_one_of_neg (by omega)]
  have hs : a.2.sign.natAbs < 2 ^ 1 := by
    rw [Int.natAbs_sign]
    split <;> omega
  have hz := SZ_eq
  have hg : (0 : Int) < (Int.gcd a.1 a.2 : Nat) := by
    have := Int.gcd_pos_of_ne_zero_right a.1 h0
    omega
  refine g_ret (x := encR (Rat.divInt a.1 a.2)) ((ev_tup (ea_cons (ev_divP (ev_mul (ev_var rfl) (ev_var rfl) (cmul_of hs ha.2.1 (by omega))) (ev_var rfl) hg) (ea_cons (ev_divP (ev_mul (ev_var rfl) (ev_var rfl) (cmul_of hs ha.2.2 (by omega))) (ev_var rfl) hg) ea_nil))).to ?_) hD
  show PyData.tuple [.int _, .int _] = PyData.tuple [.int _, .int _]
  rw [Rat.num_divInt, Rat.den_divInt, if_neg h0, Int.gcd_comm a.2 a.1, Int.natCast_ediv, ← Int.sign_mul_self]

theorem divInt_add (a b : Rat) : Rat.divInt (a.num * (b.den : Nat) + b.num * (a.den : Nat)) ((a.den : Int) * (b.den : Nat)) = a + b := by
  rw [Rat.add_def', Rat.mkRat_eq_div, Rat.divInt_eq_div]
  simp
  rfl
theorem divInt_sub (a b : Rat) : Rat.divInt (a.num * (b.den : Nat) - b.num * (a.den : Nat)) ((a.den : Int) * (b.den : Nat)) = a - b := by
  rw [Rat.sub_eq_add_neg, ← divInt_add a (-b), Rat.neg_num, Rat.neg_den, Int.neg_mul]
  rfl
theorem divInt_mul (a b : Rat) : Rat.divInt (a.num * b.num) ((a.den : Int) * (b.den : Nat)) = a * b := by
  rw [Rat.mul_def', Rat.mkRat_eq_div, Rat.divInt_eq_div]
  simp
  rfl
theorem num_den (a : Rat) : a * ((a.den : Int) : Rat) = (a.num : Rat) := by
  have h := Rat.num_divInt_den a
  rw [Rat.divInt_eq_div] at h
  have : ((a.den : Int) : Rat) ≠ 0 := by
    intro e
    have := congrArg Rat.num e
    rw [Rat.num_intCast] at this
    exact a.den_nz (by simpa using this)
  grind
theorem num_ne {b : Rat} (h : b ≠ 0) : b.num ≠ 0 := fun e => h (Rat.num_eq_zero.mp e)
theorem divInt_div (a b : Rat) (h : b ≠ 0) : Rat.divInt (a.num * (b.den : Nat)) ((a.den : Int) * b.num) = a / b := by
  have h1 := num_den a
  have h2 := num_den b
  have h3 : ((b.num : Int) : Rat) ≠ 0 := cast_ne (num_ne h)
  have h4 : (((b.den : Nat) : Int) : Rat) ≠ 0 := cast_ne (by have := b.den_nz; omega)
  have h5 : (((a.den : Nat) : Int) : Rat) ≠ 0 := cast_ne (by have := a.den_nz; omega)
  rw [Rat.divInt_eq_div, Rat.intCast_mul, Rat.intCast_mul]
  grind
section
variable {a b : Rat}
theorem sm_mul1 (ha : Sm a) (hb : Sm b) : (a.num * (b.den : Nat)).natAbs < 2 ^ (2 * SZ) := by
  rw [Int.natAbs_mul]
  exact lt_two (mul_two ha.1 (by simpa using hb.2)) (by omega)
theorem sm_mul2 (ha : Sm a) (hb : Sm b) : ((a.den : Int) * (b.den : Nat)).natAbs < 2 ^ (2 * SZ) := by
  rw [Int.natAbs_mul]
  exact lt_two (mul_two (by simpa using ha.2) (by simpa using hb.2)) (by omega)
theorem sm_mul3 (ha : Sm a) (hb : Sm b) : (a.num * b.num).natAbs < 2 ^ (2 * SZ) := by
  rw [Int.natAbs_mul]
  exact lt_two (mul_two ha.1 hb.1) (by omega)
theorem sm_mul4 (ha : Sm a) (hb : Sm b) : ((a.den : Int) * b.num).natAbs < 2 ^ (2 * SZ) := by
  rw [Int.mul_comm]
  exact sm_mul1 hb ha
theorem sm_c1 (ha : Sm a) (hb : Sm b) : CMulW a.num (b.den : Nat) := cmul_of (a := SZ) (b := SZ) ha.1 (by simpa using hb.2) (by rw [SZ_eq]; omega)
theorem sm_c2 (ha : Sm a) (hb : Sm b) : CMulW (a.den : Nat) (b.den : Nat) := cmul_of (a := SZ) (b := SZ) (by simpa using ha.2) (by simpa using hb.2) (by rw [SZ_eq]; omega)
theorem sm_c3 (ha : Sm a) (hb : Sm b) : CMulW a.num b.num := cmul_of (a := SZ) (b := SZ) ha.1 hb.1 (by rw [SZ_eq]; omega)
theorem sm_c4 (ha : Sm a) (hb : Sm b) : CMulW (a.den : Nat) b.num := cmul_of (a := SZ) (b := SZ) (by simpa using ha.2) hb.1 (by rw [SZ_eq]; omega)
theorem sm_plus (ha : Sm a) (hb : Sm b) : (a.num * (b.den : Nat) + b.num * (a.den : Nat)).natAbs < 2 ^ (2 * SZ + 1) :=
  Nat.lt_of_le_of_lt (Int.natAbs_add_le _ _) (add_two (sm_mul1 ha hb) (sm_mul1 hb ha))
theorem sm_minus (ha : Sm a) (hb : Sm b) : (a.num * (b.den : Nat) - b.num * (a.den : Nat)).natAbs < 2 ^ (2 * SZ + 1) :=
  Nat.lt_of_le_of_lt (Int.natAbs_sub_le _ _) (add_two (sm_mul1 ha hb) (sm_mul1 hb ha))
theorem den_ne2 : ((a.den : Int) * (b.den : Nat)) ≠ 0 := by
  have h1 := a.den_nz
  have h2 := b.den_nz
  exact Int.mul_ne_zero (by omega) (by omega)
theorem sm_up {n : Nat} (h : n < 2 ^ (2 * SZ)) : n < 2 ^ (2 * SZ + 1) := lt_two h (by omega)
end

abbrev s_plus : Stmt := topS 9
theorem sc_plus : FnScope ["one", "other"] ["one", "other"] (defScope s_plus) := ⟨rfl, rfl, rfl, by decide +kernel, rfl, by decide +kernel, by decide +kernel⟩
theorem ok_plus (M : Glb P K mg base) (F : Dfn K mg "plus" s_plus) (c_made : Cal P w K mg base "made" ["over", "under"] 42 (sp2 K PyData.int PyData.int (fun a => a.2 ≠ 0 ∧ a.1.natAbs < 2 ^ (2 * SZ + 1) ∧ a.2.natAbs < 2 ^ (2 * SZ + 1)) (fun a => encR (Rat.divInt a.1 a.2)))) : Cal P w K mg base "plus" ["one", "other"] 43 (sp2 K encR encR (fun a => Sm a.1 ∧ Sm a.2) (fun a => encR (a.1 + a.2))) := by
  refine def_ok F sc_plus (fun _ _ _ _ _ _ us hl => match us, hl with | [_, _], _ => rfl) (fun _ => rfl) (fun _ => rfl) fun cdv f A outer s H E hr a ha => ?_
  refine ⟨_, (pss_one (ps_ret (pe_cal c_made (hr.mono (by decide)) (by rfl) (pa_cons (pe_op op_addAny (pe_op op_mulAny (pe_ix ix_seq (pv 0) pe_int (fun _ _ => rfl)) (pe_ix ix_seq (pv 1) pe_int (fun _ _ => rfl))) (pe_op op_mulAny (pe_ix ix_seq (pv 1) pe_int (fun _ _ => rfl)) (pe_ix ix_seq (pv 0) pe_int (fun _ _ => rfl)))) (pa_cons (pe_op op_mulAny (pe_ix ix_seq (pv 0) pe_int (fun _ _ => rfl)) (pe_ix ix_seq (pv 1) pe_int (fun _ _ => rfl))) pa_nil))))), fun D hD => ?_⟩
  obtain ⟨h1, h2⟩ := ha
  refine g_ret ((ev_call2 _ _ (ev_add (ev_mul (ev_num (ev_var rfl) ev_int) (ev_den (ev_var rfl) ev_int) (sm_c1 h1 h2)) (ev_mul (ev_num (ev_var rfl) ev_int) (ev_den (ev_var rfl) ev_int) (sm_c1 h2 h1))) (ev_mul (ev_den (ev_var rfl) ev_int) (ev_den (ev_var rfl) ev_int) (sm_c2 h1 h2)) ⟨den_ne2, sm_plus h1 h2, sm_up (sm_mul2 h1 h2)⟩).to ?_) hD
  exact congrArg encR (divInt_add _ _)

abbrev s_minus : Stmt := topS 10
theorem sc_minus : FnScope ["one", "other"] ["one", "other"] (defScope s_minus) := ⟨rfl, rfl, rfl, by decide +kernel, rfl, by decide +kernel, by decide +kernel⟩
theorem ok_minus (M : Glb P K mg base) (F : Dfn K mg "minus" s_minus) (c_made : Cal P w K mg base "made" ["over", "under"] 42 (sp2 K PyData.int PyData.int (fun a => a.2 ≠ 0 ∧ a.1.natAbs < 2 ^ (2 * SZ + 1) ∧ a.2.natAbs < 2 ^ (2 * SZ + 1)) (fun a => encR (Rat.divInt a.1 a.2)))) : Cal P w K mg base "minus" ["one", "other"] 43 (sp2 K encR encR (fun a => Sm a.1 ∧ Sm a.2) (fun a => encR (a.1 - a.2))) := by
  refine def_ok F sc_minus (fun _ _ _ _ _ _ us hl => match us, hl with | [_, _], _ => rfl) (fun _ => rfl) (fun _ => rfl) fun cdv f A outer s H E hr a ha => ?_
  refine ⟨_, (pss_one (ps_ret (pe_cal c_made (hr.mono (by decide)) (by rfl) (pa_cons (pe_op op_subS (pe_op op_mulAny (pe_ix ix_seq (pv 0) pe_int (fun _ _ => rfl)) (pe_ix ix_seq (pv 1) pe_int (fun _ _ => rfl))) (pe_op op_mulAny (pe_ix ix_seq (pv 1) pe_int (fun _ _ => rfl)) (pe_ix ix_seq (pv 0) pe_int (fun _ _ => rfl)))) (pa_cons (pe_op op_mulAny (pe_ix ix_seq (pv 0) pe_int (fun _ _ => rfl)) (pe_ix ix_seq (pv 1) pe_int (fun _ _ => rfl))) pa_nil))))), fun D hD => ?_⟩
  obtain ⟨h1, h2⟩ := ha
  refine g_ret ((ev_call2 _ _ (ev_sub (ev_mul (ev_num (ev_var rfl) ev_int) (ev_den (ev_var rfl) ev_int) (sm_c1 h1 h2)) (ev_mul (ev_num (ev_var rfl) ev_int) (ev_den (ev_var rfl) ev_int) (sm_c1 h2 h1))) (ev_mul (ev_den (ev_var rfl) ev_int) (ev_den (ev_var rfl) ev_int) (sm_c2 h1 h2)) ⟨den_ne2, sm_minus h1 h2, sm_up (sm_mul2 h1 h2)⟩).to ?_) hD
  exact congrArg encR (divInt_sub _ _)

abbrev s_times : Stmt := topS 11
theorem sc_times : FnScope ["one", "other"] ["one", "other"] (defScope s_times) := ⟨rfl, rfl, rfl, by decide +kernel, rfl, by decide +kernel, by decide +kernel⟩
theorem ok_times (M : Glb P K mg base) (F : Dfn K mg "times" s_times) (c_made : Cal P w K mg base "made" ["over", "under"] 42 (sp2 K PyData.int PyData.int (fun a => a.2 ≠ 0 ∧ a.1.natAbs < 2 ^ (2 * SZ + 1) ∧ a.2.natAbs < 2 ^ (2 * SZ + 1)) (fun a => encR (Rat.divInt a.1 a.2)))) : Cal P w K mg base "times" ["one", "other"] 43 (sp2 K encR encR (fun a => Sm a.1 ∧ Sm a.2) (fun a => encR (a.1 * a.2))) := by
  refine def_ok F sc_times (fun _ _ _ _ _ _ us hl => match us, hl with | [_, _], _ => rfl) (fun _ => rfl) (fun _ => rfl) fun cdv f A outer s H E hr a ha => ?_
  refine ⟨_, (pss_one (ps_ret (pe_cal c_made (hr.mono (by decide)) (by rfl) (pa_cons (pe_op op_mulAny (pe_ix ix_seq (pv 0) pe_int (fun _ _ => rfl)) (pe_ix ix_seq (pv 1) pe_int (fun _ _ => rfl))) (pa_cons (pe_op op_mulAny (pe_ix ix_seq (pv 0) pe_int (fun _ _ => rfl)) (pe_ix ix_seq (pv 1) pe_int (fun _ _ => rfl))) pa_nil))))), fun D hD => ?_⟩
  obtain ⟨h1, h2⟩ := ha
  refine g_ret ((ev_call2 _ _ (ev_mul (ev_num (ev_var rfl) ev_int) (ev_num (ev_var rfl) ev_int) (sm_c3 h1 h2)) (ev_mul (ev_den (ev_var rfl) ev_int) (ev_den (ev_var rfl) ev_int) (sm_c2 h1 h2)) ⟨den_ne2, sm_up (sm_mul3 h1 h2), sm_up (sm_mul2 h1 h2)⟩).to ?_) hD
  exact congrArg encR (divInt_mul _ _)

abbrev s_over_by : Stmt := topS 12
theorem sc_over_by : FnScope ["one", "other"] ["one", "other"] (defScope s_over_by) := ⟨rfl, rfl, rfl, by decide +kernel, rfl, by decide +kernel, by decide +kernel⟩
theorem ok_over_by (M : Glb P K mg base) (F : Dfn K mg "over_by" s_over_by) (c_made : Cal P w K mg base "made" ["over", "under"] 42 (sp2 K PyData.int PyData.int (fun a => a.2 ≠ 0 ∧ a.1.natAbs < 2 ^ (2 * SZ + 1) ∧ a.2.natAbs < 2 ^ (2 * SZ + 1)) (fun a => encR (Rat.divInt a.1 a.2)))) : Cal P w K mg base "over_by" ["one", "other"] 43 (sp2 K encR encR (fun a => Sm a.1 ∧ Sm a.2 ∧ a.2 ≠ 0) (fun a => encR (a.1 / a.2))) := by
  refine def_ok F sc_over_by (fun _ _ _ _ _ _ us hl => match us, hl with | [_, _], _ => rfl) (fun _ => rfl) (fun _ => rfl) fun cdv f A outer s H E hr a ha => ?_
  refine ⟨_, (pss_one (ps_ret (pe_cal c_made (hr.mono (by decide)) (by rfl) (pa_cons (pe_op op_mulAny (pe_ix ix_seq (pv 0) pe_int (fun _ _ => rfl)) (pe_ix ix_seq (pv 1) pe_int (fun _ _ => rfl))) (pa_cons (pe_op op_mulAny (pe_ix ix_seq (pv 0) pe_int (fun _ _ => rfl)) (pe_ix ix_seq (pv 1) pe_int (fun _ _ => rfl))) pa_nil))))), fun D hD => ?_⟩
  obtain ⟨h1, h2, h3⟩ := ha
  have h4 : ((a.1.den : Int) * a.2.num) ≠ 0 := by
    have := a.1.den_nz
    exact Int.mul_ne_zero (by omega) (num_ne h3)
  refine g_ret ((ev_call2 _ _ (ev_mul (ev_num (ev_var rfl) ev_int) (ev_den (ev_var rfl) ev_int) (sm_c1 h1 h2)) (ev_mul (ev_den (ev_var rfl) ev_int) (ev_num (ev_var rfl) ev_int) (sm_c4 h1 h2)) ⟨h4, sm_up (sm_mul1 h1 h2), sm_up (sm_mul4 h1 h2)⟩).to ?_) hD
  exact congrArg encR (divInt_div _ _ h3)

abbrev s_is_integer : Stmt := topS 14
theorem sc_is_integer : FnScope ["thing"] ["thing"] (defScope s_is_integer) := ⟨rfl, rfl, rfl, by decide +kernel, rfl, by decide +kernel, by decide +kernel⟩
theorem ok_is_integer (M : Glb P K mg base) (F : Dfn K mg "is_integer" s_is_integer) (c_is_int : Cal P w K mg base "is_int" ["thing"] 41 (sp1 K PyData.int (fun _ => True) (fun _ => .bool true))) : Cal P w K mg base "is_integer" ["thing"] 42 (sp1 K PyData.int (fun _ => True) (fun _ => .bool true)) := by
  refine def_ok F sc_is_integer (fun _ _ _ _ _ _ us hl => match us, hl with | [_], _ => rfl) (fun _ => rfl) (fun _ => rfl) fun cdv f A outer s H E hr a ha => ?_
  refine ⟨_, (pss_one (ps_ret (pe_cal c_is_int (hr.mono (by decide)) (by rfl) (pa_cons (pv 0) pa_nil)))), fun D hD => ?_⟩
  exact g_ret (ev_call1 a (ev_var rfl) trivial) hD

abbrev s_is_count : Stmt := topS 15
theorem sc_is_count : FnScope ["thing"] ["thing"] (defScope s_is_count) := ⟨rfl, rfl, rfl, by decide +kernel, rfl, by decide +kernel, by decide +kernel⟩
theorem ok_is_count (M : Glb P K mg base) (F : Dfn K mg "is_count" s_is_count) (c_is_int : Cal P w K mg base "is_int" ["thing"] 41 (sp1 K PyData.int (fun _ => True) (fun _ => .bool true))) : Cal P w K mg base "is_count" ["thing"] 42 (sp1 K PyData.int (fun a => 0 ≤ a) (fun _ => .bool true)) := by
  refine def_ok F sc_is_count (fun _ _ _ _ _ _ us hl => match us, hl with | [_], _ => rfl) (fun _ => rfl) (fun _ => rfl) fun cdv f A outer s H E hr a ha => ?_
  refine ⟨_, (pss_one (ps_ret (pe_and (pe_cal c_is_int (hr.mono (by decide)) (by rfl) (pa_cons (pv 0) pa_nil)) (pe_one (pe_cmpR op_geS (pv 0) pe_int (nomark _)))))), fun D hD => ?_⟩
  exact g_ret (x := .bool true) ((ev_andV (ev_call1 a (ev_var rfl) trivial) fun _ => ev_ge (ev_var rfl) ev_int).to (by simpa using ha)) hD

end
end Sw
namespace Sw
open PySem PySem.Spec L2
open PyProof.Rows hiding St
abbrev encL (p : List Rat) : PyData := .list (p.map encR)
theorem ixN_of {n : Nat} {i : Int} {k : Nat} (e : i = (k : Int)) (h : k < n) : ixN n i = some k := by
  subst e
  exact ix_nat h
theorem atI_nat {xs : List PyData} {i : Int} {k : Nat} {d : PyData} (e : i = (k : Int)) (h : xs[k]? = some d) : atI xs i = some d := by
  unfold atI
  rw [ixN_of e (List.getElem?_eq_some_iff.mp h).1]
  exact h
theorem enc_get {p : List Rat} {k : Nat} (h : k < p.length) : (p.map encR)[k]? = some (encR (cf p k)) := by
  rw [List.getElem?_map, get_cf h]; rfl
theorem atI_enc {p : List Rat} {i : Int} {k : Nat} (e : i = (k : Int)) (h : k < p.length) : atI (p.map encR) i = some (encR (cf p k)) := atI_nat e (enc_get h)
theorem atI_last {xs : List PyData} {d : PyData} (h : xs[xs.length - 1]? = some d) : atI xs (-1) = some d := by
  have hl := (List.getElem?_eq_some_iff.mp h).1
  unfold atI ixN
  rw [if_neg (by omega), if_pos (by omega)]
  show xs[((-1 : Int) + (xs.length : Int)).toNat]? = _
  rw [show ((-1 : Int) + (xs.length : Int)).toNat = xs.length - 1 by omega]
  exact h
theorem atI_encl {p : List Rat} (h : p ≠ []) : atI (p.map encR) (-1) = some (encR (cf p (p.length - 1))) := by
  have := List.length_pos_iff.mpr h
  refine atI_last ?_
  rw [List.length_map]
  exact enc_get (by omega)
theorem enum_enc {p : List Rat} {i : Nat} {d : PyData} (h : (enumD (p.map encR))[i]? = some d) : i < p.length ∧ d = .tuple [.int (i : Nat), encR (cf p i)] := by
  obtain ⟨x, h1, rfl⟩ := enumD_get' h
  have hl := (List.getElem?_eq_some_iff.mp h1).1
  rw [List.length_map] at hl
  rw [enc_get hl] at h1
  cases h1
  exact ⟨hl, rfl⟩
theorem enc_get' {p : List Rat} {i : Nat} {d : PyData} (h : (p.map encR)[i]? = some d) : i < p.length ∧ d = encR (cf p i) := by
  have hl := (List.getElem?_eq_some_iff.mp h).1
  rw [List.length_map] at hl
  rw [enc_get hl] at h
  exact ⟨hl, (Option.some.inj h).symm⟩
theorem eqv_nil (p : List Rat) : PyData.eqv (encP p) (.tuple []) = decide (p = []) := eqv_encP p []
theorem shs_encR : ∀ p : List Rat, (p.map encR).all SeqAt.shaped = true := fun p => by
  rw [List.all_map]
  exact List.all_eq_true.mpr fun x _ => rfl
theorem sm_neg {a : Rat} (h : Sm a) : Sm (-a) := by
  unfold Sm at *
  rw [Rat.neg_num, Rat.neg_den, Int.natAbs_neg]
  exact h
theorem neg_enc (a : Rat) : PyData.tuple [.int (-a.num), .int (a.den : Nat)] = encR (-a) := by
  show _ = PyData.tuple [.int (-a).num, .int ((-a).den : Nat)]
  rw [Rat.neg_num, Rat.neg_den]
section
variable {P : Program} {w : World} {K : Fg} {mg : Str → Option Value} {base : Heap}

abbrev s_trimmed : Stmt := topS 19
theorem sc_trimmed : FnScope ["terms", "many"] ["terms"] (defScope s_trimmed) := ⟨rfl, rfl, rfl, by decide +kernel, rfl, by decide +kernel, by decide +kernel⟩
theorem ok_trimmed (M : Glb P K mg base) (F : Dfn K mg "trimmed" s_trimmed) : Cal P w K mg base "trimmed" ["terms"] 41 (sp1 K encL (fun p => p.length ≤ 1000) (fun p => encP (trim p))) := by
  refine def_okR F sc_trimmed (fun _ _ _ _ _ _ us hl => match us, hl with | [_], _ => rfl) (fun _ => rfl) fun cdv f A outer s H E hr a ha => ?_
  have hu := room_eq (k := 0) hr
  refine ⟨_, (pss_cons (ps_set (i := 1) sc_trimmed.nd rfl (by first | exact Or.inl rfl | exact Or.inr rfl) (pe_callB call_lenS (by rfl) M.g_len boot_len (pa_cons (pv 0) pa_nil)))
      (pss_cons (ps_while PassesOwn.never (pw_and (pt_cmpR op_gtS (pv 1) pe_int (nomark _)) (pw_and1 (pt_cmpR (op_eqD hu) (pe_ix ix_seq (pv 0) (pe_op op_subS (pv 1) pe_int) (fun _ _ => rfl)) (pe_kon (by rfl) M.k_NIL) (nomark _)))).pt (pss_one (ps_aug (i := 1) sc_trimmed.nd rfl (by first | exact Or.inl rfl | exact Or.inr rfl) pe_int ip_sub)))
      (pss_one (ps_ret (pe_callTy call_tupS (by rfl) M.g_tuple boot_tuple (pa_cons (pe_slice sl_any (pv 0) po_none (po_some (pv 1))) pa_nil)))))), fun D hD => ?_⟩
  have hlen : EvE K H [] [.r (encL a), .u] (tCB (rLen K) (tCons (tVar 0) tNil)) (.int (a.length : Nat)) := (ev_cb (ea_cons (ev_var rfl) ea_nil) rc_lenL).to (by rw [List.length_map])
  refine g_seq (g_set (x := .int (a.length : Nat)) hlen rfl ?_)
  refine g_seq (g_while (fun m : Nat => [.r (encL a), .d (.int m)]) (fun m => m ≤ a.length ∧ trim (a.take m) = trim a) (fun m => decide (0 < m) && decide (cf a (m - 1) = 0)) (fun m => m - 1) (fun m => m) a.length (LeG.refl _) ⟨Nat.le_refl _, by rw [List.take_length]⟩
    (fun m hm => et_and ((et_test (ev_gt (a := (m : Int)) (b := 0) (ev_var rfl) ev_int)).to (by simp)) fun h => et_test (ev_eq (ev_ixL (ev_var rfl) (ev_sub (a := (m : Int)) (b := 1) (ev_var rfl) ev_int) (atI_enc (p := a) (k := m - 1) (by have := of_decide_eq_true h; omega) (by have := of_decide_eq_true h; omega))) ev_kon rfl rfl (eqv_encR _ _))) (fun m hm hc => ?_) (fun m hm hc => ?_))
  · have hc' : 0 < m ∧ cf a (m - 1) = 0 := by simpa using hc
    refine ⟨⟨by omega, ?_⟩, by omega, g_aug (a := (m : Int)) (b := 1) rfl ev_int (fun σ H o => ?_)⟩
    · rw [← hm.2]
      have : a.take m = a.take (m - 1) ++ [0] := by
        have := take_cf (q := a) (j := m - 1) (by omega)
        rw [show m - 1 + 1 = m by omega, hc'.2] at this
        exact this
      rw [this, trim_snoc0]
    · have e : ((m : Int) - 1) = ((m - 1 : Nat) : Int) := by omega
      have o' := o
      simp only [List.set] at o'
      rw [e] at o'
      exact o'
  · refine g_ret ((ev_cb (ea_cons (ev_of (el_slL (ev_var rfl) eo_none (eo_some (ev_var rfl)))) ea_nil) rc_tupL).to ?_) hD
    rw [cut_to, ← List.map_take, ← hm.2]
    by_cases h0 : m = 0
    · subst h0; rfl
    · have h1 : cf a (m - 1) ≠ 0 := by
        intro e
        simp [e] at hc
        omega
      have : a.take m = a.take (m - 1) ++ [cf a (m - 1)] := by
        have := take_cf (q := a) (j := m - 1) (by omega)
        rw [show m - 1 + 1 = m by omega] at this
        exact this
      rw [this, trim_snoc h1]

abbrev s_term : Stmt := topS 20
theorem sc_term : FnScope ["poly", "power"] ["poly", "power"] (defScope s_term) := ⟨rfl, rfl, rfl, by decide +kernel, rfl, by decide +kernel, by decide +kernel⟩
theorem ok_term (M : Glb P K mg base) (F : Dfn K mg "term" s_term) : Cal P w K mg base "term" ["poly", "power"] 41 (sp2 K encP (fun k : Nat => .int k) (fun _ => True) (fun a => encR (cf a.1 a.2))) := by
  refine def_ok F sc_term (fun _ _ _ _ _ _ us hl => match us, hl with | [_, _], _ => rfl) (fun _ => rfl) (fun a => prs_cons (pr_encP a.1) rfl) fun cdv f A outer s H E hr a ha => ?_
  refine ⟨_, (pss_one (ps_ret (pe_ifExp (pt_chain op_leS op_ltS pe_int (pv 1) (pe_callB call_lenS (by rfl) M.g_len boot_len (pa_cons (pv 0) pa_nil))) (pe_ix ix_seq (pv 0) (pv 1) (fun _ _ => rfl)) (pe_kon (by rfl) M.k_NIL)))), fun D hD => ?_⟩
  refine g_ret (ev_if (b := decide (a.2 < a.1.length)) (et_test ((ev_chain (a := true) (b := decide (a.2 < a.1.length)) ev_int (ev_var rfl) ((rd_B0 (g := fun i j => decide (i ≤ j))).to (by simp)) (fun _ => (ev_cb (ea_cons (ev_var rfl) ea_nil) rc_lenT).to (by rw [List.length_map])) fun _ => (rd_B0 (g := fun i j => decide (i < j))).to (by simp)).to (by simp)))
    (fun h => ev_ixT (ev_var rfl) (ev_var rfl) (atI_enc rfl (by simpa using h))) fun h => ev_kon.to ?_) hD
  rw [cf_ge (by simpa using h)]

abbrev s_opposite : Stmt := topS 21
theorem sc_opposite : FnScope ["poly", "over", "under"] ["poly"] (defScope s_opposite) := ⟨rfl, rfl, rfl, by decide +kernel, rfl, by decide +kernel, by decide +kernel⟩
theorem ok_opposite (M : Glb P K mg base) (F : Dfn K mg "opposite" s_opposite) : Cal P w K mg base "opposite" ["poly"] 41 (sp1 K encP (fun p => p.length ≤ 1000) (fun p => encP (pneg p))) := by
  refine def_ok F sc_opposite (fun _ _ _ _ _ _ us hl => match us, hl with | [_], _ => rfl) (fun _ => rfl) (fun a => prs_cons (pr_encP a) rfl) fun cdv f A outer s H E hr a ha => ?_
  refine ⟨_, (pss_one (ps_ret (pe_callTy call_tupS (by rfl) M.g_tuple boot_tuple (pa_cons (pe_lc (own := [("over", 1), ("under", 2)]) rfl sc_opposite.nd (pi_tup (pv 0)) (blkOk_by (N := ["poly", "over", "under"]) (sc := defScope s_opposite) (by decide +kernel)) (fun _ _ _ _ _ => (pg_tupB (n := 2) (pgs_cons (pg_name (i := 1) sc_opposite.nd rfl (by first | exact Or.inl rfl | exact Or.inr rfl)) (pgs_cons (pg_name (i := 2) sc_opposite.nd rfl (by first | exact Or.inl rfl | exact Or.inr rfl)) pgs_nil)))) (fun _ _ _ _ _ => pts_nil) (fun _ _ _ _ _ => (pe_tup (pa_cons (pe_un un_negS (pv 1)) (pa_cons (pv 2) pa_nil))))) pa_nil)))), fun D hD => ?_⟩
  refine g_ret (ev_cb (ea_cons (ev_of (el_lc ((pneg a).map encR) (ec_tup (ev_var rfl)) (by simp [pneg_len]) (by rw [List.length_map]; omega) (prs_encR _) fun i d y hd hy => ?_)) ea_nil) rc_tupL) hD
  obtain ⟨h1, rfl⟩ := enc_get' hd
  obtain ⟨h2, rfl⟩ := enc_get' hy
  refine ⟨_, tg_tup2 rfl rfl (by simp) (by simp), (ev_tup (ea_cons (ev_ng (ev_var rfl)) (ea_cons (ev_var rfl) ea_nil))).to ?_⟩
  rw [cf_pneg]
  exact neg_enc _

abbrev s_poly_plus : Stmt := topS 22
theorem sc_poly_plus : FnScope ["one", "other", "many", "power"] ["one", "other"] (defScope s_poly_plus) := ⟨rfl, rfl, rfl, by decide +kernel, rfl, by decide +kernel, by decide +kernel⟩
theorem ok_poly_plus (M : Glb P K mg base) (F : Dfn K mg "poly_plus" s_poly_plus) (c_trimmed : Cal P w K mg base "trimmed" ["terms"] 41 (sp1 K encL (fun p => p.length ≤ 1000) (fun p => encP (trim p)))) (c_plus : Cal P w K mg base "plus" ["one", "other"] 43 (sp2 K encR encR (fun a => Sm a.1 ∧ Sm a.2) (fun a => encR (a.1 + a.2)))) (c_term : Cal P w K mg base "term" ["poly", "power"] 41 (sp2 K encP (fun k : Nat => .int k) (fun _ => True) (fun a => encR (cf a.1 a.2)))) : Cal P w K mg base "poly_plus" ["one", "other"] 44 (sp2 K encP encP (fun a => a.1.length ≤ 1000 ∧ a.2.length ≤ 1000 ∧ (∀ i, Sm (cf a.1 i)) ∧ ∀ i, Sm (cf a.2 i)) (fun a => encP (pplus a.1 a.2))) := by
  refine def_ok F sc_poly_plus (fun _ _ _ _ _ _ us hl => match us, hl with | [_, _], _ => rfl) (fun _ => rfl) (fun a => prs_cons (pr_encP a.1) (prs_cons (pr_encP a.2) rfl)) fun cdv f A outer s H E hr a ha => ?_
  refine ⟨_, (pss_cons (ps_set (i := 2) sc_poly_plus.nd rfl (by first | exact Or.inl rfl | exact Or.inr rfl) (pe_callB (call_max2S rfl) (by rfl) M.g_max boot_max (pa_cons (pe_callB call_lenS (by rfl) M.g_len boot_len (pa_cons (pv 0) pa_nil)) (pa_cons (pe_callB call_lenS (by rfl) M.g_len boot_len (pa_cons (pv 1) pa_nil)) pa_nil))))
      (pss_one (ps_ret (pe_cal c_trimmed (hr.mono (by decide)) (by rfl) (pa_cons (pe_lc (own := [("power", 3)]) rfl sc_poly_plus.nd (pi_range1 (by rfl) M.g_range (pa_cons (pv 2) pa_nil)) (blkOk_by (N := ["one", "other", "many", "power"]) (sc := defScope s_poly_plus) (by decide +kernel)) (fun _ _ _ _ _ => (pg_name (i := 3) sc_poly_plus.nd rfl (by first | exact Or.inl rfl | exact Or.inr rfl))) (fun _ _ _ _ _ => pts_nil) (fun _ _ _ _ _ => (pe_cal c_plus (hr.mono (by decide)) (by rfl) (pa_cons (pe_cal c_term (hr.mono (by decide)) (by rfl) (pa_cons (pv 0) (pa_cons (pv 3) pa_nil))) (pa_cons (pe_cal c_term (hr.mono (by decide)) (by rfl) (pa_cons (pv 1) (pa_cons (pv 3) pa_nil))) pa_nil))))) pa_nil))))), fun D hD => ?_⟩
  obtain ⟨l1, l2, h1, h2⟩ := ha
  refine q_set (x := .int (max a.1.length a.2.length : Nat)) ((ev_cb (ea_cons (ev_cb (ea_cons (ev_var rfl) ea_nil) rc_lenT) (ea_cons (ev_cb (ea_cons (ev_var rfl) ea_nil) rc_lenT) ea_nil)) rc_max2).to (by rw [List.length_map, List.length_map]; congr 1; omega)) rfl ?_
  have hl : ((List.range (max a.1.length a.2.length)).map fun i => cf a.1 i + cf a.2 i).length ≤ 1000 := by rw [List.length_map, List.length_range]; omega
  refine g_ret (x := encP (pplus a.1 a.2)) ?_ hD
  refine ev_call1 ((List.range (max a.1.length a.2.length)).map fun i => cf a.1 i + cf a.2 i) ((ev_of (el_lc (((List.range (max a.1.length a.2.length)).map fun i => cf a.1 i + cf a.2 i).map encR) (ei_range1 (n := (max a.1.length a.2.length : Nat)) (ea_cons (ev_var rfl) ea_nil) (by omega)).toC (by simp [intR_len]) (by rw [intR_len]; omega) (prs_encR _) fun i d y hd hy => ?_))) hl
  obtain ⟨rfl, hi⟩ := intR_get' hd
  obtain ⟨h3, rfl⟩ := enc_get' hy
  rw [cf_range, if_pos (by omega)]
  refine ⟨_, tg_name rfl (by simp), ev_call2 _ _ (ev_call2 _ i (ev_var rfl) ((ev_var rfl).to (by congr 1; omega)) trivial) (ev_call2 _ i (ev_var rfl) ((ev_var rfl).to (by congr 1; omega)) trivial) ⟨h1 i, h2 i⟩⟩

abbrev s_poly_minus : Stmt := topS 23
theorem sc_poly_minus : FnScope ["one", "other"] ["one", "other"] (defScope s_poly_minus) := ⟨rfl, rfl, rfl, by decide +kernel, rfl, by decide +kernel, by decide +kernel⟩
theorem ok_poly_minus (M : Glb P K mg base) (F : Dfn K mg "poly_minus" s_poly_minus) (c_poly_plus : Cal P w K mg base "poly_plus" ["one", "other"] 44 (sp2 K encP encP (fun a => a.1.length ≤ 1000 ∧ a.2.length ≤ 1000 ∧ (∀ i, Sm (cf a.1 i)) ∧ ∀ i, Sm (cf a.2 i)) (fun a => encP (pplus a.1 a.2)))) (c_opposite : Cal P w K mg base "opposite" ["poly"] 41 (sp1 K encP (fun p => p.length ≤ 1000) (fun p => encP (pneg p)))) : Cal P w K mg base "poly_minus" ["one", "other"] 45 (sp2 K encP encP (fun a => a.1.length ≤ 1000 ∧ a.2.length ≤ 1000 ∧ (∀ i, Sm (cf a.1 i)) ∧ ∀ i, Sm (cf a.2 i)) (fun a => encP (pplus a.1 (pneg a.2)))) := by
  refine def_ok F sc_poly_minus (fun _ _ _ _ _ _ us hl => match us, hl with | [_, _], _ => rfl) (fun _ => rfl) (fun a => prs_cons (pr_encP a.1) (prs_cons (pr_encP a.2) rfl)) fun cdv f A outer s H E hr a ha => ?_
  refine ⟨_, (pss_one (ps_ret (pe_cal c_poly_plus (hr.mono (by decide)) (by rfl) (pa_cons (pv 0) (pa_cons (pe_cal c_opposite (hr.mono (by decide)) (by rfl) (pa_cons (pv 1) pa_nil)) pa_nil))))), fun D hD => ?_⟩
  obtain ⟨l1, l2, h1, h2⟩ := ha
  exact g_ret (ev_call2 _ _ (ev_var rfl) (ev_call1 _ (ev_var rfl) l2) ⟨l1, by rw [pneg_len]; exact l2, h1, fun i => by rw [cf_pneg]; exact sm_neg (h2 i)⟩) hD

abbrev s_scaled : Stmt := topS 24
theorem sc_scaled : FnScope ["poly", "fraction", "one"] ["poly", "fraction"] (defScope s_scaled) := ⟨rfl, rfl, rfl, by decide +kernel, rfl, by decide +kernel, by decide +kernel⟩
theorem ok_scaled (M : Glb P K mg base) (F : Dfn K mg "scaled" s_scaled) (c_times : Cal P w K mg base "times" ["one", "other"] 43 (sp2 K encR encR (fun a => Sm a.1 ∧ Sm a.2) (fun a => encR (a.1 * a.2)))) : Cal P w K mg base "scaled" ["poly", "fraction"] 44 (sp2 K encP encR (fun a => a.1.length ≤ 1000 ∧ (∀ i, Sm (cf a.1 i)) ∧ Sm a.2) (fun a => encP (pscal a.1 a.2))) := by
  refine def_ok F sc_scaled (fun _ _ _ _ _ _ us hl => match us, hl with | [_, _], _ => rfl) (fun _ => rfl) (fun a => prs_cons (pr_encP a.1) rfl) fun cdv f A outer s H E hr a ha => ?_
  have hu := room_eq (k := 3) hr
  refine ⟨_, (pss_one (ps_ret (pe_ifExp (pt_cmpR (op_eqD hu) (pv 1) (pe_kon (by rfl) M.k_NIL) (nomark _)) (pe_tup pa_nil) (pe_callTy call_tupS (by rfl) M.g_tuple boot_tuple (pa_cons (pe_lc (own := [("one", 2)]) rfl sc_scaled.nd (pi_tup (pv 0)) (blkOk_by (N := ["poly", "fraction", "one"]) (sc := defScope s_scaled) (by decide +kernel)) (fun _ _ _ _ _ => (pg_name (i := 2) sc_scaled.nd rfl (by first | exact Or.inl rfl | exact Or.inr rfl))) (fun _ _ _ _ _ => pts_nil) (fun _ _ _ _ _ => (pe_cal c_times (hr.mono (by decide)) (by rfl) (pa_cons (pv 2) (pa_cons (pv 1) pa_nil))))) pa_nil))))), fun D hD => ?_⟩
  obtain ⟨l1, h1, h2⟩ := ha
  refine g_ret (ev_if (b := decide (a.2 = 0)) (et_test (ev_eq (ev_var rfl) ev_kon rfl rfl (eqv_encR _ _))) (fun h => (ev_tup ea_nil).to ?_) fun h => (ev_cb (ea_cons (ev_of (el_lc ((psc a.2 a.1).map encR) (ec_tup (ev_var rfl)) (by simp [psc_len]) (by rw [List.length_map]; omega) (prs_encR _) fun i d y hd hy => ?_)) ea_nil) rc_tupL).to ?_) hD
  · have h' : a.2 = 0 := by simpa using h
    show _ = encP (pscal a.1 a.2)
    rw [pscal, if_pos h']; rfl
  · obtain ⟨h3, rfl⟩ := enc_get' hd
    obtain ⟨h4, rfl⟩ := enc_get' hy
    refine ⟨_, tg_name rfl (by simp), (ev_call2 _ _ (ev_var rfl) (ev_var rfl) ⟨h1 _, h2⟩).to ?_⟩
    rw [cf_psc, Rat.mul_comm]
  · have h' : a.2 ≠ 0 := by simpa using h
    show _ = encP (pscal a.1 a.2)
    rw [pscal, if_neg h']

theorem tupE {xs : List PyData} {a b : PyData} (h : xs = [a, b]) : PyData.tuple xs = .tuple [a, b] := by rw [h]

abbrev s_poly_times : Stmt := topS 25
theorem sc_poly_times : FnScope ["one", "other", "found", "at", "mine", "place", "its"] ["one", "other"] (defScope s_poly_times) := ⟨rfl, rfl, rfl, by decide +kernel, rfl, by decide +kernel, by decide +kernel⟩
theorem ok_poly_times (M : Glb P K mg base) (F : Dfn K mg "poly_times" s_poly_times) (c_trimmed : Cal P w K mg base "trimmed" ["terms"] 41 (sp1 K encL (fun p => p.length ≤ 1000) (fun p => encP (trim p)))) (c_plus : Cal P w K mg base "plus" ["one", "other"] 43 (sp2 K encR encR (fun a => Sm a.1 ∧ Sm a.2) (fun a => encR (a.1 + a.2)))) (c_times : Cal P w K mg base "times" ["one", "other"] 43 (sp2 K encR encR (fun a => Sm a.1 ∧ Sm a.2) (fun a => encR (a.1 * a.2)))) : Cal P w K mg base "poly_times" ["one", "other"] 44 (sp2 K encP encP (fun a => MuOk a.1 a.2) (fun a => encP (pmul a.1 a.2))) := by
  refine def_ok F sc_poly_times (fun _ _ _ _ _ _ us hl => match us, hl with | [_, _], _ => rfl) (fun _ => rfl) (fun a => prs_cons (pr_encP a.1) (prs_cons (pr_encP a.2) rfl)) fun cdv f A outer s H E hr a ha => ?_
  have hu := room_eq (k := 3) hr
  refine ⟨_, (pss_cons (ps_if (pw_or (pt_cmpR (op_eqD hu) (pv 0) (pe_tup pa_nil) (nomark _)) (pw_or1 (pt_cmpR (op_eqD hu) (pv 1) (pe_tup pa_nil) (nomark _)))).pt (pss_one (ps_ret (pe_tup pa_nil))) pss_nil)
      (pss_cons (ps_set (i := 2) sc_poly_times.nd rfl (by first | exact Or.inl rfl | exact Or.inr rfl) (pe_op op_mulAny (pe_lst (pa_cons (pe_kon (by rfl) M.k_NIL) pa_nil)) (pe_op op_subS (pe_op op_addAny (pe_callB call_lenS (by rfl) M.g_len boot_len (pa_cons (pv 0) pa_nil)) (pe_callB call_lenS (by rfl) M.g_len boot_len (pa_cons (pv 1) pa_nil))) pe_int)))
      (pss_cons (ps_for PassesOwn.never rfl (pi_enumT (by rfl) M.g_enumerate (pa_cons (pv 0) pa_nil)) (pg_tup (by rfl) (pgs_cons (pg_name (i := 3) sc_poly_times.nd rfl (by first | exact Or.inl rfl | exact Or.inr rfl)) (pgs_cons (pg_name (i := 4) sc_poly_times.nd rfl (by first | exact Or.inl rfl | exact Or.inr rfl)) pgs_nil))) (pss_one (ps_if (pt_cmpR (op_neD hu) (pv 4) (pe_kon (by rfl) M.k_NIL) (nomark _)) (pss_one (ps_for PassesOwn.never rfl (pi_enumT (by rfl) M.g_enumerate (pa_cons (pv 1) pa_nil)) (pg_tup (by rfl) (pgs_cons (pg_name (i := 5) sc_poly_times.nd rfl (by first | exact Or.inl rfl | exact Or.inr rfl)) (pgs_cons (pg_name (i := 6) sc_poly_times.nd rfl (by first | exact Or.inl rfl | exact Or.inr rfl)) pgs_nil))) (pss_one (ps_asg (pe_cal c_plus (hr.mono (by decide)) (by rfl) (pa_cons (pe_ix ix_seq (pv 2) (pe_op op_addAny (pv 3) (pv 5)) (fun _ _ => rfl)) (pa_cons (pe_cal c_times (hr.mono (by decide)) (by rfl) (pa_cons (pv 4) (pa_cons (pv 6) pa_nil))) pa_nil))) (pg_sub (pv 2) (pe_op op_addAny (pv 3) (pv 5)) set_list))))) pss_nil)))
      (pss_one (ps_ret (pe_cal c_trimmed (hr.mono (by decide)) (by rfl) (pa_cons (pv 2) pa_nil))))))), fun D hD => ?_⟩
  by_cases h0 : a.1 = [] ∨ a.2 = []
  · refine g_seq (g_yes ?_ (g_ret ((ev_tup ea_nil).to ?_) hD))
    · by_cases h1 : a.1 = []
      · exact et_or1 (et_test (ev_eq (ev_var rfl) (ev_tup ea_nil) (sh_encP a.1) rfl ((eqv_nil _).trans (by simp [h1]))))
      · exact et_or2 (et_test (ev_eq (ev_var rfl) (ev_tup ea_nil) (sh_encP a.1) rfl ((eqv_nil _).trans (by simp [h1])))) (et_test (ev_eq (ev_var rfl) (ev_tup ea_nil) (sh_encP a.2) rfl ((eqv_nil _).trans (by simp [h0.resolve_left h1]))))
    · show _ = encP (pmul a.1 a.2)
      rcases h0 with h0 | h0
      · rw [h0, pmul_nil1]; rfl
      · rw [h0, pmul_nil2]; rfl
  · have h1 : a.1 ≠ [] := fun e => h0 (.inl e)
    have h2 : a.2 ≠ [] := fun e => h0 (.inr e)
    have ll : a.1.length ≤ 100 ∧ a.2.length ≤ 100 := by obtain ⟨_, _, _, _, _, x, y⟩ := ha; exact ⟨x, y⟩
    have p1 := List.length_pos_iff.mpr h1
    have p2 := List.length_pos_iff.mpr h2
    refine q_no (et_or0 (et_test (ev_eq (ev_var rfl) (ev_tup ea_nil) (sh_encP a.1) rfl ((eqv_nil _).trans (by simp [h1])))) (et_test (ev_eq (ev_var rfl) (ev_tup ea_nil) (sh_encP a.2) rfl ((eqv_nil _).trans (by simp [h2]))))) ?_
    refine q_setL (xs := (mulSt a.1 a.2 0).map encR) ((el_rep1 ev_kon (ev_sub (ev_add (ev_cb (ea_cons (ev_var rfl) ea_nil) rc_lenT) (ev_cb (ea_cons (ev_var rfl) ea_nil) rc_lenT)) ev_int) ?_).to ?_) (prs_encR _) ?_
    · rw [List.length_map, List.length_map]
      omega
    · rw [List.length_map, List.length_map, mulSt, List.map_replicate]
      congr 1
      omega
    refine q_for [3, 4] (ei_enumT (ea_cons (ev_var rfl) ea_nil) (prs_encR a.1)) (fun i => [.d (encP a.1), .d (encP a.2), .l ((mulSt a.1 a.2 i).map encR), .u, .u, .u, .u]) (LeG.refl _) (fun F1 i d hd => ?_) ?_
    · obtain ⟨hi, rfl⟩ := enum_enc hd
      refine ⟨_, tg_tup2 rfl rfl (by simp) (by simp), ?_⟩
      have tst : EvT K H F1 [.d (encP a.1), .d (encP a.2), .l ((mulSt a.1 a.2 i).map encR), .d (.int (i : Nat)), .d (encR (cf a.1 i)), .u, .u] (tTest (tOp (rNeD K) (tVar 4) (tKon K (encR 0)))) (!decide (cf a.1 i = 0)) := et_test (ev_ne (ev_var rfl) ev_kon rfl rfl (by rw [eqv_encR]))
      refine g_if tst (fun hb => ?_) (fun hb => ?_)
      · refine g_for [5, 6] (ei_enumT (ea_cons (ev_var rfl) ea_nil) (prs_encR a.2)) (fun j => [.d (encP a.1), .d (encP a.2), .l ((inner (mulSt a.1 a.2 i) i (cf a.1 i) a.2 j).map encR), .d (.int (i : Nat)), .d (encR (cf a.1 i)), .u, .u]) (LeG.refl _) (fun F2 j d hd => ?_) ?_
        · obtain ⟨hj, rfl⟩ := enum_enc hd
          have hl : i + j < (inner (mulSt a.1 a.2 i) i (cf a.1 i) a.2 j).length := by rw [inner_len, mulSt_len]; omega
          obtain ⟨s1, s2, s3, s4⟩ := mu_sm (k := i) (j := j) ha hi (by omega)
          refine ⟨_, tg_tup2 rfl rfl (by simp) (by simp), ?_⟩
          refine g_setI (k := i + j) (x := encR (cf (inner (mulSt a.1 a.2 i) i (cf a.1 i) a.2 j) (i + j) + cf a.1 i * cf a.2 j)) rfl ?_ rfl ((ev_add (a := (i : Int)) (b := (j : Int)) (ev_var rfl) (ev_var rfl)).to (by rw [Int.natCast_add])) (by rw [List.length_map]; exact hl) ?_
          · exact ev_call2 _ _ (ev_ixL (ev_var rfl) (ev_add (a := (i : Int)) (b := (j : Int)) (ev_var rfl) (ev_var rfl)) (atI_enc (by omega) hl)) (ev_call2 _ _ (ev_var rfl) (ev_var rfl) ⟨s1 _, s2 _⟩) ⟨s4 _, s3 _⟩
          · rw [← List.map_set]
            exact a_le (by repeat (first | exact LeG.nil | apply LeG.same | apply LeG.drop))
        · rw [enumD_len, List.length_map]
          exact a_le (by repeat (first | exact LeG.nil | apply LeG.same | apply LeG.drop))
      · have hz : cf a.1 i = 0 := by simpa using hb
        refine g_next (a_le ?_)
        have e : mulSt a.1 a.2 (i + 1) = mulSt a.1 a.2 i := by rw [mulSt, hz, inner_zero]
        rw [e]
        repeat (first | exact LeG.nil | apply LeG.same | apply LeG.drop)
    · rw [enumD_len, List.length_map]
      refine g_ret (x := encP (pmul a.1 a.2)) ?_ hD
      exact ev_call1 (mulSt a.1 a.2 a.1.length) (ev_var rfl) (by rw [mulSt_len]; omega)

theorem len_int {n m : Nat} : (max 0 ((n : Int) - (m : Int) + 1)).toNat = n + 1 - m := by omega
theorem enc_qr (a b : List Rat) : PyData.tuple [encP a, encP b] = encQ (a, b) := rfl

abbrev s_divided : Stmt := topS 26
theorem sc_divided : FnScope ["one", "other", "at", "rest", "found", "factor", "place", "its", "over", "under"] ["one", "other"] (defScope s_divided) := ⟨rfl, rfl, rfl, by decide +kernel, rfl, by decide +kernel, by decide +kernel⟩
theorem ok_divided (M : Glb P K mg base) (F : Dfn K mg "divided" s_divided) (c_trimmed : Cal P w K mg base "trimmed" ["terms"] 41 (sp1 K encL (fun p => p.length ≤ 1000) (fun p => encP (trim p)))) (c_plus : Cal P w K mg base "plus" ["one", "other"] 43 (sp2 K encR encR (fun a => Sm a.1 ∧ Sm a.2) (fun a => encR (a.1 + a.2)))) (c_times : Cal P w K mg base "times" ["one", "other"] 43 (sp2 K encR encR (fun a => Sm a.1 ∧ Sm a.2) (fun a => encR (a.1 * a.2)))) (c_over_by : Cal P w K mg base "over_by" ["one", "other"] 43 (sp2 K encR encR (fun a => Sm a.1 ∧ Sm a.2 ∧ a.2 ≠ 0) (fun a => encR (a.1 / a.2)))) : Cal P w K mg base "divided" ["one", "other"] 44 (sp2 K encP encP (fun a => DvOk a.1 a.2) (fun a => encQ (pquo a.1 a.2, prem a.1 a.2))) := by
  refine def_ok F sc_divided (fun _ _ _ _ _ _ us hl => match us, hl with | [_, _], _ => rfl) (fun _ => rfl) (fun a => prs_cons (pr_encP a.1) (prs_cons (pr_encP a.2) rfl)) fun cdv f A outer s H E hr a ha => ?_
  have hu := room_eq (k := 3) hr
  refine ⟨_, (pss_cons (ps_if (pt_cmpR (op_eqD hu) (pv 1) (pe_tup pa_nil) (nomark _)) pss_never pss_nil)
      (pss_cons (ps_par (i := 3) (j := 4) rfl sc_divided.nd rfl rfl (by decide) rfl rfl (pa_cons (pe_callTy call_listS (by rfl) M.g_list boot_list (pa_cons (pv 0) pa_nil)) (pa_cons (pe_op op_mulAny (pe_lst (pa_cons (pe_kon (by rfl) M.k_NIL) pa_nil)) (pe_callB (call_max2S rfl) (by rfl) M.g_max boot_max (pa_cons pe_int (pa_cons (pe_op op_addAny (pe_op op_subS (pe_callB call_lenS (by rfl) M.g_len boot_len (pa_cons (pv 0) pa_nil)) (pe_callB call_lenS (by rfl) M.g_len boot_len (pa_cons (pv 1) pa_nil))) pe_int) pa_nil)))) pa_nil)) (by rfl))
      (pss_cons (ps_for PassesOwn.never rfl (pi_range3 (by rfl) M.g_range (pa_cons (pe_op op_subS (pe_callB call_lenS (by rfl) M.g_len boot_len (pa_cons (pv 0) pa_nil)) (pe_callB call_lenS (by rfl) M.g_len boot_len (pa_cons (pv 1) pa_nil))) (pa_cons (pe_un un_negS pe_int) (pa_cons (pe_un un_negS pe_int) pa_nil)))) (pg_name (i := 2) sc_divided.nd rfl (by first | exact Or.inl rfl | exact Or.inr rfl)) (pss_cons (ps_set (i := 5) sc_divided.nd rfl (by first | exact Or.inl rfl | exact Or.inr rfl) (pe_cal c_over_by (hr.mono (by decide)) (by rfl) (pa_cons (pe_ix ix_seq (pv 3) (pe_op op_subS (pe_op op_addAny (pv 2) (pe_callB call_lenS (by rfl) M.g_len boot_len (pa_cons (pv 1) pa_nil))) pe_int) (fun _ _ => rfl)) (pa_cons (pe_ix ix_seq (pv 1) (pe_un un_negS pe_int) (fun _ _ => rfl)) pa_nil))))
      (pss_cons (ps_asg (pv 5) (pg_sub (pv 4) (pv 2) set_list))
      (pss_one (ps_if (pt_cmpR (op_neD hu) (pv 5) (pe_kon (by rfl) M.k_NIL) (nomark _)) (pss_one (ps_for PassesOwn.never rfl (pi_enumT (by rfl) M.g_enumerate (pa_cons (pv 1) pa_nil)) (pg_tup (by rfl) (pgs_cons (pg_name (i := 6) sc_divided.nd rfl (by first | exact Or.inl rfl | exact Or.inr rfl)) (pgs_cons (pg_name (i := 7) sc_divided.nd rfl (by first | exact Or.inl rfl | exact Or.inr rfl)) pgs_nil))) (pss_cons (ps_asg (pe_cal c_times (hr.mono (by decide)) (by rfl) (pa_cons (pv 5) (pa_cons (pv 7) pa_nil))) (pg_tup (by rfl) (pgs_cons (pg_name (i := 8) sc_divided.nd rfl (by first | exact Or.inl rfl | exact Or.inr rfl)) (pgs_cons (pg_name (i := 9) sc_divided.nd rfl (by first | exact Or.inl rfl | exact Or.inr rfl)) pgs_nil))))
      (pss_one (ps_asg (pe_cal c_plus (hr.mono (by decide)) (by rfl) (pa_cons (pe_ix ix_seq (pv 3) (pe_op op_addAny (pv 2) (pv 6)) (fun _ _ => rfl)) (pa_cons (pe_tup (pa_cons (pe_un un_negS (pv 8)) (pa_cons (pv 9) pa_nil))) pa_nil))) (pg_sub (pv 3) (pe_op op_addAny (pv 2) (pv 6)) set_list)))))) pss_nil)))))
      (pss_one (ps_ret (pe_tup (pa_cons (pe_cal c_trimmed (hr.mono (by decide)) (by rfl) (pa_cons (pv 4) pa_nil)) (pa_cons (pe_cal c_trimmed (hr.mono (by decide)) (by rfl) (pa_cons (pv 3) pa_nil)) pa_nil)))))))), fun D hD => ?_⟩
  obtain ⟨q0, hq, lq, lp, hb⟩ := id ha
  have p2 := List.length_pos_iff.mpr q0
  refine q_no (et_test (ev_eq (ev_var rfl) (ev_tup ea_nil) (sh_encP a.2) rfl ((eqv_nil _).trans (by simp [q0])))) ?_
  refine q_par (b1 := .l ((dvSt a.1 a.2 0).1.map encR)) (b2 := .l ((dvSt a.1 a.2 0).2.map encR)) ⟨el_cb (ea_cons (ev_var rfl) ea_nil) rc_listT, prs_encR _⟩ ⟨(el_rep1 ev_kon ((ev_cb (ea_cons ev_int (ea_cons (ev_add (ev_sub (a := (a.1.length : Nat)) (b := (a.2.length : Nat)) ((ev_cb (ea_cons (ev_var rfl) ea_nil) rc_lenT).to (by rw [List.length_map])) ((ev_cb (ea_cons (ev_var rfl) ea_nil) rc_lenT).to (by rw [List.length_map]))) ev_int) ea_nil)) rc_max2)) (by omega)).to ?_, prs_encR _⟩ ?_
  · rw [len_int]
    show _ = (List.replicate (a.1.length + 1 - a.2.length) (0 : Rat)).map encR
    rw [List.map_replicate]
  refine q_for (ds := intR ((a.1.length : Int) - a.2.length) (-1) (a.1.length + 1 - a.2.length)) [2] (ei_range3 (ea_cons (ev_sub (a := (a.1.length : Nat)) (b := (a.2.length : Nat)) ((ev_cb (ea_cons (ev_var rfl) ea_nil) rc_lenT).to (by rw [List.length_map])) ((ev_cb (ea_cons (ev_var rfl) ea_nil) rc_lenT).to (by rw [List.length_map]))) (ea_cons (ev_ng ev_int) (ea_cons (ev_ng ev_int) ea_nil))) ?_) (fun i => [.d (encP a.1), .d (encP a.2), .u, .l ((dvSt a.1 a.2 i).1.map encR), .l ((dvSt a.1 a.2 i).2.map encR), .u, .u, .u, .u, .u]) (LeG.refl _) (fun F1 i d hd => ?_) ?_
  · have := RgC.neg (i := (a.1.length : Int) - a.2.length) (j := -1) (by omega) (by omega) (by omega) (by omega)
    rwa [show ((a.1.length : Int) - a.2.length - -1).toNat = a.1.length + 1 - a.2.length by omega] at this
  · obtain ⟨rfl, hi⟩ := intR_get' hd
    have e1 : ((a.1.length : Int) - a.2.length + (i : Nat) * -1) = ((a.1.length - a.2.length - i : Nat) : Int) := by omega
    rw [e1]
    obtain ⟨l1, l2⟩ := dvSt_len a.1 a.2 i
    obtain ⟨s1, s2, s3, s4, s5⟩ := dv_sm ha hi
    generalize hat : a.1.length - a.2.length - i = at' at *
    refine ⟨_, tg_name rfl (by simp), ?_⟩
    generalize hr : (dvSt a.1 a.2 i).1 = r at *
    generalize hf : (dvSt a.1 a.2 i).2 = f0 at *
    generalize hc : cf r (at' + a.2.length - 1) / cf a.2 (a.2.length - 1) = c at *
    have hn1 : (dvSt a.1 a.2 (i + 1)).1 = inner r at' (-c) a.2 a.2.length := by simp only [dvSt, hr, hat, hc]
    have hn2 : (dvSt a.1 a.2 (i + 1)).2 = f0.set at' c := by simp only [dvSt, hr, hf, hat, hc]
    rw [hn1, hn2]
    refine q_set (x := encR c) ?_ rfl ?_
    · refine EvE.to (ev_call2 (cf r (at' + a.2.length - 1)) (cf a.2 (a.2.length - 1)) (ev_ixL (ev_var rfl) (ev_sub (ev_add (a := (at' : Int)) (b := (a.2.length : Nat)) (ev_var rfl) ((ev_cb (ea_cons (ev_var rfl) ea_nil) rc_lenT).to (by rw [List.length_map]))) ev_int) (atI_enc (p := r) (by omega) (by omega))) (ev_ixT (ev_var rfl) (ev_ng ev_int) (atI_encl q0)) ⟨s1 _, s2 _, hq⟩) ?_
      exact congrArg encR hc
    refine q_setI (k := at') (x := encR c) rfl (ev_var rfl) rfl (ev_var rfl) (by rw [List.length_map]; omega) ?_
    rw [← List.map_set]
    have tst : EvT K H F1 [.d (encP a.1), .d (encP a.2), .d (.int (at' : Nat)), .l (r.map encR), .l ((f0.set at' c).map encR), .d (encR c), .u, .u, .u, .u] (tTest (tOp (rNeD K) (tVar 5) (tKon K (encR 0)))) (!decide (c = 0)) := et_test (ev_ne (ev_var rfl) ev_kon rfl rfl (by rw [eqv_encR]))
    refine g_if tst (fun hb => ?_) (fun hb => ?_)
    · refine g_for [6, 7] (ei_enumT (ea_cons (ev_var rfl) ea_nil) (prs_encR a.2)) (fun j => [.d (encP a.1), .d (encP a.2), .d (.int (at' : Nat)), .l ((inner r at' (-c) a.2 j).map encR), .l ((f0.set at' c).map encR), .d (encR c), .u, .u, .u, .u]) (LeG.refl _) (fun F2 j d hd => ?_) ?_
      · obtain ⟨hj, rfl⟩ := enum_enc hd
        have hl : at' + j < (inner r at' (-c) a.2 j).length := by rw [inner_len]; omega
        refine ⟨_, tg_tup2 rfl rfl (by simp) (by simp), ?_⟩
        refine q_unp (vs := [8, 9]) (d := encR (c * cf a.2 j)) ?_ (tg_tup2 rfl rfl (by simp) (by simp)) ?_
        · exact ev_call2 c (cf a.2 j) (ev_var rfl) (ev_var rfl) ⟨s3, s2 _⟩
        refine g_setI (k := at' + j) (x := encR (cf (inner r at' (-c) a.2 j) (at' + j) + -c * cf a.2 j)) rfl ?_ rfl ((ev_add (a := (at' : Int)) (b := (j : Int)) (ev_var rfl) (ev_var rfl)).to (by rw [Int.natCast_add])) (by rw [List.length_map]; exact hl) ?_
        · refine ev_call2 _ (-c * cf a.2 j) (ev_ixL (ev_var rfl) (ev_add (a := (at' : Int)) (b := (j : Int)) (ev_var rfl) (ev_var rfl)) (atI_enc (by omega) hl)) ((ev_tup (ea_cons (ev_ng (ev_var rfl)) (ea_cons (ev_var rfl) ea_nil))).to ?_) ⟨s5 j _ (by omega), s4 _⟩
          rw [neg_enc, Rat.neg_mul]
        · rw [← List.map_set]
          exact a_le (by repeat (first | exact LeG.nil | apply LeG.same | apply LeG.drop))
      · rw [enumD_len, List.length_map]
        exact a_le (by repeat (first | exact LeG.nil | apply LeG.same | apply LeG.drop))
    · have hz : c = 0 := by simpa using hb
      refine g_next (a_le ?_)
      have e : inner r at' (-c) a.2 a.2.length = r := by rw [hz, Rat.neg_zero, inner_zero]
      rw [e]
      repeat (first | exact LeG.nil | apply LeG.same | apply LeG.drop)
  · rw [intR_len]
    have hle : ∀ i, (dvSt a.1 a.2 i).1.length ≤ 1000 ∧ (dvSt a.1 a.2 i).2.length ≤ 1000 := fun i => by
      obtain ⟨l1, l2⟩ := dvSt_len a.1 a.2 i
      omega
    refine g_ret (x := encQ (pquo a.1 a.2, prem a.1 a.2)) ?_ hD
    refine ev_tup (ea_cons ?_ (ea_cons ?_ ea_nil))
    · exact ev_call1 (dvSt a.1 a.2 (a.1.length + 1 - a.2.length)).2 (ev_var rfl) (hle _).2
    · exact ev_call1 (dvSt a.1 a.2 (a.1.length + 1 - a.2.length)).1 (ev_var rfl) (hle _).1

theorem sm_one : Sm 1 := by
  have h : (1 : Nat) < 2 ^ SZ := Nat.one_lt_two_pow (by rw [SZ_eq]; decide)
  exact ⟨h, h⟩
theorem sm_zero : Sm 0 := by
  have h : (1 : Nat) < 2 ^ SZ := Nat.one_lt_two_pow (by rw [SZ_eq]; decide)
  exact ⟨Nat.two_pow_pos _, h⟩
theorem sm_inv {a : Rat} (h : Sm a) (h0 : a ≠ 0) : Sm (1 / a) := by
  have e := iz_div (D := a.den) (M := a.den) (a := 1) (l := a) (L := a.num) (Nat.pos_of_ne_zero a.den_nz) ⟨(a.den : Int), by rw [Rat.one_mul]; rfl, by simp⟩ (num_den a) h0
  rw [Rat.mul_one] at e
  exact e.sm (by have := num_ne h0; omega) h.1 h.2
def WuOk (p : List Rat) : Prop := Trd p ∧ p.length ≤ 100 ∧ ∀ i, Sm (cf p i)

abbrev s_with_unit : Stmt := topS 27
theorem sc_with_unit : FnScope ["poly"] ["poly"] (defScope s_with_unit) := ⟨rfl, rfl, rfl, by decide +kernel, rfl, by decide +kernel, by decide +kernel⟩
theorem ok_with_unit (M : Glb P K mg base) (F : Dfn K mg "with_unit" s_with_unit) (c_scaled : Cal P w K mg base "scaled" ["poly", "fraction"] 44 (sp2 K encP encR (fun a => a.1.length ≤ 1000 ∧ (∀ i, Sm (cf a.1 i)) ∧ Sm a.2) (fun a => encP (pscal a.1 a.2)))) (c_over_by : Cal P w K mg base "over_by" ["one", "other"] 43 (sp2 K encR encR (fun a => Sm a.1 ∧ Sm a.2 ∧ a.2 ≠ 0) (fun a => encR (a.1 / a.2)))) : Cal P w K mg base "with_unit" ["poly"] 45 (sp1 K encP WuOk (fun p => encP (pwu p))) := by
  refine def_ok F sc_with_unit (fun _ _ _ _ _ _ us hl => match us, hl with | [_], _ => rfl) (fun _ => rfl) (fun a => prs_cons (pr_encP a) rfl) fun cdv f A outer s H E hr a ha => ?_
  have hu := room_eq (k := 4) hr
  refine ⟨_, (pss_one (ps_ret (pe_ifExp (pt_cmpR (op_eqD hu) (pv 0) (pe_tup pa_nil) (nomark _)) (pe_tup pa_nil) (pe_cal c_scaled (hr.mono (by decide)) (by rfl) (pa_cons (pv 0) (pa_cons (pe_cal c_over_by (hr.mono (by decide)) (by rfl) (pa_cons (pe_kon (by rfl) M.k_UNIT) (pa_cons (pe_ix ix_seq (pv 0) (pe_un un_negS pe_int) (fun _ _ => rfl)) pa_nil))) pa_nil)))))), fun D hD => ?_⟩
  obtain ⟨ht, ll, hs⟩ := ha
  refine g_ret (ev_if (b := decide (a = [])) (et_test (ev_eq (ev_var rfl) (ev_tup ea_nil) (sh_encP a) rfl (eqv_nil a))) (fun h => (ev_tup ea_nil).to ?_) fun h => ?_) hD
  · have h' : a = [] := of_decide_eq_true h
    subst h'; rfl
  · have h' : a ≠ [] := of_decide_eq_false h
    have hl := trd_last ht h'
    refine EvE.to (ev_call2 a (1 / cf a (a.length - 1)) (ev_var rfl) (ev_call2 1 (cf a (a.length - 1)) ev_kon (ev_ixT (ev_var rfl) (ev_ng ev_int) (atI_encl h')) ⟨sm_one, hs _, hl⟩) ⟨Nat.le_trans ll (by decide), hs, sm_inv (hs _) hl⟩) ?_
    show encP (pscal a _) = encP (pwu a)
    rw [pwu_ne h', pscal_ne (inv_ne hl)]

abbrev s_common : Stmt := topS 28
theorem sc_common : FnScope ["one", "other"] ["one", "other"] (defScope s_common) := ⟨rfl, rfl, rfl, by decide +kernel, rfl, by decide +kernel, by decide +kernel⟩
theorem ok_common (M : Glb P K mg base) (F : Dfn K mg "common" s_common) (c_with_unit : Cal P w K mg base "with_unit" ["poly"] 45 (sp1 K encP WuOk (fun p => encP (pwu p)))) (c_divided : Cal P w K mg base "divided" ["one", "other"] 44 (sp2 K encP encP (fun a => DvOk a.1 a.2) (fun a => encQ (pquo a.1 a.2, prem a.1 a.2)))) : Cal P w K mg base "common" ["one", "other"] 46 (sp2 K encP encP (fun a => GOk a) (fun a => encP (pwu (pgcd true a)))) := by
  refine def_ok F sc_common (fun _ _ _ _ _ _ us hl => match us, hl with | [_, _], _ => rfl) (fun _ => rfl) (fun a => prs_cons (pr_encP a.1) (prs_cons (pr_encP a.2) rfl)) fun cdv f A outer s H E hr a ha => ?_
  have hu := room_eq (k := 5) hr
  refine ⟨_, (pss_cons (ps_while PassesOwn.never (pt_cmpR (op_neD hu) (pv 1) (pe_tup pa_nil) (nomark _)) (pss_one (ps_par (i := 0) (j := 1) rfl sc_common.nd rfl rfl (by decide) rfl rfl (pa_cons (pv 1) (pa_cons (pe_cal c_with_unit (hr.mono (by decide)) (by rfl) (pa_cons (pe_ix ix_seq (pe_cal c_divided (hr.mono (by decide)) (by rfl) (pa_cons (pv 0) (pa_cons (pv 1) pa_nil))) pe_int (fun _ _ => rfl)) pa_nil)) pa_nil)) (by rfl))))
      (pss_one (ps_ret (pe_cal c_with_unit (hr.mono (by decide)) (by rfl) (pa_cons (pv 0) pa_nil))))), fun D hD => ?_⟩
  refine q_while (fun s : List Rat × List Rat => [.d (encP s.1), .d (encP s.2)]) (fun s => GOk s ∧ pgcd true s = pgcd true a) (fun s => !decide (s.2 = [])) (fun s => gst true s) (fun s => s.2.length) a (LeG.refl _) ⟨ha, rfl⟩ (fun s hs => et_test (ev_ne (ev_var rfl) (ev_tup ea_nil) (sh_encP s.2) rfl (by rw [eqv_nil]))) (fun s hs hc => ?_) (fun s hs hc => ?_)
  · obtain ⟨g, e⟩ := hs
    have h0 : s.2 ≠ [] := by simpa using hc
    have g' := gok_step (u := true) g h0
    have dv := gok_dv g h0
    obtain ⟨t1, t2, l1, l2, _⟩ := id g
    have hm := rem_len (p := s.1) h0 (trd_last t2 h0)
    have wu : WuOk (prem s.1 s.2) := by
      refine ⟨trd_rem, by omega, fun i => ?_⟩
      obtain ⟨q0, hq, lq, lp, x, y, hx, hy, hz⟩ := dv
      have := bnd_rem hq lq hx hy
      refine this.sm (Nat.le_trans ?_ hz) i
      exact Nat.add_le_add_left (Nat.mul_le_mul_right _ (Nat.le_succ _)) _
    refine ⟨⟨g', by rw [← e, ← pgcd_step t2 h0]⟩, gst_len t2 h0, ?_⟩
    refine g_par (b1 := .d (encP s.2)) (b2 := .d (encP (pwu (prem s.1 s.2)))) ⟨ev_var rfl, pr_encP _⟩ ⟨?_, pr_encP _⟩ (fun _ _ o => o)
    exact ev_call1 (prem s.1 s.2) (ev_ixT (d := encP (prem s.1 s.2)) (ev_call2 s.1 s.2 (ev_var rfl) (ev_var rfl) dv) ev_int rfl) wu
  · obtain ⟨g, e⟩ := hs
    have h0 : s.2 = [] := by simpa using hc
    obtain ⟨t1, t2, l1, l2, _⟩ := id g
    refine g_ret (x := encP (pwu (pgcd true a))) ?_ hD
    rw [← e, pgcd_nil h0]
    exact ev_call1 s.1 (ev_var rfl) ⟨t1, by omega, gok_sm g⟩

theorem drop_cf {p : List Rat} {i : Nat} (h : i < p.length) : p.drop i = cf p i :: p.drop (i + 1) := by
  rw [List.drop_eq_getElem_cons h]
  congr 1
  simp [cf, h]

abbrev s_value_at : Stmt := topS 29
theorem sc_value_at : FnScope ["poly", "fraction", "found", "one"] ["poly", "fraction"] (defScope s_value_at) := ⟨rfl, rfl, rfl, by decide +kernel, rfl, by decide +kernel, by decide +kernel⟩
theorem ok_value_at (M : Glb P K mg base) (F : Dfn K mg "value_at" s_value_at) (c_plus : Cal P w K mg base "plus" ["one", "other"] 43 (sp2 K encR encR (fun a => Sm a.1 ∧ Sm a.2) (fun a => encR (a.1 + a.2)))) (c_times : Cal P w K mg base "times" ["one", "other"] 43 (sp2 K encR encR (fun a => Sm a.1 ∧ Sm a.2) (fun a => encR (a.1 * a.2)))) : Cal P w K mg base "value_at" ["poly", "fraction"] 44 (sp2 K encP encR (fun a => VaOk a.1 a.2) (fun a => encR (ev a.1 a.2))) := by
  refine def_ok F sc_value_at (fun _ _ _ _ _ _ us hl => match us, hl with | [_, _], _ => rfl) (fun _ => rfl) (fun a => prs_cons (pr_encP a.1) rfl) fun cdv f A outer s H E hr a ha => ?_
  refine ⟨_, (pss_cons (ps_set (i := 2) sc_value_at.nd rfl (by first | exact Or.inl rfl | exact Or.inr rfl) (pe_kon (by rfl) M.k_NIL))
      (pss_cons (ps_for PassesOwn.never rfl (pi_tup (pe_revT (pv 0))) (pg_name (i := 3) sc_value_at.nd rfl (by first | exact Or.inl rfl | exact Or.inr rfl)) (pss_one (ps_set (i := 2) sc_value_at.nd rfl (by first | exact Or.inl rfl | exact Or.inr rfl) (pe_cal c_plus (hr.mono (by decide)) (by rfl) (pa_cons (pe_cal c_times (hr.mono (by decide)) (by rfl) (pa_cons (pv 2) (pa_cons (pv 1) pa_nil))) (pa_cons (pv 3) pa_nil))))))
      (pss_one (ps_ret (pv 2))))), fun D hD => ?_⟩
  obtain ⟨l1, h1, h2, h3, h4⟩ := ha
  refine q_set (x := encR 0) ev_kon rfl ?_
  refine q_for (ds := (a.1.reverse).map encR) [3] (ei_tup ((ev_revT (ev_var rfl)).to (by rw [List.map_reverse])) (prs_encR _)) (fun i => [.d (encP a.1), .d (encR a.2), .d (encR (ev (a.1.drop (a.1.length - i)) a.2)), .u]) ?_ (fun F1 i d hd => ?_) ?_
  · rw [Nat.sub_zero, List.drop_length]
    exact LeG.refl _
  · obtain ⟨hi, rfl⟩ := enc_get' hd
    rw [List.length_reverse] at hi
    have e : cf a.1.reverse i = cf a.1 (a.1.length - 1 - i) := by
      unfold cf
      rw [List.getD_eq_getElem?_getD, List.getD_eq_getElem?_getD, List.getElem?_reverse hi]
    have e2 : a.1.length - i = a.1.length - 1 - i + 1 := by omega
    have e3 : a.1.length - (i + 1) = a.1.length - 1 - i := by omega
    refine ⟨_, tg_name rfl (by simp), ?_⟩
    rw [e3, drop_cf (by omega)]
    refine g_set (x := encR (ev (a.1.drop (a.1.length - i)) a.2 * a.2 + cf a.1 (a.1.length - 1 - i))) ?_ rfl ?_
    · rw [e]
      exact ev_call2 _ _ (ev_call2 _ _ (ev_var rfl) (ev_var rfl) ⟨h3 _, h1⟩) (ev_var rfl) ⟨h4 _, h2 _⟩
    · have : ev (cf a.1 (a.1.length - 1 - i) :: a.1.drop (a.1.length - 1 - i + 1)) a.2 = ev (a.1.drop (a.1.length - i)) a.2 * a.2 + cf a.1 (a.1.length - 1 - i) := by
        rw [e2]
        simp only [ev]
        grind
      rw [this]
      exact a_le (by repeat (first | exact LeG.nil | apply LeG.same | apply LeG.drop))
  · rw [List.length_map, List.length_reverse, Nat.sub_self, List.drop_zero]
    exact g_ret (x := encR (ev a.1 a.2)) (ev_var rfl) hD

theorem enc_nat (n : Nat) : PyData.tuple [.int (n : Nat), .int 1] = encR (n : Rat) := rfl

abbrev s_derived : Stmt := topS 30
theorem sc_derived : FnScope ["poly", "power", "one"] ["poly"] (defScope s_derived) := ⟨rfl, rfl, rfl, by decide +kernel, rfl, by decide +kernel, by decide +kernel⟩
theorem ok_derived (M : Glb P K mg base) (F : Dfn K mg "derived" s_derived) (c_trimmed : Cal P w K mg base "trimmed" ["terms"] 41 (sp1 K encL (fun p => p.length ≤ 1000) (fun p => encP (trim p)))) (c_times : Cal P w K mg base "times" ["one", "other"] 43 (sp2 K encR encR (fun a => Sm a.1 ∧ Sm a.2) (fun a => encR (a.1 * a.2)))) : Cal P w K mg base "derived" ["poly"] 44 (sp1 K encP (fun p => p.length ≤ 1000 ∧ (∀ i : Nat, Sm (i : Rat) ∨ p.length ≤ i) ∧ ∀ i, Sm (cf p i)) (fun p => encP (pder p))) := by
  refine def_ok F sc_derived (fun _ _ _ _ _ _ us hl => match us, hl with | [_], _ => rfl) (fun _ => rfl) (fun a => prs_cons (pr_encP a) rfl) fun cdv f A outer s H E hr a ha => ?_
  refine ⟨_, (pss_one (ps_ret (pe_cal c_trimmed (hr.mono (by decide)) (by rfl) (pa_cons (pe_slice sl_any (pe_lc (own := [("power", 1), ("one", 2)]) rfl sc_derived.nd (pi_enumT (by rfl) M.g_enumerate (pa_cons (pv 0) pa_nil)) (blkOk_by (N := ["poly", "power", "one"]) (sc := defScope s_derived) (by decide +kernel)) (fun _ _ _ _ _ => (pg_tupB (n := 2) (pgs_cons (pg_name (i := 1) sc_derived.nd rfl (by first | exact Or.inl rfl | exact Or.inr rfl)) (pgs_cons (pg_name (i := 2) sc_derived.nd rfl (by first | exact Or.inl rfl | exact Or.inr rfl)) pgs_nil)))) (fun _ _ _ _ _ => pts_nil) (fun _ _ _ _ _ => (pe_cal c_times (hr.mono (by decide)) (by rfl) (pa_cons (pe_tup (pa_cons (pv 1) (pa_cons pe_int pa_nil))) (pa_cons (pv 2) pa_nil))))) (po_some pe_int) po_none) pa_nil)))), fun D hD => ?_⟩
  obtain ⟨l1, h1, h2⟩ := ha
  refine g_ret (x := encP (pder a)) ?_ hD
  have hl : (((List.range a.length).map fun (i : Nat) => (i : Rat) * cf a i).drop 1).length ≤ 1000 := by
    rw [List.length_drop, List.length_map, List.length_range]
    omega
  refine ev_call1 (((List.range a.length).map fun (i : Nat) => (i : Rat) * cf a i).drop 1) ((ev_of (el_slL (ev_of (el_lc (((List.range a.length).map fun (i : Nat) => (i : Rat) * cf a i).map encR) (ei_enumT (ea_cons (ev_var rfl) ea_nil) (prs_encR a)).toC (by simp [enumD_len]) (by rw [enumD_len, List.length_map]; omega) (prs_encR _) fun i d y hd hy => ?_)) (eo_some ev_int) eo_none)).to ?_) hl
  · obtain ⟨hi, rfl⟩ := enum_enc hd
    obtain ⟨h3, rfl⟩ := enc_get' hy
    rw [cf_range, if_pos hi]
    refine ⟨_, tg_tup2 rfl rfl (by simp) (by simp), ev_call2 (i : Rat) _ ((ev_tup (ea_cons (ev_var rfl) (ea_cons ev_int ea_nil))).to (enc_nat i)) (ev_var rfl) ⟨(h1 i).resolve_right (by omega), h2 _⟩⟩
  · show PyData.list (cutD _ (some ((1 : Nat) : Int)) none) = _
    rw [cut_from, ← List.map_drop]

abbrev s_lowest : Stmt := topS 31
theorem sc_lowest : FnScope ["poly", "powers", "power", "one"] ["poly"] (defScope s_lowest) := ⟨rfl, rfl, rfl, by decide +kernel, rfl, by decide +kernel, by decide +kernel⟩
theorem ok_lowest (M : Glb P K mg base) (F : Dfn K mg "lowest" s_lowest) : Cal P w K mg base "lowest" ["poly"] 41 (sp1 K encP (fun p => p.length ≤ 1000 ∧ cf p 0 ≠ 0) (fun _ => .int 0)) := by
  refine def_ok F sc_lowest (fun _ _ _ _ _ _ us hl => match us, hl with | [_], _ => rfl) (fun _ => rfl) (fun a => prs_cons (pr_encP a) rfl) fun cdv f A outer s H E hr a ha => ?_
  have hu := room_eq (k := 0) hr
  refine ⟨_, (pss_cons (ps_setLc (i := 1) (own := [("power", 2), ("one", 3)]) rfl sc_lowest.nd rfl rfl (sw_true rfl rfl rfl (by decide +kernel)) (pi_enumT (by rfl) M.g_enumerate (pa_cons (pv 0) pa_nil)) (blkOk_by (N := ["poly", "powers", "power", "one"]) (sc := defScope s_lowest) (by decide +kernel)) (fun _ _ _ _ _ => (pg_tupB (n := 2) (pgs_cons (pg_name (i := 2) sc_lowest.nd rfl (by first | exact Or.inl rfl | exact Or.inr rfl)) (pgs_cons (pg_name (i := 3) sc_lowest.nd rfl (by first | exact Or.inl rfl | exact Or.inr rfl)) pgs_nil)))) (fun _ _ _ _ _ => (pts_one (pt_cmpR (op_neDB hu) (pv 3) (pe_konB (by rfl) M.k_NIL) (nomark _)))) (fun _ _ _ _ _ => (pv 2)))
      (pss_cons (ps_if (pt_cmpR (op_eqD hu) (pv 1) (pe_lst pa_nil) (nomark _)) pss_never pss_nil)
      (pss_one (ps_ret (pe_ix ix_seq (pv 1) pe_int (fun _ _ => rfl)))))), fun D hD => ?_⟩
  obtain ⟨l1, h1⟩ := ha
  have a0 : 0 < a.length := by
    apply Nat.pos_of_ne_zero
    intro e
    exact h1 (cf_ge (by omega))
  have hys : ∃ ys : List PyData, ((List.range a.length).map fun (i : Nat) => if cf a i = 0 then (none : Option PyData) else some (.int (i : Nat))).filterMap id = .int 0 :: ys := by
    obtain ⟨n, hn⟩ : ∃ n, a.length = n + 1 := ⟨a.length - 1, by omega⟩
    rw [hn, List.range_succ_eq_map, List.map_cons, if_neg h1, List.filterMap_cons]
    exact ⟨_, rfl⟩
  obtain ⟨ys, hys⟩ := hys
  have hlen : (PyData.int 0 :: ys).length ≤ 1000 := by
    rw [← hys]
    have := List.length_filterMap_le id ((List.range a.length).map fun (i : Nat) => if cf a i = 0 then (none : Option PyData) else some (.int (i : Nat)))
    rw [List.length_map, List.length_range] at this
    omega
  have hint : ∀ x ∈ (PyData.int 0 :: ys), ∃ k : Nat, x = .int k := fun x m => by
    rw [← hys] at m
    obtain ⟨y, m1, m2⟩ := List.mem_filterMap.mp m
    obtain ⟨i, _, rfl⟩ := List.mem_map.mp m1
    by_cases h : cf a i = 0
    · rw [if_pos h] at m2; cases m2
    · rw [if_neg h] at m2
      exact ⟨i, (Option.some.inj m2).symm⟩
  have hprs : prs (.int 0 :: ys) = true := prs_of fun x m => by
    obtain ⟨k, rfl⟩ := hint x m
    rfl
  refine q_setL (xs := .int 0 :: ys) (EvL.to (el_lcf ((List.range a.length).map fun (i : Nat) => if cf a i = 0 then (none : Option PyData) else some (.int (i : Nat))) (ei_enumT (ea_cons (ev_var rfl) ea_nil) (prs_encR a)).toC (by simp [enumD_len]) (by rw [enumD_len, List.length_map]; omega) (fun y m => ?_) fun i d y hd hy => ?_) hys) hprs ?_
  · obtain ⟨i, _, e⟩ := List.mem_map.mp m
    by_cases h : cf a i = 0
    · rw [if_pos h] at e; cases e
    · rw [if_neg h] at e
      rw [← Option.some.inj e]; rfl
  · obtain ⟨hi, rfl⟩ := enum_enc hd
    rw [List.getElem?_map, List.getElem?_range hi] at hy
    obtain rfl := Option.some.inj hy
    refine ⟨_, tg_tup2 rfl rfl (by simp) (by simp), (et_test (ev_ne (ev_var rfl) ev_kon rfl rfl (by rw [eqv_encR]))).to ?_, fun z hz => ?_⟩
    · by_cases h : cf a i = 0 <;> simp [h]
    · have hz' : (if cf a i = 0 then (none : Option PyData) else some (.int (i : Nat))) = some z := hz
      by_cases h : cf a i = 0
      · rw [if_pos h] at hz'; cases hz'
      · rw [if_neg h] at hz'
        exact (ev_var rfl).to (Option.some.inj hz')
  · have shl : SeqAt.shaped (.list (.int 0 :: ys)) = true := sh_of (n := 2) (lay_list fun x m => by
      obtain ⟨k, rfl⟩ := hint x m
      exact ⟨rfl, Nat.le_of_ble_eq_true rfl⟩)
    refine q_no (et_test (ev_eq (ev_var rfl) (ev_of (el_lst ea_nil)) shl rfl (by simp [PyData.eqv, PyData.eqvAll]))) ?_
    exact g_ret (x := .int 0) (ev_ixL (ev_var rfl) ev_int (atI_nat (k := 0) rfl rfl)) hD

end
end Sw
namespace Sw
open PySem PySem.Spec L2
open PyProof.Rows hiding St
def encKR (x : Nat × Rat) : PyData := .tuple [.int (x.1 : Nat), encR x.2]
def encRow : Option (List (Nat × Rat)) → PyData
  | none => .none
  | some l => .tuple (l.map encKR)
theorem prs_encKR (l : List (Nat × Rat)) : prs (l.map encKR) = true := prs_of fun x m => by
  obtain ⟨q, _, rfl⟩ := List.mem_map.mp m
  rfl
theorem isNone_encRow (o : Option (List (Nat × Rat))) : (!isNone (encRow o)) = o.isSome := by cases o <;> rfl
def spQ (K : Fg) (pre : List Rat × List Rat → Prop) (res : List Rat × List Rat → PyData) : Sp := sp1 K encQ pre res
section
variable {K : Fg} {H0 : Hp} {F : List FE} {G : List B} {ta tb : TE}
theorem ev_q1 {q : List Rat × List Rat} (h : EvE K H0 F G ta (encQ q)) (hb : EvE K H0 F G tb (.int 0)) : EvE K H0 F G (tOp (rIx K) ta tb) (encP q.1) := ev_ixT h hb rfl
theorem ev_q2 {q : List Rat × List Rat} (h : EvE K H0 F G ta (encQ q)) (hb : EvE K H0 F G tb (.int 1)) : EvE K H0 F G (tOp (rIx K) ta tb) (encP q.2) := ev_ixT h hb rfl
theorem ev_p0 {p : List Rat} (h0 : cf p 0 ≠ 0) (h : EvE K H0 F G ta (encP p)) (hb : EvE K H0 F G tb (.int 0)) : EvE K H0 F G (tOp (rIx K) ta tb) (encR (cf p 0)) := ev_ixT h hb (atI_enc (k := 0) rfl (by
  apply Nat.pos_of_ne_zero
  intro e
  exact h0 (cf_ge (by omega))))
theorem ev_pl {p : List Rat} (h0 : p ≠ []) (h : EvE K H0 F G ta (encP p)) (hb : EvE K H0 F G tb (.int 1)) : EvE K H0 F G (tOp (rIx K) ta (tUn rNegI tb)) (encR (lastOf p)) := ev_ixT h (ev_ng hb) (atI_encl h0)
theorem ev_lenP {p : List Rat} (h : EvE K H0 F G ta (encP p)) : EvE K H0 F G (tCB (rLen K) (tCons ta tNil)) (.int (p.length : Nat)) := (ev_cb (ea_cons h ea_nil) rc_lenT).to (by rw [List.length_map])
end
theorem ne_of0 {p : List Rat} (h0 : cf p 0 ≠ 0) : p ≠ [] := fun e => h0 (by rw [e]; rfl)
section
variable {P : Program} {w : World} {K : Fg} {mg : Str → Option Value} {base : Heap}

abbrev s_kept : Stmt := topS 33
theorem sc_kept : FnScope ["quotient", "poly"] ["quotient"] (defScope s_kept) := ⟨rfl, rfl, rfl, by decide +kernel, rfl, by decide +kernel, by decide +kernel⟩
theorem ok_kept (M : Glb P K mg base) (F : Dfn K mg "kept" s_kept) (c_scaled : Cal P w K mg base "scaled" ["poly", "fraction"] 44 (sp2 K encP encR (fun a => a.1.length ≤ 1000 ∧ (∀ i, Sm (cf a.1 i)) ∧ Sm a.2) (fun a => encP (pscal a.1 a.2)))) (c_over_by : Cal P w K mg base "over_by" ["one", "other"] 43 (sp2 K encR encR (fun a => Sm a.1 ∧ Sm a.2 ∧ a.2 ≠ 0) (fun a => encR (a.1 / a.2)))) (c_lowest : Cal P w K mg base "lowest" ["poly"] 41 (sp1 K encP (fun p => p.length ≤ 1000 ∧ cf p 0 ≠ 0) (fun _ => .int 0))) : Cal P w K mg base "kept" ["quotient"] 45 (sp1 K encQ (fun q => KeOk q.2) (fun q => encP (pone q.2))) := by
  refine def_ok F sc_kept (fun _ _ _ _ _ _ us hl => match us, hl with | [_], _ => rfl) (fun _ => rfl) (fun a => prs_cons (pr_encQ a) rfl) fun cdv f A outer s H E hr a ha => ?_
  refine ⟨_, (pss_cons (ps_set (i := 1) sc_kept.nd rfl (by first | exact Or.inl rfl | exact Or.inr rfl) (pe_slice sl_any (pe_ix ix_seq (pv 0) pe_int (fun _ _ => rfl)) (po_some (pe_cal c_lowest (hr.mono (by decide)) (by rfl) (pa_cons (pe_ix ix_seq (pv 0) pe_int (fun _ _ => rfl)) pa_nil))) po_none))
      (pss_one (ps_ret (pe_cal c_scaled (hr.mono (by decide)) (by rfl) (pa_cons (pv 1) (pa_cons (pe_cal c_over_by (hr.mono (by decide)) (by rfl) (pa_cons (pe_kon (by rfl) M.k_UNIT) (pa_cons (pe_ix ix_seq (pv 1) pe_int (fun _ _ => rfl)) pa_nil))) pa_nil)))))), fun D hD => ?_⟩
  obtain ⟨h0, lp, t, ht, tz, hz⟩ := ha
  refine q_set (x := encP a.2) ((ev_slT (ev_q2 (ev_var rfl) ev_int) (eo_some (ev_call1 a.2 (ev_q2 (ev_var rfl) ev_int) ⟨by omega, h0⟩)) eo_none).to ?_) (pr_encP _) ?_
  · show PyData.tuple (cutD _ (some ((0 : Nat) : Int)) none) = _
    rw [cut_from, List.drop_zero]
  · refine g_ret (EvE.to (ev_call2 a.2 (1 / cf a.2 0) (ev_var rfl) (ev_call2 1 (cf a.2 0) ev_kon (ev_p0 h0 (ev_var rfl) ev_int) ⟨sm_one, ht.sm tz 0, h0⟩) ⟨Nat.le_trans lp (by decide), ht.sm tz, sm_inv (ht.sm tz 0) h0⟩) ?_) hD
    show encP (pscal a.2 _) = _
    rw [pscal_ne (inv_ne h0)]; rfl

abbrev s_is_small : Stmt := topS 34
theorem sc_is_small : FnScope ["fraction", "over", "under"] ["fraction"] (defScope s_is_small) := ⟨rfl, rfl, rfl, by decide +kernel, rfl, by decide +kernel, by decide +kernel⟩
theorem ok_is_small (M : Glb P K mg base) (F : Dfn K mg "is_small" s_is_small) : Cal P w K mg base "is_small" ["fraction"] 41 (sp1 K encR (fun _ => True) (fun q => .bool (small q))) := by
  refine def_ok F sc_is_small (fun _ _ _ _ _ _ us hl => match us, hl with | [_], _ => rfl) (fun _ => rfl) (fun _ => rfl) fun cdv f A outer s H E hr a ha => ?_
  refine ⟨_, (pss_cons (ps_asg (pv 0) (pg_tup (by rfl) (pgs_cons (pg_name (i := 1) sc_is_small.nd rfl (by first | exact Or.inl rfl | exact Or.inr rfl)) (pgs_cons (pg_name (i := 2) sc_is_small.nd rfl (by first | exact Or.inl rfl | exact Or.inr rfl)) pgs_nil))))
      (pss_one (ps_ret (pe_cmpR op_ltS (pe_callB call_absS (by rfl) M.g_abs boot_abs (pa_cons (pv 1) pa_nil)) (pv 2) (nomark _))))), fun D hD => ?_⟩
  refine q_unp (vs := [1, 2]) (d := encR a) (ev_var rfl) (tg_tup2 rfl rfl (by simp) (by simp)) ?_
  refine g_ret (x := .bool (small a)) ((ev_lt (a := (a.num.natAbs : Nat)) (b := (a.den : Nat)) (ev_cb (ea_cons (ev_var rfl) ea_nil) rc_abs) (ev_var rfl)).to ?_) hD
  unfold small
  congr 1
  simp

abbrev s_stepped_down : Stmt := topS 35
theorem sc_stepped_down : FnScope ["poly", "room", "found", "power", "last", "many"] ["poly"] (defScope s_stepped_down) := ⟨rfl, rfl, rfl, by decide +kernel, rfl, by decide +kernel, by decide +kernel⟩
theorem ok_stepped_down (M : Glb P K mg base) (F : Dfn K mg "stepped_down" s_stepped_down) (c_over_by : Cal P w K mg base "over_by" ["one", "other"] 43 (sp2 K encR encR (fun a => Sm a.1 ∧ Sm a.2 ∧ a.2 ≠ 0) (fun a => encR (a.1 / a.2)))) (c_minus : Cal P w K mg base "minus" ["one", "other"] 43 (sp2 K encR encR (fun a => Sm a.1 ∧ Sm a.2) (fun a => encR (a.1 - a.2)))) (c_times : Cal P w K mg base "times" ["one", "other"] 43 (sp2 K encR encR (fun a => Sm a.1 ∧ Sm a.2) (fun a => encR (a.1 * a.2)))) : Cal P w K mg base "stepped_down" ["poly"] 44 (sp1 K encP (fun p => DrOk p ∧ 2 ≤ p.length ∧ small (lastOf p) = true) (fun p => .tuple [encR (lastOf p), encP (sdn p)])) := by
  refine def_ok F sc_stepped_down (fun _ _ _ _ _ _ us hl => match us, hl with | [_], _ => rfl) (fun _ => rfl) (fun a => prs_cons (pr_encP a) rfl) fun cdv f A outer s H E hr a ha => ?_
  have hu := room_eq (k := 3) hr
  refine ⟨_, (pss_cons (ps_par (i := 4) (j := 5) rfl sc_stepped_down.nd rfl rfl (by decide) rfl rfl (pa_cons (pe_ix ix_seq (pv 0) (pe_un un_negS pe_int) (fun _ _ => rfl)) (pa_cons (pe_op op_subS (pe_callB call_lenS (by rfl) M.g_len boot_len (pa_cons (pv 0) pa_nil)) pe_int) pa_nil)) (by rfl))
      (pss_cons (ps_set (i := 1) sc_stepped_down.nd rfl (by first | exact Or.inl rfl | exact Or.inr rfl) (pe_cal c_minus (hr.mono (by decide)) (by rfl) (pa_cons (pe_kon (by rfl) M.k_UNIT) (pa_cons (pe_cal c_times (hr.mono (by decide)) (by rfl) (pa_cons (pv 4) (pa_cons (pv 4) pa_nil))) pa_nil))))
      (pss_cons (ps_set (i := 2) sc_stepped_down.nd rfl (by first | exact Or.inl rfl | exact Or.inr rfl) (pe_lst pa_nil))
      (pss_cons (ps_for PassesOwn.never rfl (pi_range1 (by rfl) M.g_range (pa_cons (pv 5) pa_nil)) (pg_name (i := 3) sc_stepped_down.nd rfl (by first | exact Or.inl rfl | exact Or.inr rfl)) (pss_one (ps_expr (pe_bm PySem.F.plainAttrs_list PySem.F.slot_list_append PySem.F.type_list_append mt_append (pv 2) (pa_cons (pe_cal c_over_by (hr.mono (by decide)) (by rfl) (pa_cons (pe_cal c_minus (hr.mono (by decide)) (by rfl) (pa_cons (pe_ix ix_seq (pv 0) (pv 3) (fun _ _ => rfl)) (pa_cons (pe_cal c_times (hr.mono (by decide)) (by rfl) (pa_cons (pv 4) (pa_cons (pe_ix ix_seq (pv 0) (pe_op op_subS (pv 5) (pv 3)) (fun _ _ => rfl)) pa_nil))) pa_nil))) (pa_cons (pv 1) pa_nil))) pa_nil)))))
      (pss_cons (ps_while PassesOwn.never (pt_cmpR (op_eqD hu) (pe_ix ix_seq (pv 2) (pe_un un_negS pe_int) (fun _ _ => rfl)) (pe_kon (by rfl) M.k_NIL) (nomark _)) (pss_one (ps_expr (pe_bm0 PySem.F.plainAttrs_list PySem.F.slot_list_pop PySem.F.type_list_pop mt_pop (pv 2)))))
      (pss_one (ps_ret (pe_tup (pa_cons (pv 4) (pa_cons (pe_callTy call_tupS (by rfl) M.g_tuple boot_tuple (pa_cons (pv 2) pa_nil)) pa_nil)))))))))), fun D hD => ?_⟩
  obtain ⟨hdr, hl, hs⟩ := ha
  obtain ⟨t, ht, hz⟩ := drok_t hdr hl
  obtain ⟨n1, _⟩ := sd_facts ht hs
  obtain ⟨s1, s2, s3, s4, s5⟩ := sd_sm ht hs hz
  have a0 : a ≠ [] := fun e => by rw [e] at hl; simp at hl
  have ll : a.length ≤ 100 := hdr.2.1
  refine q_par (b1 := .d (encR (lastOf a))) (b2 := .d (.int (a.length - 1 : Nat))) ⟨ev_pl a0 (ev_var rfl) ev_int, rfl⟩ ⟨(ev_sub (ev_lenP (p := a) (ev_var rfl)) ev_int).to (by congr 1; omega), rfl⟩ ?_
  refine q_set (x := encR (1 - lastOf a * lastOf a)) (ev_call2 1 _ ev_kon (ev_call2 (lastOf a) (lastOf a) (ev_var rfl) (ev_var rfl) ⟨s1 _, s1 _⟩) ⟨sm_one, s2⟩) rfl ?_
  refine q_setL (xs := []) (el_lst ea_nil) rfl ?_
  refine q_for (ds := intR 0 1 (a.length - 1)) [3] ((ei_range1 (n := (a.length - 1 : Nat)) (ea_cons (ev_var rfl) ea_nil) (by omega))) (fun i => [.d (encP a), .d (encR (1 - lastOf a * lastOf a)), .l (((List.range i).map (sdE a)).map encR), .u, .d (encR (lastOf a)), .d (.int (a.length - 1 : Nat))]) (LeG.refl _) (fun F1 i d hd => ?_) ?_
  · obtain ⟨rfl, hi⟩ := intR_get' hd
    have e0 : ((0 : Int) + (i : Nat) * 1) = (i : Nat) := by omega
    rw [e0]
    refine ⟨_, tg_name rfl (by simp), ?_⟩
    refine g_app (x := encR (sdE a i)) rfl ?_ rfl (by rw [List.length_map, List.length_map, List.length_range]; omega) ?_
    · exact ev_call2 (cf a i - lastOf a * cf a (a.length - 1 - i)) (1 - lastOf a * lastOf a) (ev_call2 (cf a i) (lastOf a * cf a (a.length - 1 - i)) (ev_ixT (ev_var rfl) (ev_var rfl) (atI_enc (p := a) rfl (by omega)))
        (ev_call2 (lastOf a) (cf a (a.length - 1 - i)) (ev_var rfl) (ev_ixT (ev_var rfl) (ev_sub (a := (a.length - 1 : Nat)) (b := (i : Nat)) (ev_var rfl) (ev_var rfl)) (atI_enc (p := a) (k := a.length - 1 - i) (by omega) (by omega))) ⟨s1 _, s1 _⟩) ⟨s1 _, s4 _⟩) (ev_var rfl) ⟨s5 _ _, s3, n1⟩
    · have e : ((List.range i).map (sdE a)).map encR ++ [encR (sdE a i)] = ((List.range (i + 1)).map (sdE a)).map encR := by
        rw [List.range_succ, List.map_append, List.map_append]; rfl
      rw [e]
      exact a_le (by repeat (first | exact LeG.nil | apply LeG.same | apply LeG.drop))
  · rw [intR_len]
    refine q_whileX (fun f : List Rat => [.d (encP a), .d (encR (1 - lastOf a * lastOf a)), .l (f.map encR), .u, .d (encR (lastOf a)), .d (.int (a.length - 1 : Nat))]) (fun f => trim f = sdn a ∧ cf f 0 = 1 ∧ f.length ≤ 100) (fun f => decide (cf f (f.length - 1) = 0)) (fun f => f.length) (sdrow a) (LeG.refl _) ⟨rfl, ?_, by rw [sdrow_len]; omega⟩ (fun f hf => ?_) (fun f hf hc => ?_) (fun f hf hc => ?_)
    · rw [sdrow, cf_range, if_pos (by omega), sdE_zero hdr.1 n1]
    · have f0 : f ≠ [] := ne_of0 (by rw [hf.2.1]; decide)
      exact et_test (ev_eq (ev_ixL (ev_var rfl) (ev_ng ev_int) (atI_encl f0)) ev_kon rfl rfl (eqv_encR _ _))
    · have hc' : cf f (f.length - 1) = 0 := of_decide_eq_true hc
      have f0 : f ≠ [] := ne_of0 (by rw [hf.2.1]; decide)
      have fl := List.length_pos_iff.mpr f0
      have e : f = f.dropLast ++ [0] := by
        have := List.dropLast_concat_getLast f0
        have e2 : f.getLast f0 = cf f (f.length - 1) := by
          rw [List.getLast_eq_getElem]
          simp [cf, show f.length - 1 < f.length by omega]
        rw [e2, hc'] at this
        exact this.symm
      have c0 : cf f.dropLast 0 = 1 := by
        have h2 : 2 ≤ f.length := by
          apply Nat.lt_of_not_le
          intro hle
          have : f.length - 1 = 0 := by omega
          rw [this, hf.2.1] at hc'
          exact absurd hc' (by decide)
        have : cf f 0 = cf f.dropLast 0 := by
          rw [List.dropLast_eq_take]
          unfold cf
          rw [List.getD_eq_getElem?_getD, List.getD_eq_getElem?_getD, List.getElem?_take_of_lt (by omega)]
        rw [← this]
        exact hf.2.1
      refine g_pop rfl (by simpa using f0) (fun σ H' o => ⟨f.dropLast, ⟨?_, c0, ?_⟩, ?_, ?_⟩)
      · rw [← hf.1]
        conv => rhs; rw [e]
        rw [trim_snoc0]
      · rw [List.length_dropLast]; exact Nat.le_trans (Nat.sub_le _ _) hf.2.2
      · rw [List.length_dropLast]; omega
      · rw [← List.map_dropLast] at o
        exact o
    · have hc' : cf f (f.length - 1) ≠ 0 := of_decide_eq_false hc
      have e : sdn a = f := by
        rw [← hf.1]
        exact trd_of_last fun _ => hc'
      rw [e] at hD
      exact g_ret (x := .tuple [encR (lastOf a), encP f]) (ev_tup (ea_cons (ev_var rfl) (ea_cons (ev_cb (ea_cons (ev_var rfl) ea_nil) rc_tupL) ea_nil))) hD

abbrev s_down_row : Stmt := topS 36
theorem sc_down_row : FnScope ["poly", "found", "power", "last"] ["poly"] (defScope s_down_row) := ⟨rfl, rfl, rfl, by decide +kernel, rfl, by decide +kernel, by decide +kernel⟩
theorem ok_down_row (M : Glb P K mg base) (F : Dfn K mg "down_row" s_down_row) (c_stepped_down : Cal P w K mg base "stepped_down" ["poly"] 44 (sp1 K encP (fun p => DrOk p ∧ 2 ≤ p.length ∧ small (lastOf p) = true) (fun p => .tuple [encR (lastOf p), encP (sdn p)]))) (c_is_small : Cal P w K mg base "is_small" ["fraction"] 41 (sp1 K encR (fun _ => True) (fun q => .bool (small q)))) : Cal P w K mg base "down_row" ["poly"] 45 (sp1 K encP (fun p => DrOk p ∧ 1 ≤ p.length) (fun p => encRow (pdown p))) := by
  refine def_ok F sc_down_row (fun _ _ _ _ _ _ us hl => match us, hl with | [_], _ => rfl) (fun _ => rfl) (fun a => prs_cons (pr_encP a) rfl) fun cdv f A outer s H E hr a ha => ?_
  refine ⟨_, (pss_cons (ps_set (i := 1) sc_down_row.nd rfl (by first | exact Or.inl rfl | exact Or.inr rfl) (pe_lst pa_nil))
      (pss_cons (ps_while PassesOwn.never (pt_cmpR op_gtS (pe_callB call_lenS (by rfl) M.g_len boot_len (pa_cons (pv 0) pa_nil)) pe_int (nomark _)) (pss_cons (ps_if (pt_not (pt_val (pe_cal c_is_small (hr.mono (by decide)) (by rfl) (pa_cons (pe_ix ix_seq (pv 0) (pe_un un_negS pe_int) (fun _ _ => rfl)) pa_nil)))) (pss_one (ps_ret pe_non)) pss_nil)
      (pss_cons (ps_set (i := 2) sc_down_row.nd rfl (by first | exact Or.inl rfl | exact Or.inr rfl) (pe_op op_subS (pe_callB call_lenS (by rfl) M.g_len boot_len (pa_cons (pv 0) pa_nil)) pe_int))
      (pss_cons (ps_asg (pe_cal c_stepped_down (hr.mono (by decide)) (by rfl) (pa_cons (pv 0) pa_nil)) (pg_tup (by rfl) (pgs_cons (pg_name (i := 3) sc_down_row.nd rfl (by first | exact Or.inl rfl | exact Or.inr rfl)) (pgs_cons (pg_name (i := 0) sc_down_row.nd rfl (by first | exact Or.inl rfl | exact Or.inr rfl)) pgs_nil))))
      (pss_one (ps_expr (pe_bm PySem.F.plainAttrs_list PySem.F.slot_list_append PySem.F.type_list_append mt_append (pv 1) (pa_cons (pe_tup (pa_cons (pv 2) (pa_cons (pv 3) pa_nil))) pa_nil))))))))
      (pss_one (ps_ret (pe_callTy call_tupS (by rfl) M.g_tuple boot_tuple (pa_cons (pv 1) pa_nil)))))), fun D hD => ?_⟩
  refine q_setL (xs := []) (el_lst ea_nil) rfl ?_
  refine q_whileX (fun s : List (Nat × Rat) × List Rat => [.d (encP s.2), .l (s.1.map encKR), .u, .u]) (fun s => DrOk s.2 ∧ 1 ≤ s.2.length ∧ s.1.length + s.2.length ≤ 100 ∧ (pdown s.2).map (s.1 ++ ·) = pdown a) (fun s => decide (1 < s.2.length)) (fun s => s.2.length) ([], a) (LeG.refl _) ⟨ha.1, ha.2, by have := ha.1.2.1; simpa using this, by cases pdown a <;> rfl⟩ (fun s hs => (et_test (ev_gt (a := (s.2.length : Nat)) (b := 1) (ev_lenP (ev_var rfl)) ev_int)).to (decide_eq_decide.mpr (by omega))) (fun s hs hc => ?_) (fun s hs hc => ?_)
  · obtain ⟨hdr, h1, hln, hr⟩ := hs
    have hl : 2 ≤ s.2.length := of_decide_eq_true hc
    have a0 : s.2 ≠ [] := fun e => by rw [e] at hl; simp at hl
    cases hsm : small (lastOf s.2) with
    | false =>
      refine g_seq (g_yes (et_not1 (et_B ((ev_call1 (lastOf s.2) (ev_pl a0 (ev_var rfl) ev_int) trivial).to (by rw [← hsm])))) (g_ret (x := .none) ev_non ?_))
      rw [pdown_no hl hsm] at hr
      rw [← hr] at hD
      exact hD
    | true =>
      refine q_no (et_not0 (et_B ((ev_call1 (lastOf s.2) (ev_pl a0 (ev_var rfl) ev_int) trivial).to (by rw [← hsm])))) ?_
      refine q_set (x := .int (s.2.length - 1 : Nat)) ((ev_sub (ev_lenP (p := s.2) (ev_var rfl)) ev_int).to (by congr 1; omega)) rfl ?_
      refine q_unp (vs := [3, 0]) (d := .tuple [encR (lastOf s.2), encP (sdn s.2)]) (ev_call1 s.2 (ev_var rfl) ⟨hdr, hl, hsm⟩) (tg_tup2 rfl (pr_encP _) (by simp) (by simp)) ?_
      refine g_app (x := encKR (s.2.length - 1, lastOf s.2)) rfl (ev_tup (ea_cons (ev_var rfl) (ea_cons (ev_var rfl) ea_nil))) rfl (by rw [List.length_map]; omega) (fun σ H' o => ⟨(s.1 ++ [(s.2.length - 1, lastOf s.2)], sdn s.2), ⟨drok_step hdr hl hsm, ?_, ?_, ?_⟩, ?_, ?_⟩)
      · obtain ⟨t, ht, _⟩ := drok_t hdr hl
        exact sdn_pos hdr.1 (sd_facts ht hsm).1 hl
      · have := sdn_len (p := s.2)
        show (s.1 ++ [_]).length + (sdn s.2).length ≤ 100
        rw [List.length_append]
        simp only [List.length_cons, List.length_nil]
        omega
      · rw [← hr, pdown_yes hl hsm, Option.map_map]
        congr 1
        funext l
        simp
      · have := sdn_len (p := s.2)
        show (sdn s.2).length < s.2.length
        omega
      · have e : s.1.map encKR ++ [encKR (s.2.length - 1, lastOf s.2)] = (s.1 ++ [(s.2.length - 1, lastOf s.2)]).map encKR := by rw [List.map_append]; rfl
        rw [e] at o
        exact o.le (by repeat (first | exact LeG.nil | apply LeG.same | apply LeG.drop))
  · obtain ⟨hdr, h1, hln, hr⟩ := hs
    have hl : s.2.length ≤ 1 := by have := of_decide_eq_false hc; omega
    rw [pdown_le1 hl] at hr
    rw [← hr] at hD
    refine g_ret (x := encRow (some (s.1 ++ []))) ((ev_cb (ea_cons (ev_var rfl) ea_nil) rc_tupL).to ?_) hD
    rw [List.append_nil]; rfl

theorem keok_pos {p : List Rat} (h : KeOk p) : 1 ≤ (pone p).length := by
  rw [pone, psc_len]
  exact List.length_pos_iff.mpr (ne_of0 h.1)

abbrev s_is_far : Stmt := topS 37
theorem sc_is_far : FnScope ["poly"] ["poly"] (defScope s_is_far) := ⟨rfl, rfl, rfl, by decide +kernel, rfl, by decide +kernel, by decide +kernel⟩
theorem ok_is_far (M : Glb P K mg base) (F : Dfn K mg "is_far" s_is_far) (c_down_row : Cal P w K mg base "down_row" ["poly"] 45 (sp1 K encP (fun p => DrOk p ∧ 1 ≤ p.length) (fun p => encRow (pdown p)))) (c_scaled : Cal P w K mg base "scaled" ["poly", "fraction"] 44 (sp2 K encP encR (fun a => a.1.length ≤ 1000 ∧ (∀ i, Sm (cf a.1 i)) ∧ Sm a.2) (fun a => encP (pscal a.1 a.2)))) (c_over_by : Cal P w K mg base "over_by" ["one", "other"] 43 (sp2 K encR encR (fun a => Sm a.1 ∧ Sm a.2 ∧ a.2 ≠ 0) (fun a => encR (a.1 / a.2)))) : Cal P w K mg base "is_far" ["poly"] 46 (sp1 K encP KeOk (fun p => .bool (pdies p))) := by
  refine def_ok F sc_is_far (fun _ _ _ _ _ _ us hl => match us, hl with | [_], _ => rfl) (fun _ => rfl) (fun a => prs_cons (pr_encP a) rfl) fun cdv f A outer s H E hr a ha => ?_
  refine ⟨_, (pss_one (ps_ret (pe_cmpR op_notN1 (pe_cal c_down_row (hr.mono (by decide)) (by rfl) (pa_cons (pe_cal c_scaled (hr.mono (by decide)) (by rfl) (pa_cons (pv 0) (pa_cons (pe_cal c_over_by (hr.mono (by decide)) (by rfl) (pa_cons (pe_kon (by rfl) M.k_UNIT) (pa_cons (pe_ix ix_seq (pv 0) pe_int (fun _ _ => rfl)) pa_nil))) pa_nil))) pa_nil)) pe_non (nomark _)))), fun D hD => ?_⟩
  have hk := keok_dr ha
  have hp1 := keok_pos ha
  obtain ⟨h0, lp, t, ht, tz, hz⟩ := ha
  refine g_ret (x := .bool (pdies a)) ((ev_notN (x := encRow (pdown (pone a))) (ev_call1 (pone a) (EvE.to (ev_call2 a (1 / cf a 0) (ev_var rfl) (ev_call2 1 (cf a 0) ev_kon (ev_p0 h0 (ev_var rfl) ev_int) ⟨sm_one, ht.sm tz 0, h0⟩) ⟨Nat.le_trans lp (by decide), ht.sm tz, sm_inv (ht.sm tz 0) h0⟩) ?_) ⟨hk, hp1⟩)).to ?_) hD
  · show encP (pscal a _) = _
    rw [pscal_ne (inv_ne h0)]; rfl
  · rw [isNone_encRow]; rfl

abbrev s_dying_row : Stmt := topS 38
theorem sc_dying_row : FnScope ["quotient"] ["quotient"] (defScope s_dying_row) := ⟨rfl, rfl, rfl, by decide +kernel, rfl, by decide +kernel, by decide +kernel⟩
theorem ok_dying_row (M : Glb P K mg base) (F : Dfn K mg "dying_row" s_dying_row) (c_down_row : Cal P w K mg base "down_row" ["poly"] 45 (sp1 K encP (fun p => DrOk p ∧ 1 ≤ p.length) (fun p => encRow (pdown p)))) (c_kept : Cal P w K mg base "kept" ["quotient"] 45 (sp1 K encQ (fun q => KeOk q.2) (fun q => encP (pone q.2)))) : Cal P w K mg base "dying_row" ["quotient"] 46 (sp1 K encQ (fun q => KeOk q.2) (fun q => encRow (pdown (pone q.2)))) := by
  refine def_ok F sc_dying_row (fun _ _ _ _ _ _ us hl => match us, hl with | [_], _ => rfl) (fun _ => rfl) (fun a => prs_cons (pr_encQ a) rfl) fun cdv f A outer s H E hr a ha => ?_
  refine ⟨_, (pss_one (ps_ret (pe_cal c_down_row (hr.mono (by decide)) (by rfl) (pa_cons (pe_cal c_kept (hr.mono (by decide)) (by rfl) (pa_cons (pv 0) pa_nil)) pa_nil)))), fun D hD => ?_⟩
  exact g_ret (x := encRow (pdown (pone a.2))) (ev_call1 (pone a.2) (ev_call1 a (ev_var rfl) ha) ⟨keok_dr ha, keok_pos ha⟩) hD

abbrev s_does_die : Stmt := topS 39
theorem sc_does_die : FnScope ["quotient"] ["quotient"] (defScope s_does_die) := ⟨rfl, rfl, rfl, by decide +kernel, rfl, by decide +kernel, by decide +kernel⟩
theorem ok_does_die (M : Glb P K mg base) (F : Dfn K mg "does_die" s_does_die) (c_dying_row : Cal P w K mg base "dying_row" ["quotient"] 46 (sp1 K encQ (fun q => KeOk q.2) (fun q => encRow (pdown (pone q.2))))) : Cal P w K mg base "does_die" ["quotient"] 47 (sp1 K encQ (fun q => KeOk q.2) (fun q => .bool (pdies q.2))) := by
  refine def_ok F sc_does_die (fun _ _ _ _ _ _ us hl => match us, hl with | [_], _ => rfl) (fun _ => rfl) (fun a => prs_cons (pr_encQ a) rfl) fun cdv f A outer s H E hr a ha => ?_
  refine ⟨_, (pss_one (ps_ret (pe_cmpR op_notN1 (pe_cal c_dying_row (hr.mono (by decide)) (by rfl) (pa_cons (pv 0) pa_nil)) pe_non (nomark _)))), fun D hD => ?_⟩
  exact g_ret (x := .bool (pdies a.2)) ((ev_notN (x := encRow (pdown (pone a.2))) (ev_call1 a (ev_var rfl) ha)).to (by rw [isNone_encRow]; rfl)) hD

abbrev s_do_all_die : Stmt := topS 40
theorem sc_do_all_die : FnScope ["quotients", "quotient"] ["quotients"] (defScope s_do_all_die) := ⟨rfl, rfl, rfl, by decide +kernel, rfl, by decide +kernel, by decide +kernel⟩
theorem ok_do_all_die (M : Glb P K mg base) (F : Dfn K mg "do_all_die" s_do_all_die) (c_does_die : Cal P w K mg base "does_die" ["quotient"] 47 (sp1 K encQ (fun q => KeOk q.2) (fun q => .bool (pdies q.2)))) : Cal P w K mg base "do_all_die" ["quotients"] 48 (sp1 K (fun l : List (List Rat × List Rat) => .tuple (l.map encQ)) (fun l => l.length ≤ 100 ∧ ∀ q ∈ l, KeOk q.2) (fun l => .bool (l.all fun q => pdies q.2))) := by
  refine def_ok F sc_do_all_die (fun _ _ _ _ _ _ us hl => match us, hl with | [_], _ => rfl) (fun _ => rfl) (fun a => prs_cons (by simp only [pr]; exact prs_of fun x m => by obtain ⟨q, _, rfl⟩ := List.mem_map.mp m; exact pr_encQ q) rfl) fun cdv f A outer s H E hr a ha => ?_
  refine ⟨_, (pss_one (ps_ret (pe_callB (cr_all rfl) (by rfl) M.g_all boot_all (pa_cons (pe_lc (own := [("quotient", 1)]) rfl sc_do_all_die.nd (pi_tup (pv 0)) (blkOk_by (N := ["quotients", "quotient"]) (sc := defScope s_do_all_die) (by decide +kernel)) (fun _ _ _ _ _ => (pg_name (i := 1) sc_do_all_die.nd rfl (by first | exact Or.inl rfl | exact Or.inr rfl))) (fun _ _ _ _ _ => pts_nil) (fun _ _ _ _ _ => (pe_cal c_does_die (hr.mono (by decide)) (by rfl) (pa_cons (pv 1) pa_nil)))) pa_nil)))), fun D hD => ?_⟩
  obtain ⟨ll, hq⟩ := ha
  refine g_ret (x := .bool (a.all fun q => pdies q.2)) (EvE.to (ev_cb (ea_cons (ev_of (el_lc ((a.map fun q => pdies q.2).map PyData.bool) (ec_tup (ev_var rfl)) (by simp) (by rw [List.length_map]; omega) (prs_of fun x m => by obtain ⟨q, _, rfl⟩ := List.mem_map.mp m; rfl) fun i d y hd hy => ?_)) ea_nil) rc_all) ?_) hD
  · rw [List.getElem?_map] at hd hy
    rw [List.getElem?_map] at hy
    cases hi : a[i]? with
    | none => rw [hi] at hd; cases hd
    | some q =>
      rw [hi] at hd hy
      obtain rfl := Option.some.inj hd
      obtain rfl := Option.some.inj hy
      exact ⟨_, tg_name (pr_encQ q) (by simp), ev_call1 q (ev_var rfl) (hq q (List.mem_of_getElem? hi))⟩
  · congr 1
    rw [List.all_map]; rfl

end
end Sw
namespace Sw
open PySem PySem.Spec L2
open PyProof.Rows hiding St
def encO : Option Rat → PyData
  | none => .none
  | some q => encR q
theorem pr_encO (o : Option Rat) : pr (encO o) = true := by cases o <;> rfl
theorem isNone_encO (o : Option Rat) : (!isNone (encO o)) = o.isSome := by cases o <;> rfl
theorem eqv_encO (o : Option Rat) : PyData.eqv (encO o) .none = !o.isSome := by
  cases o with
  | none => rfl
  | some q => rfl
theorem lay_encO (o : Option Rat) : (encO o).canLay0 = true ∧ (encO o).depth ≤ 2 := by
  cases o with
  | none => exact ⟨rfl, Nat.le_of_ble_eq_true rfl⟩
  | some q => exact lay_encR q
theorem prs2 {x y : PyData} (h1 : pr x = true) (h2 : pr y = true) : prs [x, y] = true := prs_cons h1 (prs_cons h2 rfl)
section
variable {P : Program} {w : World} {K : Fg} {mg : Str → Option Value} {base : Heap}

abbrev s_made_of : Stmt := topS 44
theorem sc_made_of : FnScope ["above", "below", "shared", "factor"] ["above", "below"] (defScope s_made_of) := ⟨rfl, rfl, rfl, by decide +kernel, rfl, by decide +kernel, by decide +kernel⟩
theorem ok_made_of (M : Glb P K mg base) (F : Dfn K mg "made_of" s_made_of) (c_scaled : Cal P w K mg base "scaled" ["poly", "fraction"] 44 (sp2 K encP encR (fun a => a.1.length ≤ 1000 ∧ (∀ i, Sm (cf a.1 i)) ∧ Sm a.2) (fun a => encP (pscal a.1 a.2)))) (c_over_by : Cal P w K mg base "over_by" ["one", "other"] 43 (sp2 K encR encR (fun a => Sm a.1 ∧ Sm a.2 ∧ a.2 ≠ 0) (fun a => encR (a.1 / a.2)))) (c_divided : Cal P w K mg base "divided" ["one", "other"] 44 (sp2 K encP encP (fun a => DvOk a.1 a.2) (fun a => encQ (pquo a.1 a.2, prem a.1 a.2)))) (c_common : Cal P w K mg base "common" ["one", "other"] 46 (sp2 K encP encP (fun a => GOk a) (fun a => encP (pwu (pgcd true a))))) : Cal P w K mg base "made_of" ["above", "below"] 47 (sp2 K encP encP MkOk (fun a => encQ (pmk a))) := by
  refine def_ok F sc_made_of (fun _ _ _ _ _ _ us hl => match us, hl with | [_, _], _ => rfl) (fun _ => rfl) (fun a => prs2 (pr_encP a.1) (pr_encP a.2)) fun cdv f A outer s H E hr a ha => ?_
  have hu := room_eq (k := 6) hr
  refine ⟨_, (pss_cons (ps_if (pt_cmpR (op_eqD hu) (pv 1) (pe_tup pa_nil) (nomark _)) pss_never pss_nil)
      (pss_cons (ps_set (i := 2) sc_made_of.nd rfl (by first | exact Or.inl rfl | exact Or.inr rfl) (pe_cal c_common (hr.mono (by decide)) (by rfl) (pa_cons (pv 0) (pa_cons (pv 1) pa_nil))))
      (pss_cons (ps_par (i := 0) (j := 1) rfl sc_made_of.nd rfl rfl (by decide) rfl rfl (pa_cons (pe_ix ix_seq (pe_cal c_divided (hr.mono (by decide)) (by rfl) (pa_cons (pv 0) (pa_cons (pv 2) pa_nil))) pe_int (fun _ _ => rfl)) (pa_cons (pe_ix ix_seq (pe_cal c_divided (hr.mono (by decide)) (by rfl) (pa_cons (pv 1) (pa_cons (pv 2) pa_nil))) pe_int (fun _ _ => rfl)) pa_nil)) (by rfl))
      (pss_cons (ps_set (i := 3) sc_made_of.nd rfl (by first | exact Or.inl rfl | exact Or.inr rfl) (pe_cal c_over_by (hr.mono (by decide)) (by rfl) (pa_cons (pe_kon (by rfl) M.k_UNIT) (pa_cons (pe_ix ix_seq (pv 1) (pe_un un_negS pe_int) (fun _ _ => rfl)) pa_nil))))
      (pss_one (ps_ret (pe_tup (pa_cons (pe_cal c_scaled (hr.mono (by decide)) (by rfl) (pa_cons (pv 0) (pa_cons (pv 3) pa_nil))) (pa_cons (pe_cal c_scaled (hr.mono (by decide)) (by rfl) (pa_cons (pv 1) (pa_cons (pv 3) pa_nil))) pa_nil))))))))), fun D hD => ?_⟩
  obtain ⟨d1, d2, s1, s2, lb, nb, l1, l2⟩ := mk_dv ha
  obtain ⟨h0, g, _⟩ := id ha
  refine q_no (et_test (ev_eq (ev_var rfl) (ev_tup ea_nil) (sh_encP a.2) rfl ((eqv_nil _).trans (by simp [h0])))) ?_
  refine q_set (x := encP (pgc a)) (ev_call2 a.1 a.2 (ev_var rfl) (ev_var rfl) g) (pr_encP _) ?_
  refine q_par (b1 := .d (encP (pquo a.1 (pgc a)))) (b2 := .d (encP (pquo a.2 (pgc a)))) ⟨ev_q1 (q := (pquo a.1 (pgc a), prem a.1 (pgc a))) (ev_call2 a.1 (pgc a) (ev_var rfl) (ev_var rfl) d1) ev_int, pr_encP _⟩ ⟨ev_q1 (q := (pquo a.2 (pgc a), prem a.2 (pgc a))) (ev_call2 a.2 (pgc a) (ev_var rfl) (ev_var rfl) d2) ev_int, pr_encP _⟩ ?_
  refine q_set (x := encR (1 / lastOf (pquo a.2 (pgc a)))) (ev_call2 1 (lastOf (pquo a.2 (pgc a))) ev_kon (ev_pl nb (ev_var rfl) ev_int) ⟨sm_one, s2 _, lb⟩) rfl ?_
  have si := sm_inv (s2 _) lb
  refine g_ret (x := encQ (pmk a)) (ev_tup (ea_cons (EvE.to (ev_call2 (pquo a.1 (pgc a)) (1 / lastOf (pquo a.2 (pgc a))) (ev_var rfl) (ev_var rfl) ⟨Nat.le_trans l1 (by decide), s1, si⟩) ?_) (ea_cons (EvE.to (ev_call2 (pquo a.2 (pgc a)) (1 / lastOf (pquo a.2 (pgc a))) (ev_var rfl) (ev_var rfl) ⟨Nat.le_trans l2 (by decide), s2, si⟩) ?_) ea_nil))) hD
  · show encP (pscal _ _) = encP (psc _ _)
    rw [pscal_ne (inv_ne lb)]
  · show encP (pscal _ _) = encP (psc _ _)
    rw [pscal_ne (inv_ne lb)]

abbrev s_sum_of : Stmt := topS 45
theorem sc_sum_of : FnScope ["one", "other", "above"] ["one", "other"] (defScope s_sum_of) := ⟨rfl, rfl, rfl, by decide +kernel, rfl, by decide +kernel, by decide +kernel⟩
theorem ok_sum_of (M : Glb P K mg base) (F : Dfn K mg "sum_of" s_sum_of) (c_made_of : Cal P w K mg base "made_of" ["above", "below"] 47 (sp2 K encP encP MkOk (fun a => encQ (pmk a)))) (c_poly_times : Cal P w K mg base "poly_times" ["one", "other"] 44 (sp2 K encP encP (fun a => MuOk a.1 a.2) (fun a => encP (pmul a.1 a.2)))) (c_poly_plus : Cal P w K mg base "poly_plus" ["one", "other"] 44 (sp2 K encP encP (fun a => a.1.length ≤ 1000 ∧ a.2.length ≤ 1000 ∧ (∀ i, Sm (cf a.1 i)) ∧ ∀ i, Sm (cf a.2 i)) (fun a => encP (pplus a.1 a.2)))) : Cal P w K mg base "sum_of" ["one", "other"] 48 (sp2 K encQ encQ (fun a => SuOk a.1 a.2) (fun a => encQ (psum a.1 a.2))) := by
  refine def_ok F sc_sum_of (fun _ _ _ _ _ _ us hl => match us, hl with | [_, _], _ => rfl) (fun _ => rfl) (fun a => prs2 (pr_encQ a.1) (pr_encQ a.2)) fun cdv f A outer s H E hr a ha => ?_
  refine ⟨_, (pss_cons (ps_set (i := 2) sc_sum_of.nd rfl (by first | exact Or.inl rfl | exact Or.inr rfl) (pe_cal c_poly_plus (hr.mono (by decide)) (by rfl) (pa_cons (pe_cal c_poly_times (hr.mono (by decide)) (by rfl) (pa_cons (pe_ix ix_seq (pv 0) pe_int (fun _ _ => rfl)) (pa_cons (pe_ix ix_seq (pv 1) pe_int (fun _ _ => rfl)) pa_nil))) (pa_cons (pe_cal c_poly_times (hr.mono (by decide)) (by rfl) (pa_cons (pe_ix ix_seq (pv 1) pe_int (fun _ _ => rfl)) (pa_cons (pe_ix ix_seq (pv 0) pe_int (fun _ _ => rfl)) pa_nil))) pa_nil))))
      (pss_one (ps_ret (pe_cal c_made_of (hr.mono (by decide)) (by rfl) (pa_cons (pv 2) (pa_cons (pe_cal c_poly_times (hr.mono (by decide)) (by rfl) (pa_cons (pe_ix ix_seq (pv 0) pe_int (fun _ _ => rfl)) (pa_cons (pe_ix ix_seq (pv 1) pe_int (fun _ _ => rfl)) pa_nil))) pa_nil)))))), fun D hD => ?_⟩
  obtain ⟨m1, m2, m3, mk⟩ := ha
  obtain ⟨u1, v1⟩ := mu_out m1
  obtain ⟨u2, v2⟩ := mu_out m2
  refine q_set (x := encP (pplus (pmul a.1.1 a.2.2) (pmul a.2.1 a.1.2))) (ev_call2 (pmul a.1.1 a.2.2) (pmul a.2.1 a.1.2) (ev_call2 a.1.1 a.2.2 (ev_q1 (ev_var rfl) ev_int) (ev_q2 (ev_var rfl) ev_int) m1) (ev_call2 a.2.1 a.1.2 (ev_q1 (ev_var rfl) ev_int) (ev_q2 (ev_var rfl) ev_int) m2) ⟨v1, v2, u1, u2⟩) (pr_encP _) ?_
  exact g_ret (x := encQ (psum a.1 a.2)) (ev_call2 (pplus (pmul a.1.1 a.2.2) (pmul a.2.1 a.1.2)) (pmul a.1.2 a.2.2) (ev_var rfl) (ev_call2 a.1.2 a.2.2 (ev_q2 (ev_var rfl) ev_int) (ev_q2 (ev_var rfl) ev_int) m3) mk) hD

abbrev s_turned_sign : Stmt := topS 46
theorem sc_turned_sign : FnScope ["quotient"] ["quotient"] (defScope s_turned_sign) := ⟨rfl, rfl, rfl, by decide +kernel, rfl, by decide +kernel, by decide +kernel⟩
theorem ok_turned_sign (M : Glb P K mg base) (F : Dfn K mg "turned_sign" s_turned_sign) (c_opposite : Cal P w K mg base "opposite" ["poly"] 41 (sp1 K encP (fun p => p.length ≤ 1000) (fun p => encP (pneg p)))) : Cal P w K mg base "turned_sign" ["quotient"] 42 (sp1 K encQ (fun q => q.1.length ≤ 1000) (fun q => encQ (pneg q.1, q.2))) := by
  refine def_ok F sc_turned_sign (fun _ _ _ _ _ _ us hl => match us, hl with | [_], _ => rfl) (fun _ => rfl) (fun a => prs_cons (pr_encQ a) rfl) fun cdv f A outer s H E hr a ha => ?_
  refine ⟨_, (pss_one (ps_ret (pe_tup (pa_cons (pe_cal c_opposite (hr.mono (by decide)) (by rfl) (pa_cons (pe_ix ix_seq (pv 0) pe_int (fun _ _ => rfl)) pa_nil)) (pa_cons (pe_ix ix_seq (pv 0) pe_int (fun _ _ => rfl)) pa_nil))))), fun D hD => ?_⟩
  exact g_ret (x := encQ (pneg a.1, a.2)) (ev_tup (ea_cons (ev_call1 a.1 (ev_q1 (q := a) (ev_var rfl) ev_int) ha) (ea_cons (ev_q2 (q := a) (ev_var rfl) ev_int) ea_nil))) hD

abbrev s_difference : Stmt := topS 47
theorem sc_difference : FnScope ["one", "other"] ["one", "other"] (defScope s_difference) := ⟨rfl, rfl, rfl, by decide +kernel, rfl, by decide +kernel, by decide +kernel⟩
theorem ok_difference (M : Glb P K mg base) (F : Dfn K mg "difference" s_difference) (c_sum_of : Cal P w K mg base "sum_of" ["one", "other"] 48 (sp2 K encQ encQ (fun a => SuOk a.1 a.2) (fun a => encQ (psum a.1 a.2)))) (c_turned_sign : Cal P w K mg base "turned_sign" ["quotient"] 42 (sp1 K encQ (fun q => q.1.length ≤ 1000) (fun q => encQ (pneg q.1, q.2)))) : Cal P w K mg base "difference" ["one", "other"] 49 (sp2 K encQ encQ (fun a => DiOk a.1 a.2) (fun a => encQ (pdiff a.1 a.2))) := by
  refine def_ok F sc_difference (fun _ _ _ _ _ _ us hl => match us, hl with | [_, _], _ => rfl) (fun _ => rfl) (fun a => prs2 (pr_encQ a.1) (pr_encQ a.2)) fun cdv f A outer s H E hr a ha => ?_
  refine ⟨_, (pss_one (ps_ret (pe_cal c_sum_of (hr.mono (by decide)) (by rfl) (pa_cons (pv 0) (pa_cons (pe_cal c_turned_sign (hr.mono (by decide)) (by rfl) (pa_cons (pv 1) pa_nil)) pa_nil))))), fun D hD => ?_⟩
  exact g_ret (x := encQ (pdiff a.1 a.2)) (ev_call2 a.1 (pneg a.2.1, a.2.2) (ev_var rfl) (ev_call1 a.2 (ev_var rfl) ha.2) ha.1) hD

abbrev s_product : Stmt := topS 48
theorem sc_product : FnScope ["one", "other"] ["one", "other"] (defScope s_product) := ⟨rfl, rfl, rfl, by decide +kernel, rfl, by decide +kernel, by decide +kernel⟩
theorem ok_product (M : Glb P K mg base) (F : Dfn K mg "product" s_product) (c_made_of : Cal P w K mg base "made_of" ["above", "below"] 47 (sp2 K encP encP MkOk (fun a => encQ (pmk a)))) (c_poly_times : Cal P w K mg base "poly_times" ["one", "other"] 44 (sp2 K encP encP (fun a => MuOk a.1 a.2) (fun a => encP (pmul a.1 a.2)))) : Cal P w K mg base "product" ["one", "other"] 48 (sp2 K encQ encQ (fun a => PrOk a.1 a.2) (fun a => encQ (pprod a.1 a.2))) := by
  refine def_ok F sc_product (fun _ _ _ _ _ _ us hl => match us, hl with | [_, _], _ => rfl) (fun _ => rfl) (fun a => prs2 (pr_encQ a.1) (pr_encQ a.2)) fun cdv f A outer s H E hr a ha => ?_
  refine ⟨_, (pss_one (ps_ret (pe_cal c_made_of (hr.mono (by decide)) (by rfl) (pa_cons (pe_cal c_poly_times (hr.mono (by decide)) (by rfl) (pa_cons (pe_ix ix_seq (pv 0) pe_int (fun _ _ => rfl)) (pa_cons (pe_ix ix_seq (pv 1) pe_int (fun _ _ => rfl)) pa_nil))) (pa_cons (pe_cal c_poly_times (hr.mono (by decide)) (by rfl) (pa_cons (pe_ix ix_seq (pv 0) pe_int (fun _ _ => rfl)) (pa_cons (pe_ix ix_seq (pv 1) pe_int (fun _ _ => rfl)) pa_nil))) pa_nil))))), fun D hD => ?_⟩
  obtain ⟨m1, m2, mk⟩ := ha
  exact g_ret (x := encQ (pprod a.1 a.2)) (ev_call2 (pmul a.1.1 a.2.1) (pmul a.1.2 a.2.2) (ev_call2 a.1.1 a.2.1 (ev_q1 (ev_var rfl) ev_int) (ev_q1 (ev_var rfl) ev_int) m1) (ev_call2 a.1.2 a.2.2 (ev_q2 (ev_var rfl) ev_int) (ev_q2 (ev_var rfl) ev_int) m2) mk) hD

abbrev s_at_fraction : Stmt := topS 49
theorem sc_at_fraction : FnScope ["quotient", "fraction", "below"] ["quotient", "fraction"] (defScope s_at_fraction) := ⟨rfl, rfl, rfl, by decide +kernel, rfl, by decide +kernel, by decide +kernel⟩
theorem ok_at_fraction (M : Glb P K mg base) (F : Dfn K mg "at_fraction" s_at_fraction) (c_over_by : Cal P w K mg base "over_by" ["one", "other"] 43 (sp2 K encR encR (fun a => Sm a.1 ∧ Sm a.2 ∧ a.2 ≠ 0) (fun a => encR (a.1 / a.2)))) (c_value_at : Cal P w K mg base "value_at" ["poly", "fraction"] 44 (sp2 K encP encR (fun a => VaOk a.1 a.2) (fun a => encR (ev a.1 a.2)))) (c_is_fraction : Cal P w K mg base "is_fraction" ["thing"] 42 (sp1 K encR (fun _ => True) (fun _ => .bool true))) : Cal P w K mg base "at_fraction" ["quotient", "fraction"] 45 (sp2 K encQ encR (fun a => AtOk a.1 a.2) (fun a => encR (pat a.1 a.2))) := by
  refine def_ok F sc_at_fraction (fun _ _ _ _ _ _ us hl => match us, hl with | [_, _], _ => rfl) (fun _ => rfl) (fun a => prs2 (pr_encQ a.1) rfl) fun cdv f A outer s H E hr a ha => ?_
  have hu := room_eq (k := 4) hr
  refine ⟨_, (pss_cons (ps_if (pt_not (pt_val (pe_cal c_is_fraction (hr.mono (by decide)) (by rfl) (pa_cons (pv 1) pa_nil)))) pss_never pss_nil)
      (pss_cons (ps_set (i := 2) sc_at_fraction.nd rfl (by first | exact Or.inl rfl | exact Or.inr rfl) (pe_cal c_value_at (hr.mono (by decide)) (by rfl) (pa_cons (pe_ix ix_seq (pv 0) pe_int (fun _ _ => rfl)) (pa_cons (pv 1) pa_nil))))
      (pss_cons (ps_if (pt_cmpR (op_eqD hu) (pv 2) (pe_kon (by rfl) M.k_NIL) (nomark _)) pss_never pss_nil)
      (pss_one (ps_ret (pe_cal c_over_by (hr.mono (by decide)) (by rfl) (pa_cons (pe_cal c_value_at (hr.mono (by decide)) (by rfl) (pa_cons (pe_ix ix_seq (pv 0) pe_int (fun _ _ => rfl)) (pa_cons (pv 1) pa_nil))) (pa_cons (pv 2) pa_nil)))))))), fun D hD => ?_⟩
  obtain ⟨v1, v2, n0⟩ := ha
  refine q_no (et_not0 (et_B (ev_call1 a.2 (ev_var rfl) trivial))) ?_
  refine q_set (x := encR (ev a.1.2 a.2)) (ev_call2 a.1.2 a.2 (ev_q2 (ev_var rfl) ev_int) (ev_var rfl) v2) rfl ?_
  refine q_no (et_test (ev_eq (ev_var rfl) ev_kon rfl rfl ((eqv_encR _ _).trans (by simp [n0])))) ?_
  exact g_ret (x := encR (pat a.1 a.2)) (ev_call2 (ev a.1.1 a.2) (ev a.1.2 a.2) (ev_call2 a.1.1 a.2 (ev_q1 (ev_var rfl) ev_int) (ev_var rfl) v1) (ev_var rfl) ⟨va_sm v1, va_sm v2, n0⟩) hD

abbrev s_has_step : Stmt := topS 52
theorem sc_has_step : FnScope ["poly"] ["poly"] (defScope s_has_step) := ⟨rfl, rfl, rfl, by decide +kernel, rfl, by decide +kernel, by decide +kernel⟩
theorem ok_has_step (M : Glb P K mg base) (F : Dfn K mg "has_step" s_has_step) (c_value_at : Cal P w K mg base "value_at" ["poly", "fraction"] 44 (sp2 K encP encR (fun a => VaOk a.1 a.2) (fun a => encR (ev a.1 a.2)))) : Cal P w K mg base "has_step" ["poly"] 45 (sp1 K encP (fun p => VaOk p 1) (fun p => .bool (decide (ev p 1 = 0)))) := by
  refine def_ok F sc_has_step (fun _ _ _ _ _ _ us hl => match us, hl with | [_], _ => rfl) (fun _ => rfl) (fun a => prs_cons (pr_encP a) rfl) fun cdv f A outer s H E hr a ha => ?_
  have hu := room_eq (k := 4) hr
  refine ⟨_, (pss_one (ps_ret (pe_cmpR (op_eqD hu) (pe_cal c_value_at (hr.mono (by decide)) (by rfl) (pa_cons (pv 0) (pa_cons (pe_kon (by rfl) M.k_UNIT) pa_nil))) (pe_kon (by rfl) M.k_NIL) (nomark _)))), fun D hD => ?_⟩
  exact g_ret (x := .bool (decide (ev a 1 = 0))) (ev_eq (ev_call2 a 1 (ev_var rfl) ev_kon ha) ev_kon rfl rfl (eqv_encR _ _)) hD

abbrev s_last_value : Stmt := topS 53
theorem sc_last_value : FnScope ["quotient", "poly"] ["quotient"] (defScope s_last_value) := ⟨rfl, rfl, rfl, by decide +kernel, rfl, by decide +kernel, by decide +kernel⟩
theorem ok_last_value (M : Glb P K mg base) (F : Dfn K mg "last_value" s_last_value) (c_at_fraction : Cal P w K mg base "at_fraction" ["quotient", "fraction"] 45 (sp2 K encQ encR (fun a => AtOk a.1 a.2) (fun a => encR (pat a.1 a.2)))) (c_product : Cal P w K mg base "product" ["one", "other"] 48 (sp2 K encQ encQ (fun a => PrOk a.1 a.2) (fun a => encQ (pprod a.1 a.2)))) (c_difference : Cal P w K mg base "difference" ["one", "other"] 49 (sp2 K encQ encQ (fun a => DiOk a.1 a.2) (fun a => encQ (pdiff a.1 a.2)))) (c_is_far : Cal P w K mg base "is_far" ["poly"] 46 (sp1 K encP KeOk (fun p => .bool (pdies p)))) (c_divided : Cal P w K mg base "divided" ["one", "other"] 44 (sp2 K encP encP (fun a => DvOk a.1 a.2) (fun a => encQ (pquo a.1 a.2, prem a.1 a.2)))) (c_has_step : Cal P w K mg base "has_step" ["poly"] 45 (sp1 K encP (fun p => VaOk p 1) (fun p => .bool (decide (ev p 1 = 0))))) (c_kept : Cal P w K mg base "kept" ["quotient"] 45 (sp1 K encQ (fun q => KeOk q.2) (fun q => encP (pone q.2)))) (c_does_die : Cal P w K mg base "does_die" ["quotient"] 47 (sp1 K encQ (fun q => KeOk q.2) (fun q => .bool (pdies q.2)))) : Cal P w K mg base "last_value" ["quotient"] 50 (sp1 K encQ LaOk (fun q => encO (plast q))) := by
  refine def_ok F sc_last_value (fun _ _ _ _ _ _ us hl => match us, hl with | [_], _ => rfl) (fun _ => rfl) (fun a => prs_cons (pr_encQ a) rfl) fun cdv f A outer s H E hr a ha => ?_
  refine ⟨_, (pss_cons (ps_if (pt_val (pe_cal c_does_die (hr.mono (by decide)) (by rfl) (pa_cons (pv 0) pa_nil))) (pss_one (ps_ret (pe_kon (by rfl) M.k_NIL))) pss_nil)
      (pss_cons (ps_set (i := 1) sc_last_value.nd rfl (by first | exact Or.inl rfl | exact Or.inr rfl) (pe_cal c_kept (hr.mono (by decide)) (by rfl) (pa_cons (pv 0) pa_nil)))
      (pss_cons (ps_if (pw_or (pt_not (pt_val (pe_cal c_has_step (hr.mono (by decide)) (by rfl) (pa_cons (pv 1) pa_nil)))) (pw_or1 (pt_not (pt_val (pe_cal c_is_far (hr.mono (by decide)) (by rfl) (pa_cons (pe_ix ix_seq (pe_cal c_divided (hr.mono (by decide)) (by rfl) (pa_cons (pv 1) (pa_cons (pe_kon (by rfl) M.k_STEP) pa_nil))) pe_int (fun _ _ => rfl)) pa_nil)))))).pt (pss_one (ps_ret pe_non)) pss_nil)
      (pss_one (ps_ret (pe_cal c_at_fraction (hr.mono (by decide)) (by rfl) (pa_cons (pe_cal c_product (hr.mono (by decide)) (by rfl) (pa_cons (pv 0) (pa_cons (pe_cal c_difference (hr.mono (by decide)) (by rfl) (pa_cons (pe_kon (by rfl) M.k_ONE) (pa_cons (pe_kon (by rfl) M.k_X) pa_nil))) pa_nil))) (pa_cons (pe_kon (by rfl) M.k_UNIT) pa_nil)))))))), fun D hD => ?_⟩
  obtain ⟨hk, hno⟩ := ha
  cases hd : pdies a.2 with
  | true =>
    refine g_seq (g_yes (et_B ((ev_call1 a (ev_var rfl) hk).to (by rw [← hd]))) (g_ret (x := encO (plast a)) (ev_kon.to ?_) hD))
    rw [plast, if_pos hd]; rfl
  | false =>
    obtain ⟨va, hst⟩ := hno hd
    refine q_no (et_B ((ev_call1 a (ev_var rfl) hk).to (by rw [← hd]))) ?_
    refine q_set (x := encP (pone a.2)) (ev_call1 a (ev_var rfl) hk) (pr_encP _) ?_
    by_cases he : ev (pone a.2) 1 = 0
    · obtain ⟨dv, kf, hpr⟩ := hst he
      cases hf : pdies (pquo (pone a.2) cSTEP) with
      | true =>
        obtain ⟨pr, ao⟩ := hpr hf
        refine q_no (et_or0 (et_not0 (et_B ((ev_call1 (pone a.2) (ev_var rfl) va).to (by simp [he])))) (et_not0 (et_B ((ev_call1 (pquo (pone a.2) cSTEP) (ev_q1 (q := (pquo (pone a.2) cSTEP, prem (pone a.2) cSTEP)) (ev_call2 (pone a.2) cSTEP (ev_var rfl) ev_kon dv) ev_int) kf).to (by rw [← hf]))))) ?_
        refine g_ret (x := encO (plast a)) (EvE.to (ev_call2 (pprod a pOX) 1 (ev_call2 a pOX (ev_var rfl) ((ev_call2 cONE cX ev_kon ev_kon diok_ox).to (congrArg encQ pdiff_ox)) pr) ev_kon ao) ?_) hD
        rw [plast, if_neg (by rw [hd]; decide), if_pos ⟨he, hf⟩]; rfl
      | false =>
        refine g_seq (g_yes (et_or2 (et_not0 (et_B ((ev_call1 (pone a.2) (ev_var rfl) va).to (by simp [he])))) (et_not1 (et_B ((ev_call1 (pquo (pone a.2) cSTEP) (ev_q1 (q := (pquo (pone a.2) cSTEP, prem (pone a.2) cSTEP)) (ev_call2 (pone a.2) cSTEP (ev_var rfl) ev_kon dv) ev_int) kf).to (by rw [← hf]))))) (g_ret (x := encO (plast a)) (ev_non.to ?_) hD))
        rw [plast, if_neg (by rw [hd]; decide), if_neg (by rw [hf]; simp)]; rfl
    · refine g_seq (g_yes (et_or1 (et_not1 (et_B ((ev_call1 (pone a.2) (ev_var rfl) va).to (by simp [he]))))) (g_ret (x := encO (plast a)) (ev_non.to ?_) hD))
      rw [plast, if_neg (by rw [hd]; decide), if_neg (fun h => he h.1)]; rfl

abbrev s_total : Stmt := topS 54
theorem sc_total : FnScope ["quotient"] ["quotient"] (defScope s_total) := ⟨rfl, rfl, rfl, by decide +kernel, rfl, by decide +kernel, by decide +kernel⟩
theorem ok_total (M : Glb P K mg base) (F : Dfn K mg "total" s_total) (c_does_die : Cal P w K mg base "does_die" ["quotient"] 47 (sp1 K encQ (fun q => KeOk q.2) (fun q => .bool (pdies q.2)))) (c_at_fraction : Cal P w K mg base "at_fraction" ["quotient", "fraction"] 45 (sp2 K encQ encR (fun a => AtOk a.1 a.2) (fun a => encR (pat a.1 a.2)))) : Cal P w K mg base "total" ["quotient"] 48 (sp1 K encQ ToOk (fun q => encO (ptotal q))) := by
  refine def_ok F sc_total (fun _ _ _ _ _ _ us hl => match us, hl with | [_], _ => rfl) (fun _ => rfl) (fun a => prs_cons (pr_encQ a) rfl) fun cdv f A outer s H E hr a ha => ?_
  refine ⟨_, (pss_one (ps_ret (pe_ifExp (pt_val (pe_cal c_does_die (hr.mono (by decide)) (by rfl) (pa_cons (pv 0) pa_nil))) (pe_cal c_at_fraction (hr.mono (by decide)) (by rfl) (pa_cons (pv 0) (pa_cons (pe_kon (by rfl) M.k_UNIT) pa_nil))) pe_non))), fun D hD => ?_⟩
  obtain ⟨hk, hat⟩ := ha
  refine g_ret (x := encO (ptotal a)) (ev_if (b := pdies a.2) (et_B (ev_call1 a (ev_var rfl) hk)) (fun h => EvE.to (ev_call2 a 1 (ev_var rfl) ev_kon (hat h)) ?_) fun h => ev_non.to ?_) hD
  · rw [ptotal, if_pos h]; rfl
  · rw [ptotal, if_neg (by rw [h]; decide)]; rfl

abbrev s_led_by_ticks : Stmt := topS 55
theorem sc_led_by_ticks : FnScope ["quotient", "top", "above", "below"] ["quotient"] (defScope s_led_by_ticks) := ⟨rfl, rfl, rfl, by decide +kernel, rfl, by decide +kernel, by decide +kernel⟩
theorem ok_led_by_ticks (M : Glb P K mg base) (F : Dfn K mg "led_by_ticks" s_led_by_ticks) (c_product : Cal P w K mg base "product" ["one", "other"] 48 (sp2 K encQ encQ (fun a => PrOk a.1 a.2) (fun a => encQ (pprod a.1 a.2)))) (c_made_of : Cal P w K mg base "made_of" ["above", "below"] 47 (sp2 K encP encP MkOk (fun a => encQ (pmk a)))) (c_poly_times : Cal P w K mg base "poly_times" ["one", "other"] 44 (sp2 K encP encP (fun a => MuOk a.1 a.2) (fun a => encP (pmul a.1 a.2)))) (c_poly_minus : Cal P w K mg base "poly_minus" ["one", "other"] 45 (sp2 K encP encP (fun a => a.1.length ≤ 1000 ∧ a.2.length ≤ 1000 ∧ (∀ i, Sm (cf a.1 i)) ∧ ∀ i, Sm (cf a.2 i)) (fun a => encP (pplus a.1 (pneg a.2))))) (c_derived : Cal P w K mg base "derived" ["poly"] 44 (sp1 K encP (fun p => p.length ≤ 1000 ∧ (∀ i : Nat, Sm (i : Rat) ∨ p.length ≤ i) ∧ ∀ i, Sm (cf p i)) (fun p => encP (pder p)))) : Cal P w K mg base "led_by_ticks" ["quotient"] 49 (sp1 K encQ LeOk (fun q => encQ (pled q))) := by
  refine def_ok F sc_led_by_ticks (fun _ _ _ _ _ _ us hl => match us, hl with | [_], _ => rfl) (fun _ => rfl) (fun a => prs_cons (pr_encQ a) rfl) fun cdv f A outer s H E hr a ha => ?_
  refine ⟨_, (pss_cons (ps_asg (pv 0) (pg_tup (by rfl) (pgs_cons (pg_name (i := 2) sc_led_by_ticks.nd rfl (by first | exact Or.inl rfl | exact Or.inr rfl)) (pgs_cons (pg_name (i := 3) sc_led_by_ticks.nd rfl (by first | exact Or.inl rfl | exact Or.inr rfl)) pgs_nil))))
      (pss_cons (ps_set (i := 1) sc_led_by_ticks.nd rfl (by first | exact Or.inl rfl | exact Or.inr rfl) (pe_cal c_poly_minus (hr.mono (by decide)) (by rfl) (pa_cons (pe_cal c_poly_times (hr.mono (by decide)) (by rfl) (pa_cons (pe_cal c_derived (hr.mono (by decide)) (by rfl) (pa_cons (pv 2) pa_nil)) (pa_cons (pv 3) pa_nil))) (pa_cons (pe_cal c_poly_times (hr.mono (by decide)) (by rfl) (pa_cons (pv 2) (pa_cons (pe_cal c_derived (hr.mono (by decide)) (by rfl) (pa_cons (pv 3) pa_nil)) pa_nil))) pa_nil))))
      (pss_one (ps_ret (pe_cal c_product (hr.mono (by decide)) (by rfl) (pa_cons (pe_kon (by rfl) M.k_X) (pa_cons (pe_cal c_made_of (hr.mono (by decide)) (by rfl) (pa_cons (pv 1) (pa_cons (pe_cal c_poly_times (hr.mono (by decide)) (by rfl) (pa_cons (pv 3) (pa_cons (pv 3) pa_nil))) pa_nil))) pa_nil))))))), fun D hD => ?_⟩
  obtain ⟨e1, e2, m1, m2, m3, mk, pk⟩ := ha
  obtain ⟨u1, v1⟩ := mu_out m1
  obtain ⟨u2, v2⟩ := mu_out m2
  refine q_unp (vs := [2, 3]) (d := encQ a) (ev_var rfl) (tg_tup2 (pr_encP _) (pr_encP _) (by simp) (by simp)) ?_
  refine q_set (x := encP (ptop a)) (ev_call2 (pmul (pder a.1) a.2) (pmul a.1 (pder a.2)) (ev_call2 (pder a.1) a.2 (ev_call1 a.1 (ev_var rfl) e1) (ev_var rfl) m1) (ev_call2 a.1 (pder a.2) (ev_var rfl) (ev_call1 a.2 (ev_var rfl) e2) m2) ⟨v1, v2, u1, u2⟩) (pr_encP _) ?_
  exact g_ret (x := encQ (pled a)) (ev_call2 cX (pmk (ptop a, pmul a.2 a.2)) ev_kon (ev_call2 (ptop a) (pmul a.2 a.2) (ev_var rfl) (ev_call2 a.2 a.2 (ev_var rfl) (ev_var rfl) m3) mk) pk) hD

abbrev s_mean_tick : Stmt := topS 56
theorem sc_mean_tick : FnScope ["quotient"] ["quotient"] (defScope s_mean_tick) := ⟨rfl, rfl, rfl, by decide +kernel, rfl, by decide +kernel, by decide +kernel⟩
theorem ok_mean_tick (M : Glb P K mg base) (F : Dfn K mg "mean_tick" s_mean_tick) (c_total : Cal P w K mg base "total" ["quotient"] 48 (sp1 K encQ ToOk (fun q => encO (ptotal q)))) (c_led_by_ticks : Cal P w K mg base "led_by_ticks" ["quotient"] 49 (sp1 K encQ LeOk (fun q => encQ (pled q)))) (c_does_die : Cal P w K mg base "does_die" ["quotient"] 47 (sp1 K encQ (fun q => KeOk q.2) (fun q => .bool (pdies q.2)))) : Cal P w K mg base "mean_tick" ["quotient"] 50 (sp1 K encQ MeOk (fun q => if pdies q.2 = true then .tuple [encO (ptotal (pled q)), encO (ptotal q)] else .none)) := by
  refine def_ok F sc_mean_tick (fun _ _ _ _ _ _ us hl => match us, hl with | [_], _ => rfl) (fun _ => rfl) (fun a => prs_cons (pr_encQ a) rfl) fun cdv f A outer s H E hr a ha => ?_
  refine ⟨_, (pss_cons (ps_if (pt_not (pt_val (pe_cal c_does_die (hr.mono (by decide)) (by rfl) (pa_cons (pv 0) pa_nil)))) (pss_one (ps_ret pe_non)) pss_nil)
      (pss_one (ps_ret (pe_tup (pa_cons (pe_cal c_total (hr.mono (by decide)) (by rfl) (pa_cons (pe_cal c_led_by_ticks (hr.mono (by decide)) (by rfl) (pa_cons (pv 0) pa_nil)) pa_nil)) (pa_cons (pe_cal c_total (hr.mono (by decide)) (by rfl) (pa_cons (pv 0) pa_nil)) pa_nil)))))), fun D hD => ?_⟩
  obtain ⟨hk, hme⟩ := ha
  cases hd : pdies a.2 with
  | false =>
    refine g_seq (g_yes (et_not1 (et_B ((ev_call1 a (ev_var rfl) hk).to (by rw [← hd])))) (g_ret (x := .none) ev_non ?_))
    rw [hd] at hD
    exact hD
  | true =>
    obtain ⟨le, t1, t2⟩ := hme hd
    rw [if_pos hd] at hD
    refine q_no (et_not0 (et_B ((ev_call1 a (ev_var rfl) hk).to (by rw [← hd])))) ?_
    exact g_ret (x := .tuple [encO (ptotal (pled a)), encO (ptotal a)]) (ev_tup (ea_cons (ev_call1 (pled a) (ev_call1 a (ev_var rfl) le) t1) (ea_cons (ev_call1 a (ev_var rfl) t2) ea_nil))) hD

abbrev s_summed_up : Stmt := topS 57
theorem sc_summed_up : FnScope ["quotient"] ["quotient"] (defScope s_summed_up) := ⟨rfl, rfl, rfl, by decide +kernel, rfl, by decide +kernel, by decide +kernel⟩
theorem ok_summed_up (M : Glb P K mg base) (F : Dfn K mg "summed_up" s_summed_up) (c_product : Cal P w K mg base "product" ["one", "other"] 48 (sp2 K encQ encQ (fun a => PrOk a.1 a.2) (fun a => encQ (pprod a.1 a.2)))) (c_made_of : Cal P w K mg base "made_of" ["above", "below"] 47 (sp2 K encP encP MkOk (fun a => encQ (pmk a)))) : Cal P w K mg base "summed_up" ["quotient"] 49 (sp1 K encQ (fun q => PrOk q pSUM) (fun q => encQ (pprod q pSUM))) := by
  refine def_ok F sc_summed_up (fun _ _ _ _ _ _ us hl => match us, hl with | [_], _ => rfl) (fun _ => rfl) (fun a => prs_cons (pr_encQ a) rfl) fun cdv f A outer s H E hr a ha => ?_
  refine ⟨_, (pss_one (ps_ret (pe_cal c_product (hr.mono (by decide)) (by rfl) (pa_cons (pv 0) (pa_cons (pe_cal c_made_of (hr.mono (by decide)) (by rfl) (pa_cons (pe_tup (pa_cons (pe_kon (by rfl) M.k_UNIT) pa_nil)) (pa_cons (pe_kon (by rfl) M.k_STEP) pa_nil))) pa_nil))))), fun D hD => ?_⟩
  exact g_ret (x := encQ (pprod a pSUM)) (ev_call2 a pSUM (ev_var rfl) ((ev_call2 (e1 := encP) (e2 := encP) ([1] : List Rat) cSTEP (ev_tup (ea_cons ev_kon ea_nil)) ev_kon mk_const2).to (congrArg encQ pmk_sum)) ha) hD

abbrev s_stepped : Stmt := topS 58
theorem sc_stepped : FnScope ["quotient"] ["quotient"] (defScope s_stepped) := ⟨rfl, rfl, rfl, by decide +kernel, rfl, by decide +kernel, by decide +kernel⟩
theorem ok_stepped (M : Glb P K mg base) (F : Dfn K mg "stepped" s_stepped) (c_product : Cal P w K mg base "product" ["one", "other"] 48 (sp2 K encQ encQ (fun a => PrOk a.1 a.2) (fun a => encQ (pprod a.1 a.2)))) (c_difference : Cal P w K mg base "difference" ["one", "other"] 49 (sp2 K encQ encQ (fun a => DiOk a.1 a.2) (fun a => encQ (pdiff a.1 a.2)))) : Cal P w K mg base "stepped" ["quotient"] 50 (sp1 K encQ (fun q => PrOk q pOX) (fun q => encQ (pprod q pOX))) := by
  refine def_ok F sc_stepped (fun _ _ _ _ _ _ us hl => match us, hl with | [_], _ => rfl) (fun _ => rfl) (fun a => prs_cons (pr_encQ a) rfl) fun cdv f A outer s H E hr a ha => ?_
  refine ⟨_, (pss_one (ps_ret (pe_cal c_product (hr.mono (by decide)) (by rfl) (pa_cons (pv 0) (pa_cons (pe_cal c_difference (hr.mono (by decide)) (by rfl) (pa_cons (pe_kon (by rfl) M.k_ONE) (pa_cons (pe_kon (by rfl) M.k_X) pa_nil))) pa_nil))))), fun D hD => ?_⟩
  exact g_ret (x := encQ (pprod a pOX)) (ev_call2 a pOX (ev_var rfl) ((ev_call2 cONE cX ev_kon ev_kon diok_ox).to (congrArg encQ pdiff_ox)) ha) hD

def encMr (r : List PQ) : PyData := .tuple (r.map encQ)
def outMr (r : List PQ) : PyData := .tuple (r.map fun q => encO (pcell q))
theorem pr_encMr (r : List PQ) : pr (encMr r) = true := by
  simp only [encMr, pr]
  exact prs_of fun x m => by
    obtain ⟨q, _, rfl⟩ := List.mem_map.mp m
    exact pr_encQ q
theorem pr_outMr (r : List PQ) : pr (outMr r) = true := by
  simp only [outMr, pr]
  exact prs_of fun x m => by
    obtain ⟨q, _, rfl⟩ := List.mem_map.mp m
    exact pr_encO _
theorem prs_maps {α : Type} (f : α → PyData) (h : ∀ a, pr (f a) = true) (l : List α) : prs (l.map f) = true := prs_of fun x m => by
  obtain ⟨q, _, rfl⟩ := List.mem_map.mp m
  exact h q
theorem map_get {α : Type} {f : α → PyData} {l : List α} {i : Nat} {d : PyData} (h : (l.map f)[i]? = some d) : ∃ a, l[i]? = some a ∧ d = f a := by
  rw [List.getElem?_map] at h
  cases e : l[i]? with
  | none => rw [e] at h; cases h
  | some a =>
    rw [e] at h
    exact ⟨a, rfl, (Option.some.inj h).symm⟩
theorem in_row (r : List PQ) : ((r.map fun q => encO (pcell q)).any fun z => PyData.eqv z .none) = r.any fun q => !(pcell q).isSome := by
  rw [List.any_map]
  congr 1
  funext q
  exact eqv_encO _

abbrev s_steady_matrix : Stmt := topS 59
theorem sc_steady_matrix : FnScope ["matrix", "found", "row", "one"] ["matrix"] (defScope s_steady_matrix) := ⟨rfl, rfl, rfl, by decide +kernel, rfl, by decide +kernel, by decide +kernel⟩
theorem ok_steady_matrix (M : Glb P K mg base) (F : Dfn K mg "steady_matrix" s_steady_matrix) (c_last_value : Cal P w K mg base "last_value" ["quotient"] 50 (sp1 K encQ LaOk (fun q => encO (plast q)))) (c_summed_up : Cal P w K mg base "summed_up" ["quotient"] 49 (sp1 K encQ (fun q => PrOk q pSUM) (fun q => encQ (pprod q pSUM)))) : Cal P w K mg base "steady_matrix" ["matrix"] 51 (sp1 K (fun m : List (List PQ) => .tuple (m.map encMr)) (fun m => m.length ≤ 100 ∧ ∀ r ∈ m, r.length ≤ 100 ∧ ∀ q ∈ r, PrOk q pSUM ∧ LaOk (pprod q pSUM)) (fun m => if (m.any fun r => r.any fun q => !(pcell q).isSome) = true then .none else .tuple (m.map outMr))) := by
  refine def_ok F sc_steady_matrix (fun _ _ _ _ _ _ us hl => match us, hl with | [_], _ => rfl) (fun _ => rfl) (fun a => prs_cons (by simp only [pr]; exact prs_maps encMr pr_encMr a) rfl) fun cdv f A outer s H E hr a ha => ?_
  have hu5 := room_in (k := 10) hr
  refine ⟨_, (pss_cons (ps_set (i := 1) sc_steady_matrix.nd rfl (by first | exact Or.inl rfl | exact Or.inr rfl) (pe_lst pa_nil))
      (pss_cons (ps_for PassesOwn.never rfl (pi_tup (pv 0)) (pg_name (i := 2) sc_steady_matrix.nd rfl (by first | exact Or.inl rfl | exact Or.inr rfl)) (pss_one (ps_expr (pe_bm PySem.F.plainAttrs_list PySem.F.slot_list_append PySem.F.type_list_append mt_append (pv 1) (pa_cons (pe_callTy call_tupS (by rfl) M.g_tuple boot_tuple (pa_cons (pe_lc (own := [("one", 3)]) rfl sc_steady_matrix.nd (pi_tup (pv 2)) (blkOk_by (N := ["matrix", "found", "row", "one"]) (sc := defScope s_steady_matrix) (by decide +kernel)) (fun _ _ _ _ _ => (pg_name (i := 3) sc_steady_matrix.nd rfl (by first | exact Or.inl rfl | exact Or.inr rfl))) (fun _ _ _ _ _ => pts_nil) (fun _ _ _ _ _ => (pe_cal c_last_value (hr.mono (by decide)) (by rfl) (pa_cons (pe_cal c_summed_up (hr.mono (by decide)) (by rfl) (pa_cons (pv 3) pa_nil)) pa_nil)))) pa_nil)) pa_nil)))))
      (pss_one (ps_ret (pe_ifExp (pt_val (pe_callB (cr_any rfl) (by rfl) M.g_any boot_any (pa_cons (pe_lc (own := [("row", 2)]) rfl sc_steady_matrix.nd (pi_list (pv 1)) (blkOk_by (N := ["matrix", "found", "row", "one"]) (sc := defScope s_steady_matrix) (by decide +kernel)) (fun _ _ _ _ _ => (pg_name (i := 2) sc_steady_matrix.nd rfl (by first | exact Or.inl rfl | exact Or.inr rfl))) (fun _ _ _ _ _ => pts_nil) (fun _ _ _ _ _ => (pe_cmpR (op_inTDB hu5) pe_non (pv 2) (by with_unfolding_all rfl)))) pa_nil))) pe_non (pe_callTy call_tupS (by rfl) M.g_tuple boot_tuple (pa_cons (pv 1) pa_nil))))))), fun D hD => ?_⟩
  obtain ⟨la, hm⟩ := ha
  refine q_setL (xs := []) (el_lst ea_nil) rfl ?_
  refine q_for (ds := a.map encMr) [2] (ei_tup (ev_var rfl) (prs_maps encMr pr_encMr a)) (fun i => [.d (.tuple (a.map encMr)), .l ((a.take i).map outMr), .u, .u]) (LeG.refl _) (fun F1 i d hd => ?_) ?_
  · obtain ⟨r, hr, rfl⟩ := map_get hd
    obtain ⟨lr, hq⟩ := hm r (List.mem_of_getElem? hr)
    have hi := (List.getElem?_eq_some_iff.mp hr).1
    refine ⟨_, tg_name (pr_encMr r) (by simp), ?_⟩
    refine g_app (x := outMr r) rfl (ev_cb (ea_cons (ev_of (el_lc (r.map fun q => encO (pcell q)) (ec_tup (ev_var rfl)) (by simp) (by rw [List.length_map]; omega) (prs_maps _ (fun q => pr_encO _) r) fun j d y hd hy => ?_)) ea_nil) rc_tupL) (pr_outMr r) (by rw [List.length_map, List.length_take]; omega) ?_
    · obtain ⟨q, hq1, rfl⟩ := map_get hd
      obtain ⟨q', hq2, rfl⟩ := map_get hy
      rw [hq1] at hq2
      obtain rfl := Option.some.inj hq2
      obtain ⟨pk, lk⟩ := hq q (List.mem_of_getElem? hq1)
      exact ⟨_, tg_name (pr_encQ q) (by simp), ev_call1 (pprod q pSUM) (ev_call1 q (ev_var rfl) pk) lk⟩
    · have e : (a.take i).map outMr ++ [outMr r] = (a.take (i + 1)).map outMr := by
        rw [List.take_add_one, hr, List.map_append]; rfl
      rw [e]
      exact a_le (by repeat (first | exact LeG.nil | apply LeG.same | apply LeG.drop))
  · rw [List.length_map, List.take_length]
    have tst : EvT K H [] [.d (.tuple (a.map encMr)), .l (a.map outMr), .u, .u] (tB (tCB (rAny K) (tCons (tLc (iList K (tVar 1)) (gName 2) tYes (tOp (rInTD K) (tC .non) (tVar 2)) [2]) tNil))) (a.any fun r => r.any fun q => !(pcell q).isSome) := by
      refine et_B (EvE.to (ev_cb (ea_cons (ev_of (el_lc ((a.map fun r => r.any fun q => !(pcell q).isSome).map PyData.bool) (ec_list (ds := a.map outMr) (ev_var rfl)) (by simp) (by rw [List.length_map]; omega) (prs_of fun x m => by obtain ⟨q, _, rfl⟩ := List.mem_map.mp m; rfl) fun i d y hd hy => ?_)) ea_nil) rc_any) ?_)
      · obtain ⟨r, hr, rfl⟩ := map_get hd
        obtain ⟨b, hb, rfl⟩ := map_get hy
        rw [List.getElem?_map, hr] at hb
        obtain rfl := Option.some.inj hb
        refine ⟨_, tg_name (pr_outMr r) (by simp), ev_inT ev_non (ev_var rfl) rfl (sh_of (n := 3) (lay_tuple fun x m => ?_)) (in_row r)⟩
        obtain ⟨q, _, rfl⟩ := List.mem_map.mp m
        exact lay_encO _
      · congr 1
        rw [List.any_map]; rfl
    cases hb : (a.any fun r => r.any fun q => !(pcell q).isSome) with
    | true =>
      rw [hb] at tst hD
      exact g_ret (x := .none) (ev_if tst (fun _ => ev_non) fun e => nomatch e) hD
    | false =>
      rw [hb] at tst hD
      exact g_ret (x := .tuple (a.map outMr)) (ev_if tst (fun e => nomatch e) fun _ => ev_cb (ea_cons (ev_var rfl) ea_nil) rc_tupL) hD

abbrev s_is_last_value : Stmt := topS 60
theorem sc_is_last_value : FnScope ["quotient", "fraction", "found"] ["quotient", "fraction"] (defScope s_is_last_value) := ⟨rfl, rfl, rfl, by decide +kernel, rfl, by decide +kernel, by decide +kernel⟩
theorem ok_is_last_value (M : Glb P K mg base) (F : Dfn K mg "is_last_value" s_is_last_value) (c_minus : Cal P w K mg base "minus" ["one", "other"] 43 (sp2 K encR encR (fun a => Sm a.1 ∧ Sm a.2) (fun a => encR (a.1 - a.2)))) (c_last_value : Cal P w K mg base "last_value" ["quotient"] 50 (sp1 K encQ LaOk (fun q => encO (plast q)))) : Cal P w K mg base "is_last_value" ["quotient", "fraction"] 51 (sp2 K encQ encR (fun a => LaOk a.1 ∧ Sm a.2 ∧ ∀ v, plast a.1 = some v → Sm v) (fun a => .bool (isLastB (plast a.1) a.2))) := by
  refine def_ok F sc_is_last_value (fun _ _ _ _ _ _ us hl => match us, hl with | [_, _], _ => rfl) (fun _ => rfl) (fun a => prs2 (pr_encQ a.1) rfl) fun cdv f A outer s H E hr a ha => ?_
  have hu := room_eq (k := 10) hr
  refine ⟨_, (pss_cons (ps_set (i := 2) sc_is_last_value.nd rfl (by first | exact Or.inl rfl | exact Or.inr rfl) (pe_cal c_last_value (hr.mono (by decide)) (by rfl) (pa_cons (pv 0) pa_nil)))
      (pss_one (ps_ret (pe_and (pe_cmpR op_notN1 (pv 2) pe_non (nomark _)) (pe_one (pe_cmpR (op_eqD hu) (pe_cal c_minus (hr.mono (by decide)) (by rfl) (pa_cons (pv 2) (pa_cons (pv 1) pa_nil))) (pe_kon (by rfl) M.k_NIL) (nomark _))))))), fun D hD => ?_⟩
  obtain ⟨h1, h2, h3⟩ := ha
  refine q_set (x := encO (plast a.1)) (ev_call1 a.1 (ev_var rfl) h1) (pr_encO _) ?_
  cases hv : plast a.1 with
  | none =>
    rw [hv] at hD
    exact g_ret (x := .bool false) (EvE.to (ev_andV (a := false) (b := false) (EvE.to (ev_notN (x := .none) (ev_var rfl)) rfl) fun e => nomatch e) rfl) hD
  | some v =>
    rw [hv] at hD
    exact g_ret (x := .bool (decide (v - a.2 = 0))) (EvE.to (ev_andV (a := true) (b := decide (v - a.2 = 0)) (EvE.to (ev_notN (x := encR v) (ev_var rfl)) rfl) fun _ => ev_eq (ev_call2 v a.2 (ev_var rfl) (ev_var rfl) ⟨h3 v hv, h2⟩) ev_kon rfl rfl (eqv_encR _ _)) rfl) hD

end
end Sw
namespace Sw
open PySem PySem.Spec L2
open PyProof.Rows hiding St
section
variable {P : Program} {w : World} {K : Fg} {mg : Str → Option Value} {base : Heap}

abbrev s_from_least : Stmt := topS 63
theorem sc_from_least : FnScope ["quotient", "many", "power", "tick", "above", "below", "rest", "found", "value", "back"] ["quotient", "many"] (defScope s_from_least) := ⟨rfl, rfl, rfl, by decide +kernel, rfl, by decide +kernel, by decide +kernel⟩
theorem ok_from_least (M : Glb P K mg base) (F : Dfn K mg "from_least" s_from_least) (c_over_by : Cal P w K mg base "over_by" ["one", "other"] 43 (sp2 K encR encR (fun a => Sm a.1 ∧ Sm a.2 ∧ a.2 ≠ 0) (fun a => encR (a.1 / a.2)))) (c_minus : Cal P w K mg base "minus" ["one", "other"] 43 (sp2 K encR encR (fun a => Sm a.1 ∧ Sm a.2) (fun a => encR (a.1 - a.2)))) (c_times : Cal P w K mg base "times" ["one", "other"] 43 (sp2 K encR encR (fun a => Sm a.1 ∧ Sm a.2) (fun a => encR (a.1 * a.2)))) (c_term : Cal P w K mg base "term" ["poly", "power"] 41 (sp2 K encP (fun k : Nat => .int k) (fun _ => True) (fun a => encR (cf a.1 a.2)))) (c_lowest : Cal P w K mg base "lowest" ["poly"] 41 (sp1 K encP (fun p => p.length ≤ 1000 ∧ cf p 0 ≠ 0) (fun _ => .int 0))) : Cal P w K mg base "from_least" ["quotient", "many"] 44 (spTL K (fun a : PQ × Nat => [encQ a.1, .int (a.2 : Nat)]) (fun a => a.1.2.length ≤ 1000 ∧ SeOk a.1.1 a.1.2 a.2) (fun a => (.int 0, (ser a.1.1 a.1.2 a.2).map encR))) := by
  refine def_okTL F sc_from_least (fun _ _ _ _ _ _ us hl => match us, hl with | [_, _], _ => rfl) (fun _ => rfl) (fun a => prs2 (pr_encQ a.1) rfl) fun cdv f A outer s H E hr a ha => ?_
  refine ⟨_, (pss_cons (ps_asg (pv 0) (pg_tup (by rfl) (pgs_cons (pg_name (i := 4) sc_from_least.nd rfl (by first | exact Or.inl rfl | exact Or.inr rfl)) (pgs_cons (pg_name (i := 5) sc_from_least.nd rfl (by first | exact Or.inl rfl | exact Or.inr rfl)) pgs_nil))))
      (pss_cons (ps_set (i := 2) sc_from_least.nd rfl (by first | exact Or.inl rfl | exact Or.inr rfl) (pe_cal c_lowest (hr.mono (by decide)) (by rfl) (pa_cons (pv 5) pa_nil)))
      (pss_cons (ps_par (i := 6) (j := 7) rfl sc_from_least.nd rfl rfl (by decide) rfl rfl (pa_cons (pe_slice sl_any (pv 5) (po_some (pv 2)) po_none) (pa_cons (pe_lst pa_nil) pa_nil)) (by rfl))
      (pss_cons (ps_for PassesOwn.never rfl (pi_range1 (by rfl) M.g_range (pa_cons (pv 1) pa_nil)) (pg_name (i := 3) sc_from_least.nd rfl (by first | exact Or.inl rfl | exact Or.inr rfl)) (pss_cons (ps_set (i := 8) sc_from_least.nd rfl (by first | exact Or.inl rfl | exact Or.inr rfl) (pe_cal c_term (hr.mono (by decide)) (by rfl) (pa_cons (pv 4) (pa_cons (pv 3) pa_nil))))
      (pss_cons (ps_for PassesOwn.never rfl (pi_range2 (by rfl) M.g_range (pa_cons pe_int (pa_cons (pe_op op_addAny (pe_callB (call_min2S rfl) (by rfl) M.g_min boot_min (pa_cons (pv 3) (pa_cons (pe_op op_subS (pe_callB call_lenS (by rfl) M.g_len boot_len (pa_cons (pv 6) pa_nil)) pe_int) pa_nil))) pe_int) pa_nil))) (pg_name (i := 9) sc_from_least.nd rfl (by first | exact Or.inl rfl | exact Or.inr rfl)) (pss_one (ps_set (i := 8) sc_from_least.nd rfl (by first | exact Or.inl rfl | exact Or.inr rfl) (pe_cal c_minus (hr.mono (by decide)) (by rfl) (pa_cons (pv 8) (pa_cons (pe_cal c_times (hr.mono (by decide)) (by rfl) (pa_cons (pe_ix ix_seq (pv 6) (pv 9) (fun _ _ => rfl)) (pa_cons (pe_ix ix_seq (pv 7) (pe_op op_subS (pv 3) (pv 9)) (fun _ _ => rfl)) pa_nil))) pa_nil))))))
      (pss_one (ps_expr (pe_bm PySem.F.plainAttrs_list PySem.F.slot_list_append PySem.F.type_list_append mt_append (pv 7) (pa_cons (pe_cal c_over_by (hr.mono (by decide)) (by rfl) (pa_cons (pv 8) (pa_cons (pe_ix ix_seq (pv 6) pe_int (fun _ _ => rfl)) pa_nil))) pa_nil)))))))
      (pss_one (ps_ret (pe_tup (pa_cons (pe_un un_negS (pv 2)) (pa_cons (pv 7) pa_nil))))))))), fun D hD => ?_⟩
  obtain ⟨_, lB, ln, b0, sA, sB, hs⟩ := ha
  obtain ⟨⟨A0, B0⟩, n⟩ := a
  simp only at lB ln b0 sA sB hs
  have hp := List.length_pos_iff.mpr (ne_of0 b0)
  refine q_unp (vs := [4, 5]) (d := encQ (A0, B0)) (ev_var rfl) (tg_tup2 (pr_encP _) (pr_encP _) (by simp) (by simp)) ?_
  refine q_set (x := .int 0) (ev_call1 B0 (ev_var rfl) ⟨by omega, b0⟩) rfl ?_
  refine q_par (b1 := .d (encP B0)) (b2 := .l []) ⟨(ev_slT (ev_var rfl) (eo_some (ev_var rfl)) eo_none).to ?_, pr_encP _⟩ ⟨el_lst ea_nil, rfl⟩ ?_
  · show PyData.tuple (cutD _ (some ((0 : Nat) : Int)) none) = _
    rw [cut_from, List.drop_zero]
  refine q_for (ds := intR 0 1 n) [3] (ei_range1 (n := (n : Int)) (ea_cons (ev_var rfl) ea_nil) (by omega)) (fun i => [.d (encQ (A0, B0)), .d (.int (n : Nat)), .d (.int 0), .u, .d (encP A0), .d (encP B0), .d (encP B0), .l ((ser A0 B0 i).map encR), .u, .u]) (LeG.refl _) (fun F1 i d hd => ?_) ?_
  · obtain ⟨rfl, hi⟩ := intR_get' hd
    have e0 : ((0 : Int) + (i : Nat) * 1) = (i : Nat) := by omega
    rw [e0]
    obtain ⟨s1, s2⟩ := hs i hi
    have sl := ser_len A0 B0 i
    refine ⟨_, tg_name rfl (by simp), ?_⟩
    refine q_set (x := encR (vst A0 B0 (ser A0 B0 i) i 0)) (ev_call2 A0 i (ev_var rfl) (ev_var rfl) trivial) rfl ?_
    refine q_for (ds := intR 1 1 (min i (B0.length - 1))) [9] ?_ (fun j => [.d (encQ (A0, B0)), .d (.int (n : Nat)), .d (.int 0), .d (.int (i : Nat)), .d (encP A0), .d (encP B0), .d (encP B0), .l ((ser A0 B0 i).map encR), .d (encR (vst A0 B0 (ser A0 B0 i) i j)), .u]) (LeG.refl _) (fun F2 j d hd => ?_) ?_
    · have := ei_range2 (K := K) (H0 := H) (F := F1) (G := [.d (encQ (A0, B0)), .d (.int (n : Nat)), .d (.int 0), .d (.int (i : Nat)), .d (encP A0), .d (encP B0), .d (encP B0), .l ((ser A0 B0 i).map encR), .d (encR (vst A0 B0 (ser A0 B0 i) i 0)), .u]) (a := 1) (b := (min (i : Int) ((B0.length : Nat) - 1) + 1)) (ea_cons ev_int (ea_cons (ev_add (ev_cb (ea_cons (ev_var (i := 3) rfl) (ea_cons (ev_sub (ev_lenP (p := B0) (ev_var (i := 6) rfl)) ev_int) ea_nil)) rc_min2) ev_int) ea_nil)) (by omega)
      rw [show (min (i : Int) ((B0.length : Nat) - 1) + 1 - 1).toNat = min i (B0.length - 1) by omega] at this
      exact this
    · obtain ⟨rfl, hj⟩ := intR_get' hd
      have e1 : ((1 : Int) + (j : Nat) * 1) = (j + 1 : Nat) := by omega
      rw [e1]
      obtain ⟨v1, v2⟩ := s2 j (by omega)
      refine ⟨_, tg_name rfl (by simp), ?_⟩
      refine g_set (x := encR (vst A0 B0 (ser A0 B0 i) i (j + 1))) ?_ rfl ?_
      · exact ev_call2 (vst A0 B0 (ser A0 B0 i) i j) (cf B0 (j + 1) * cf (ser A0 B0 i) (i - (j + 1))) (ev_var rfl) (ev_call2 (cf B0 (j + 1)) (cf (ser A0 B0 i) (i - (j + 1))) (ev_ixT (ev_var rfl) (ev_var rfl) (atI_enc (p := B0) rfl (by omega)))
          (ev_ixL (ev_var rfl) (ev_sub (a := (i : Nat)) (b := (j + 1 : Nat)) (ev_var rfl) (ev_var rfl)) (atI_enc (p := ser A0 B0 i) (k := i - (j + 1)) (by omega) (by omega))) ⟨sB _, s1 _⟩) ⟨v1, v2 _⟩
      · exact a_le (by repeat (first | exact LeG.nil | apply LeG.same | apply LeG.drop))
    · rw [intR_len]
      obtain ⟨v1, _⟩ := s2 (min i (B0.length - 1)) (by omega)
      refine g_app (x := encR (vst A0 B0 (ser A0 B0 i) i (min i (B0.length - 1)) / cf B0 0)) rfl (ev_call2 (vst A0 B0 (ser A0 B0 i) i (min i (B0.length - 1))) (cf B0 0) (ev_var rfl) (ev_p0 b0 (ev_var rfl) ev_int) ⟨v1, sB 0, b0⟩) rfl (by rw [List.length_map, sl]; omega) ?_
      have e : (ser A0 B0 i).map encR ++ [encR (vst A0 B0 (ser A0 B0 i) i (min i (B0.length - 1)) / cf B0 0)] = (ser A0 B0 (i + 1)).map encR := by
        rw [ser, List.map_append]; rfl
      rw [e]
      exact a_le (by repeat (first | exact LeG.nil | apply LeG.same | apply LeG.drop))
  · rw [intR_len]
    exact g_retTL (x := .int 0) ((ev_ng (a := 0) (ev_var rfl)).to rfl) rfl hD

abbrev s_check_ticks : Stmt := topS 64
theorem sc_check_ticks : FnScope ["begin", "many"] ["begin", "many"] (defScope s_check_ticks) := ⟨rfl, rfl, rfl, by decide +kernel, rfl, by decide +kernel, by decide +kernel⟩
theorem ok_check_ticks (M : Glb P K mg base) (F : Dfn K mg "check_ticks" s_check_ticks) (c_is_count : Cal P w K mg base "is_count" ["thing"] 42 (sp1 K PyData.int (fun a => 0 ≤ a) (fun _ => .bool true))) (c_is_integer : Cal P w K mg base "is_integer" ["thing"] 42 (sp1 K PyData.int (fun _ => True) (fun _ => .bool true))) : Cal P w K mg base "check_ticks" ["begin", "many"] 43 (spT K (fun a : Int × Int => [.int a.1, .int a.2]) (fun a => -400 ≤ a.1 ∧ a.1 ≤ 400 ∧ 0 ≤ a.2 ∧ a.2 ≤ 400) (fun _ => .none)) := by
  refine def_okN F sc_check_ticks (fun _ _ _ _ _ _ us hl => match us, hl with | [_, _], _ => rfl) (fun _ => rfl) (fun _ => rfl) (fun _ => rfl) fun cdv f A outer s H E hr a ha => ?_
  refine ⟨_, (pss_one (ps_if (pw_or (pt_not (pt_val (pe_cal c_is_integer (hr.mono (by decide)) (by rfl) (pa_cons (pv 0) pa_nil)))) (pw_or (pt_not (pt_chain op_leS op_leS (pe_un un_negS (pe_kon (by rfl) M.k_MOST_TICKS)) (pv 0) (pe_kon (by rfl) M.k_MOST_TICKS))) (pw_or (pt_not (pt_val (pe_cal c_is_count (hr.mono (by decide)) (by rfl) (pa_cons (pv 1) pa_nil)))) (pw_or1 (pt_cmpR op_gtS (pv 1) (pe_kon (by rfl) M.k_MOST_TICKS) (nomark _)))))).pt pss_never pss_nil)), fun D hD => ?_⟩
  obtain ⟨h1, h2, h3, h4⟩ := ha
  refine g_no (et_or0 (et_not0 (et_B (ev_call1 a.1 (ev_var rfl) trivial))) (et_or0 (et_not0 (et_test (EvE.to (ev_chain (a := true) (b := true) (ev_ng (a := 400) ev_kon) (ev_var (x := .int a.1) rfl) ((rd_B0 (g := fun i j => decide (i ≤ j))).to ?_) (fun _ => ev_kon) fun _ => (rd_B0 (g := fun i j => decide (i ≤ j))).to ?_) rfl)))
    (et_or0 (et_not0 (et_B (ev_call1 a.2 (ev_var rfl) h3))) (et_test (EvE.to (ev_gt (ev_var (x := .int a.2) rfl) ev_kon) ?_))))) (g_next fun σ H' o => hD σ H' o.same)
  · simp; omega
  · simp; omega
  · simp; omega

abbrev s_values : Stmt := topS 65
theorem sc_values : FnScope ["quotient", "begin", "many", "least", "first", "found", "tick"] ["quotient", "begin", "many"] (defScope s_values) := ⟨rfl, rfl, rfl, by decide +kernel, rfl, by decide +kernel, by decide +kernel⟩
theorem ok_values (M : Glb P K mg base) (F : Dfn K mg "values" s_values) (c_from_least : Cal P w K mg base "from_least" ["quotient", "many"] 44 (spTL K (fun a : PQ × Nat => [encQ a.1, .int (a.2 : Nat)]) (fun a => a.1.2.length ≤ 1000 ∧ SeOk a.1.1 a.1.2 a.2) (fun a => (.int 0, (ser a.1.1 a.1.2 a.2).map encR)))) (c_lowest : Cal P w K mg base "lowest" ["poly"] 41 (sp1 K encP (fun p => p.length ≤ 1000 ∧ cf p 0 ≠ 0) (fun _ => .int 0))) (c_check_ticks : Cal P w K mg base "check_ticks" ["begin", "many"] 43 (spT K (fun a : Int × Int => [.int a.1, .int a.2]) (fun a => -400 ≤ a.1 ∧ a.1 ≤ 400 ∧ 0 ≤ a.2 ∧ a.2 ≤ 400) (fun _ => .none))) : Cal P w K mg base "values" ["quotient", "begin", "many"] 45 (spT K (fun a : PQ × Nat => [encQ a.1, .int 0, .int (a.2 : Nat)]) (fun a => a.2 ≤ 400 ∧ SeOk a.1.1 a.1.2 a.2) (fun a => encP (ser a.1.1 a.1.2 a.2))) := by
  refine def_ok F sc_values (fun _ _ _ _ _ _ us hl => match us, hl with | [_, _, _], _ => rfl) (fun _ => rfl) (fun a => prs_cons (pr_encQ a.1) rfl) fun cdv f A outer s H E hr a ha => ?_
  refine ⟨_, (pss_cons (ps_expr (pe_cal c_check_ticks (hr.mono (by decide)) (by rfl) (pa_cons (pv 1) (pa_cons (pv 2) pa_nil))))
      (pss_cons (ps_set (i := 3) sc_values.nd rfl (by first | exact Or.inl rfl | exact Or.inr rfl) (pe_un un_negS (pe_cal c_lowest (hr.mono (by decide)) (by rfl) (pa_cons (pe_ix ix_seq (pv 0) pe_int (fun _ _ => rfl)) pa_nil))))
      (pss_cons (ps_asg (pe_cal c_from_least (hr.mono (by decide)) (by rfl) (pa_cons (pv 0) (pa_cons (pe_callB (call_max2S rfl) (by rfl) M.g_max boot_max (pa_cons pe_int (pa_cons (pe_op op_subS (pe_op op_addAny (pv 1) (pv 2)) (pv 3)) pa_nil))) pa_nil))) (pg_tup (by rfl) (pgs_cons (pg_name (i := 4) sc_values.nd rfl (by first | exact Or.inl rfl | exact Or.inr rfl)) (pgs_cons (pg_name (i := 5) sc_values.nd rfl (by first | exact Or.inl rfl | exact Or.inr rfl)) pgs_nil))))
      (pss_one (ps_ret (pe_callTy call_tupS (by rfl) M.g_tuple boot_tuple (pa_cons (pe_lc (own := [("tick", 6)]) rfl sc_values.nd (pi_range2 (by rfl) M.g_range (pa_cons (pv 1) (pa_cons (pe_op op_addAny (pv 1) (pv 2)) pa_nil))) (blkOk_by (N := ["quotient", "begin", "many", "least", "first", "found", "tick"]) (sc := defScope s_values) (by decide +kernel)) (fun _ _ _ _ _ => (pg_name (i := 6) sc_values.nd rfl (by first | exact Or.inl rfl | exact Or.inr rfl))) (fun _ _ _ _ _ => pts_nil) (fun _ _ _ _ _ => (pe_ifExp (pt_cmpR op_geS (pv 6) (pv 4) (nomark _)) (pe_ix ix_seqB (pv 5) (pe_op op_subS (pv 6) (pv 4)) (fun _ _ => rfl)) (pe_konB (by rfl) M.k_NIL)))) pa_nil))))))), fun D hD => ?_⟩
  obtain ⟨hn, hse⟩ := ha
  obtain ⟨lB, _, b0, _⟩ := id hse
  refine q_drop (ev_call (0, (a.2 : Int)) (ea_cons (ev_var rfl) (ea_cons (ev_var rfl) ea_nil)) ⟨show (-400 : Int) ≤ 0 by decide, show (0 : Int) ≤ 400 by decide, show (0 : Int) ≤ (a.2 : Int) by omega, show (a.2 : Int) ≤ 400 by omega⟩) ?_
  refine q_set (x := .int 0) ((ev_ng (a := 0) (ev_call1 a.1.2 (ev_q2 (q := a.1) (ev_var rfl) ev_int) ⟨by omega, b0⟩)).to rfl) rfl ?_
  refine q_unpTL (a := (a.1, a.2)) (ea_cons (ev_var rfl) (ea_cons (EvE.to (ev_cb (ea_cons ev_int (ea_cons (ev_sub (ev_add (ev_var (x := .int 0) rfl) (ev_var (x := .int (a.2 : Nat)) rfl)) (ev_var (x := .int 0) rfl)) ea_nil)) rc_max2) ?_) ea_nil)) ⟨Nat.le_trans lB (by decide), hse⟩ rfl (prs_encR _) (by decide) ?_
  · congr 1
    omega
  have sl := ser_len a.1.1 a.1.2 a.2
  refine g_ret (x := encP (ser a.1.1 a.1.2 a.2)) (EvE.to (ev_cb (ea_cons (ev_of (el_lc ((ser a.1.1 a.1.2 a.2).map encR) (EvI.toC (ei_range2 (a := 0) (b := (0 + (a.2 : Nat) : Int)) (ea_cons (ev_var rfl) (ea_cons (ev_add (ev_var (x := .int 0) rfl) (ev_var (x := .int (a.2 : Nat)) rfl)) ea_nil)) (by omega))) (by rw [List.length_map, sl, intR_len]; omega) (by rw [intR_len]; omega) (prs_encR _) fun i d y hd hy => ?_)) ea_nil) rc_tupL) rfl) hD
  obtain ⟨rfl, hi⟩ := intR_get' hd
  obtain ⟨h3, rfl⟩ := enc_get' hy
  refine ⟨_, tg_name rfl (by simp), ev_if (b := true) (et_test (EvE.to (ev_ge (a := (0 + (i : Nat) * 1 : Int)) (b := 0) (ev_var rfl) (ev_var rfl)) ?_)) (fun _ => ev_ixL (ev_var rfl) (ev_sub (a := (0 + (i : Nat) * 1 : Int)) (b := 0) (ev_var rfl) (ev_var rfl)) (atI_enc (p := ser a.1.1 a.1.2 a.2) (k := i) (by omega) h3)) fun e => nomatch e⟩
  simp

end
end Sw
namespace Sw
open PySem PySem.Spec L2
open PyProof.Rows hiding St
def seqD (a : Bool × List Rat) : PyData := if a.1 = true then encL a.2 else encP a.2
theorem cut_last {xs : List PyData} : cutD xs none (some (-1)) = xs.dropLast := by
  unfold cutD
  rw [HT.sIx_none, List.drop_zero, Nat.sub_zero, List.dropLast_eq_take]
  congr 1
  unfold HT.sIx
  simp
  omega
def enc3 (s : Part) : PyData := .tuple [encR s.1, encR s.2.1, .int (s.2.2 : Nat)]
theorem pr_enc3 (s : Part) : pr (enc3 s) = true := rfl
theorem prs_enc3 (l : List Part) : prs (l.map enc3) = true := prs_maps enc3 pr_enc3 l
theorem one0 : PyData.tuple [.int 0, .int 1] = encR 0 := rfl
theorem one1 : PyData.tuple [.int 1, .int 1] = encR 1 := rfl
section
variable {K : Fg} {H0 : Hp} {F : List FE} {G : List B}
theorem ev_r0 : EvE K H0 F G (tTup (tCons (tC (.int 0)) (tCons (tC (.int 1)) tNil))) (encR 0) := ev_tup (ea_cons ev_int (ea_cons ev_int ea_nil))
theorem ev_r1 : EvE K H0 F G (tTup (tCons (tC (.int 1)) (tCons (tC (.int 1)) tNil))) (encR 1) := ev_tup (ea_cons ev_int (ea_cons ev_int ea_nil))
end
section
variable {P : Program} {w : World} {K : Fg} {mg : Str → Option Value} {base : Heap}

abbrev s__law_gcd : Stmt := topS 70
theorem sc__law_gcd : FnScope ["a", "b"] ["a", "b"] (defScope s__law_gcd) := ⟨rfl, rfl, rfl, by decide +kernel, rfl, by decide +kernel, by decide +kernel⟩
theorem ok__law_gcd (M : Glb P K mg base) (F : Dfn K mg "_law_gcd" s__law_gcd) : Cal P w K mg base "_law_gcd" ["a", "b"] 41 (sp2 K PyData.int PyData.int (fun _ => True) (fun a => .int (Int.gcd a.1 a.2 : Nat))) := by
  refine def_ok F sc__law_gcd (fun _ _ _ _ _ _ us hl => match us, hl with | [_, _], _ => rfl) (fun _ => rfl) (fun _ => rfl) fun cdv f A outer s H E hr a ha => ?_
  have hu := room_eq (k := 0) hr
  refine ⟨_, (pss_cons (ps_par (i := 0) (j := 1) rfl sc__law_gcd.nd rfl rfl (by decide) rfl rfl (pa_cons (pe_callB call_absS (by rfl) M.g_abs boot_abs (pa_cons (pv 0) pa_nil)) (pa_cons (pe_callB call_absS (by rfl) M.g_abs boot_abs (pa_cons (pv 1) pa_nil)) pa_nil)) (by rfl))
      (pss_cons (ps_while PassesOwn.never (pt_cmpR (op_neD hu) (pv 1) pe_int (nomark _)) (pss_one (ps_par (i := 0) (j := 1) rfl sc__law_gcd.nd rfl rfl (by decide) rfl rfl (pa_cons (pv 1) (pa_cons (pe_op op_modS (pv 0) (pv 1)) pa_nil)) (by rfl))))
      (pss_one (ps_ret (pv 0))))), fun D hD => ?_⟩
  refine g_seq (g_par (b1 := .d (.int a.1.natAbs)) (b2 := .d (.int a.2.natAbs)) ⟨ev_cb (ea_cons (ev_var rfl) ea_nil) rc_abs, rfl⟩ ⟨ev_cb (ea_cons (ev_var rfl) ea_nil) rc_abs, rfl⟩ ?_)
  refine g_seq (g_while (fun p : Nat × Nat => [.d (.int p.1), .d (.int p.2)]) (fun p => Nat.gcd p.1 p.2 = Int.gcd a.1 a.2) (fun p => decide (p.2 ≠ 0)) (fun p => (p.2, p.1 % p.2)) (fun p => p.2) (a.1.natAbs, a.2.natAbs) (LeG.refl _) rfl
    (fun p _ => et_test (ev_ne (ev_var rfl) ev_int rfl rfl (by rw [eqv_int]; by_cases h : p.2 = 0 <;> simp [h]))) (fun p hp hc => ?_) (fun p hp hc => ?_))
  · have h0 : p.2 ≠ 0 := by simpa using hc
    refine ⟨?_, Nat.mod_lt _ (by omega), ?_⟩
    · rw [← hp]
      show Nat.gcd p.2 (p.1 % p.2) = _
      rw [Nat.gcd_comm, ← Nat.gcd_rec, Nat.gcd_comm]
    · exact g_par (b1 := .d (.int p.2)) (b2 := .d (.int (p.1 % p.2 : Nat))) ⟨ev_var rfl, rfl⟩ ⟨(ev_mod (ev_var rfl) (ev_var rfl) (by omega)).to (by rw [Int.natCast_emod]), rfl⟩ (fun _ _ o => o)
  · have h0 : p.2 = 0 := by simpa using hc
    refine g_ret (x := .int (Int.gcd a.1 a.2 : Nat)) ((ev_var rfl).to ?_) hD
    rw [← hp, h0, Nat.gcd_zero_right]

abbrev s__law_fr : Stmt := topS 71
theorem sc__law_fr : FnScope ["a", "b", "part"] ["a", "b"] (defScope s__law_fr) := ⟨rfl, rfl, rfl, by decide +kernel, rfl, by decide +kernel, by decide +kernel⟩
theorem ok__law_fr (M : Glb P K mg base) (F : Dfn K mg "_law_fr" s__law_fr) (c__law_gcd : Cal P w K mg base "_law_gcd" ["a", "b"] 41 (sp2 K PyData.int PyData.int (fun _ => True) (fun a => .int (Int.gcd a.1 a.2 : Nat)))) : Cal P w K mg base "_law_fr" ["a", "b"] 42 (sp2 K PyData.int PyData.int (fun a => a.2 ≠ 0) (fun a => encR (Rat.divInt a.1 a.2))) := by
  refine def_ok F sc__law_fr (fun _ _ _ _ _ _ us hl => match us, hl with | [_, _], _ => rfl) (fun _ => rfl) (fun _ => rfl) fun cdv f A outer s H E hr a ha => ?_
  have hdv := room_div (k := 1) hr
  refine ⟨_, (pss_cons (ps_set (i := 2) sc__law_fr.nd rfl (by first | exact Or.inl rfl | exact Or.inr rfl) (pe_cal c__law_gcd (hr.mono (by decide)) (by rfl) (pa_cons (pv 0) (pa_cons (pv 1) pa_nil))))
      (pss_cons (ps_set (i := 2) sc__law_fr.nd rfl (by first | exact Or.inl rfl | exact Or.inr rfl) (pe_ifExp (pt_cmpR op_gtS (pv 1) pe_int (nomark _)) (pv 2) (pe_op op_subS pe_int (pv 2))))
      (pss_one (ps_ret (pe_tup (pa_cons (pe_op (op_divP M.seer M.tree hdv) (pv 0) (pv 2)) (pa_cons (pe_op (op_divP M.seer M.tree hdv) (pv 1) (pv 2)) pa_nil))))))), fun D hD => ?_⟩
  have h0 : a.2 ≠ 0 := ha
  obtain ⟨f1, f2⟩ := fr_num a.1 a.2 h0
  have hg : (0 : Int) < (Int.gcd a.1 a.2 : Nat) := by
    have := Int.gcd_pos_of_ne_zero_right a.1 h0
    omega
  refine q_set (x := .int (Int.gcd a.1 a.2 : Nat)) (ev_call2 a.1 a.2 (ev_var rfl) (ev_var rfl) trivial) rfl ?_
  refine q_set (x := .int (if 0 < a.2 then (Int.gcd a.1 a.2 : Int) else 0 - (Int.gcd a.1 a.2 : Int))) (ev_if (b := decide (0 < a.2)) (et_test (ev_gt (ev_var rfl) ev_int)) (fun h => (ev_var rfl).to ?_) (fun h => (ev_sub (ev_int (i := 0)) (ev_var (x := .int (Int.gcd a.1 a.2 : Nat)) rfl)).to ?_)) rfl ?_
  · rw [if_pos (of_decide_eq_true h)]
  · rw [if_neg (of_decide_eq_false h)]
  have hn : (if 0 < a.2 then (Int.gcd a.1 a.2 : Int) else 0 - (Int.gcd a.1 a.2 : Int)) ≠ 0 := by split <;> omega
  refine g_ret (x := encR (Rat.divInt a.1 a.2)) ((ev_tup (ea_cons (ev_divN (ev_var rfl) (ev_var rfl) hn) (ea_cons (ev_divN (ev_var rfl) (ev_var rfl) hn) ea_nil))).to ?_) hD
  rw [f1, f2]

abbrev s__law_add : Stmt := topS 72
theorem sc__law_add : FnScope ["one", "other"] ["one", "other"] (defScope s__law_add) := ⟨rfl, rfl, rfl, by decide +kernel, rfl, by decide +kernel, by decide +kernel⟩
theorem ok__law_add (M : Glb P K mg base) (F : Dfn K mg "_law_add" s__law_add) (c__law_fr : Cal P w K mg base "_law_fr" ["a", "b"] 42 (sp2 K PyData.int PyData.int (fun a => a.2 ≠ 0) (fun a => encR (Rat.divInt a.1 a.2)))) : Cal P w K mg base "_law_add" ["one", "other"] 43 (sp2 K encR encR (fun a => Sm a.1 ∧ Sm a.2) (fun a => encR (a.1 + a.2))) := by
  refine def_ok F sc__law_add (fun _ _ _ _ _ _ us hl => match us, hl with | [_, _], _ => rfl) (fun _ => rfl) (fun _ => rfl) fun cdv f A outer s H E hr a ha => ?_
  refine ⟨_, (pss_one (ps_ret (pe_cal c__law_fr (hr.mono (by decide)) (by rfl) (pa_cons (pe_op op_addAny (pe_op op_mulAny (pe_ix ix_seq (pv 0) pe_int (fun _ _ => rfl)) (pe_ix ix_seq (pv 1) pe_int (fun _ _ => rfl))) (pe_op op_mulAny (pe_ix ix_seq (pv 1) pe_int (fun _ _ => rfl)) (pe_ix ix_seq (pv 0) pe_int (fun _ _ => rfl)))) (pa_cons (pe_op op_mulAny (pe_ix ix_seq (pv 0) pe_int (fun _ _ => rfl)) (pe_ix ix_seq (pv 1) pe_int (fun _ _ => rfl))) pa_nil))))), fun D hD => ?_⟩
  obtain ⟨h1, h2⟩ := ha
  refine g_ret ((ev_call2 _ _ (ev_add (ev_mul (ev_num (ev_var rfl) ev_int) (ev_den (ev_var rfl) ev_int) (sm_c1 h1 h2)) (ev_mul (ev_num (ev_var rfl) ev_int) (ev_den (ev_var rfl) ev_int) (sm_c1 h2 h1))) (ev_mul (ev_den (ev_var rfl) ev_int) (ev_den (ev_var rfl) ev_int) (sm_c2 h1 h2)) den_ne2).to ?_) hD
  exact congrArg encR (divInt_add _ _)

abbrev s__law_less : Stmt := topS 73
theorem sc__law_less : FnScope ["one", "other"] ["one", "other"] (defScope s__law_less) := ⟨rfl, rfl, rfl, by decide +kernel, rfl, by decide +kernel, by decide +kernel⟩
theorem ok__law_less (M : Glb P K mg base) (F : Dfn K mg "_law_less" s__law_less) (c__law_fr : Cal P w K mg base "_law_fr" ["a", "b"] 42 (sp2 K PyData.int PyData.int (fun a => a.2 ≠ 0) (fun a => encR (Rat.divInt a.1 a.2)))) : Cal P w K mg base "_law_less" ["one", "other"] 43 (sp2 K encR encR (fun a => Sm a.1 ∧ Sm a.2) (fun a => encR (a.1 - a.2))) := by
  refine def_ok F sc__law_less (fun _ _ _ _ _ _ us hl => match us, hl with | [_, _], _ => rfl) (fun _ => rfl) (fun _ => rfl) fun cdv f A outer s H E hr a ha => ?_
  refine ⟨_, (pss_one (ps_ret (pe_cal c__law_fr (hr.mono (by decide)) (by rfl) (pa_cons (pe_op op_subS (pe_op op_mulAny (pe_ix ix_seq (pv 0) pe_int (fun _ _ => rfl)) (pe_ix ix_seq (pv 1) pe_int (fun _ _ => rfl))) (pe_op op_mulAny (pe_ix ix_seq (pv 1) pe_int (fun _ _ => rfl)) (pe_ix ix_seq (pv 0) pe_int (fun _ _ => rfl)))) (pa_cons (pe_op op_mulAny (pe_ix ix_seq (pv 0) pe_int (fun _ _ => rfl)) (pe_ix ix_seq (pv 1) pe_int (fun _ _ => rfl))) pa_nil))))), fun D hD => ?_⟩
  obtain ⟨h1, h2⟩ := ha
  refine g_ret ((ev_call2 _ _ (ev_sub (ev_mul (ev_num (ev_var rfl) ev_int) (ev_den (ev_var rfl) ev_int) (sm_c1 h1 h2)) (ev_mul (ev_num (ev_var rfl) ev_int) (ev_den (ev_var rfl) ev_int) (sm_c1 h2 h1))) (ev_mul (ev_den (ev_var rfl) ev_int) (ev_den (ev_var rfl) ev_int) (sm_c2 h1 h2)) den_ne2).to ?_) hD
  exact congrArg encR (divInt_sub _ _)

abbrev s__law_mul : Stmt := topS 74
theorem sc__law_mul : FnScope ["one", "other"] ["one", "other"] (defScope s__law_mul) := ⟨rfl, rfl, rfl, by decide +kernel, rfl, by decide +kernel, by decide +kernel⟩
theorem ok__law_mul (M : Glb P K mg base) (F : Dfn K mg "_law_mul" s__law_mul) (c__law_fr : Cal P w K mg base "_law_fr" ["a", "b"] 42 (sp2 K PyData.int PyData.int (fun a => a.2 ≠ 0) (fun a => encR (Rat.divInt a.1 a.2)))) : Cal P w K mg base "_law_mul" ["one", "other"] 43 (sp2 K encR encR (fun a => Sm a.1 ∧ Sm a.2) (fun a => encR (a.1 * a.2))) := by
  refine def_ok F sc__law_mul (fun _ _ _ _ _ _ us hl => match us, hl with | [_, _], _ => rfl) (fun _ => rfl) (fun _ => rfl) fun cdv f A outer s H E hr a ha => ?_
  refine ⟨_, (pss_one (ps_ret (pe_cal c__law_fr (hr.mono (by decide)) (by rfl) (pa_cons (pe_op op_mulAny (pe_ix ix_seq (pv 0) pe_int (fun _ _ => rfl)) (pe_ix ix_seq (pv 1) pe_int (fun _ _ => rfl))) (pa_cons (pe_op op_mulAny (pe_ix ix_seq (pv 0) pe_int (fun _ _ => rfl)) (pe_ix ix_seq (pv 1) pe_int (fun _ _ => rfl))) pa_nil))))), fun D hD => ?_⟩
  obtain ⟨h1, h2⟩ := ha
  refine g_ret ((ev_call2 _ _ (ev_mul (ev_num (ev_var rfl) ev_int) (ev_num (ev_var rfl) ev_int) (sm_c3 h1 h2)) (ev_mul (ev_den (ev_var rfl) ev_int) (ev_den (ev_var rfl) ev_int) (sm_c2 h1 h2)) den_ne2).to ?_) hD
  exact congrArg encR (divInt_mul _ _)

abbrev s__law_div : Stmt := topS 75
theorem sc__law_div : FnScope ["one", "other"] ["one", "other"] (defScope s__law_div) := ⟨rfl, rfl, rfl, by decide +kernel, rfl, by decide +kernel, by decide +kernel⟩
theorem ok__law_div (M : Glb P K mg base) (F : Dfn K mg "_law_div" s__law_div) (c__law_fr : Cal P w K mg base "_law_fr" ["a", "b"] 42 (sp2 K PyData.int PyData.int (fun a => a.2 ≠ 0) (fun a => encR (Rat.divInt a.1 a.2)))) : Cal P w K mg base "_law_div" ["one", "other"] 43 (sp2 K encR encR (fun a => Sm a.1 ∧ Sm a.2 ∧ a.2 ≠ 0) (fun a => encR (a.1 / a.2))) := by
  refine def_ok F sc__law_div (fun _ _ _ _ _ _ us hl => match us, hl with | [_, _], _ => rfl) (fun _ => rfl) (fun _ => rfl) fun cdv f A outer s H E hr a ha => ?_
  refine ⟨_, (pss_one (ps_ret (pe_cal c__law_fr (hr.mono (by decide)) (by rfl) (pa_cons (pe_op op_mulAny (pe_ix ix_seq (pv 0) pe_int (fun _ _ => rfl)) (pe_ix ix_seq (pv 1) pe_int (fun _ _ => rfl))) (pa_cons (pe_op op_mulAny (pe_ix ix_seq (pv 0) pe_int (fun _ _ => rfl)) (pe_ix ix_seq (pv 1) pe_int (fun _ _ => rfl))) pa_nil))))), fun D hD => ?_⟩
  obtain ⟨h1, h2, h3⟩ := ha
  have h4 : ((a.1.den : Int) * a.2.num) ≠ 0 := by
    have := a.1.den_nz
    exact Int.mul_ne_zero (by omega) (num_ne h3)
  refine g_ret ((ev_call2 _ _ (ev_mul (ev_num (ev_var rfl) ev_int) (ev_den (ev_var rfl) ev_int) (sm_c1 h1 h2)) (ev_mul (ev_den (ev_var rfl) ev_int) (ev_num (ev_var rfl) ev_int) (sm_c4 h1 h2)) h4).to ?_) hD
  exact congrArg encR (divInt_div _ _ h3)

abbrev s__law_sum : Stmt := topS 76
theorem sc__law_sum : FnScope ["some", "found", "one"] ["some"] (defScope s__law_sum) := ⟨rfl, rfl, rfl, by decide +kernel, rfl, by decide +kernel, by decide +kernel⟩
theorem ok__law_sum (M : Glb P K mg base) (F : Dfn K mg "_law_sum" s__law_sum) (c__law_add : Cal P w K mg base "_law_add" ["one", "other"] 43 (sp2 K encR encR (fun a => Sm a.1 ∧ Sm a.2) (fun a => encR (a.1 + a.2)))) : Cal P w K mg base "_law_sum" ["some"] 44 (sp1 K encL SumOk (fun l => encR (rsum l))) := by
  refine def_okR F sc__law_sum (fun _ _ _ _ _ _ us hl => match us, hl with | [_], _ => rfl) (fun _ => rfl) fun cdv f A outer s H E hr a ha => ?_
  refine ⟨_, (pss_cons (ps_set (i := 1) sc__law_sum.nd rfl (by first | exact Or.inl rfl | exact Or.inr rfl) (pe_tup (pa_cons pe_int (pa_cons pe_int pa_nil))))
      (pss_cons (ps_for PassesOwn.never rfl (pi_list (pv 0)) (pg_name (i := 2) sc__law_sum.nd rfl (by first | exact Or.inl rfl | exact Or.inr rfl)) (pss_one (ps_set (i := 1) sc__law_sum.nd rfl (by first | exact Or.inl rfl | exact Or.inr rfl) (pe_cal c__law_add (hr.mono (by decide)) (by rfl) (pa_cons (pv 1) (pa_cons (pv 2) pa_nil))))))
      (pss_one (ps_ret (pv 1))))), fun D hD => ?_⟩
  obtain ⟨ll, h1, h2⟩ := ha
  refine q_set (x := encR 0) ev_r0 rfl ?_
  refine q_for (ds := a.map encR) [2] (ei_listR rfl) (fun i => [.r (encL a), .d (encR (rsum (a.take i))), .u]) (LeG.refl _) (fun F1 i d hd => ?_) ?_
  · obtain ⟨hi, rfl⟩ := enc_get' hd
    refine ⟨_, tg_name rfl (by simp), ?_⟩
    refine g_set (x := encR (rsum (a.take (i + 1)))) ?_ rfl (a_le (by repeat (first | exact LeG.nil | apply LeG.same | apply LeG.drop)))
    rw [rsum_take (get_cf hi)]
    exact ev_call2 _ _ (ev_var rfl) (ev_var rfl) ⟨h1 i, h2 _ (cf_mem hi)⟩
  · rw [List.length_map, List.take_length]
    exact g_ret (x := encR (rsum a)) (ev_var rfl) hD

abbrev s__law_trim : Stmt := topS 78
theorem sc__law_trim : FnScope ["poly"] ["poly"] (defScope s__law_trim) := ⟨rfl, rfl, rfl, by decide +kernel, rfl, by decide +kernel, by decide +kernel⟩
theorem ok__law_trim (M : Glb P K mg base) (F : Dfn K mg "_law_trim" s__law_trim) : Cal P w K mg base "_law_trim" ["poly"] 41 (sp1 K seqD (fun a => a.2.length ≤ 1000) (fun a => encP (trim a.2))) := by
  refine def_okR F sc__law_trim (fun _ _ _ _ _ _ us hl => match us, hl with | [_], _ => rfl) (fun _ => rfl) fun cdv f A outer s H E hr a ha => ?_
  have hu := room_eq (k := 0) hr
  refine ⟨_, (pss_cons (ps_set (i := 0) sc__law_trim.nd rfl (by first | exact Or.inl rfl | exact Or.inr rfl) (pe_callTy call_listS (by rfl) M.g_list boot_list (pa_cons (pv 0) pa_nil)))
      (pss_cons (ps_while PassesOwn.never (pw_and (pt_cmpR (op_neD hu) (pv 0) (pe_lst pa_nil) (nomark _)) (pw_and1 (pt_cmpR (op_eqD hu) (pe_ix ix_seq (pv 0) (pe_un un_negS pe_int) (fun _ _ => rfl)) (pe_tup (pa_cons pe_int (pa_cons pe_int pa_nil))) (nomark _)))).pt (pss_one (ps_set (i := 0) sc__law_trim.nd rfl (by first | exact Or.inl rfl | exact Or.inr rfl) (pe_slice sl_any (pv 0) po_none (po_some (pe_un un_negS pe_int))))))
      (pss_one (ps_ret (pe_callTy call_tupS (by rfl) M.g_tuple boot_tuple (pa_cons (pv 0) pa_nil)))))), fun D hD => ?_⟩
  obtain ⟨b, p⟩ := a
  have hl : EvL K H [] [.r (seqD (b, p))] (tCB (rListOf K) (tCons (tVar 0) tNil)) (p.map encR) := by
    cases b with
    | true => exact el_cb (ea_cons (ev_var rfl) ea_nil) rc_listL
    | false => exact el_cb (ea_cons (ev_var rfl) ea_nil) rc_listT
  refine q_setL hl (prs_encR _) ?_
  refine q_while (fun f : List Rat => [.l (f.map encR)]) (fun f => trim f = trim p ∧ f.length ≤ 1000) (fun f => !decide (f = []) && decide (lastOf f = 0)) (fun f => f.dropLast) (fun f => f.length) p (LeG.refl _) ⟨rfl, ha⟩ (fun f hf => ?_) (fun f hf hc => ?_) (fun f hf hc => ?_)
  · refine et_and (et_test (ev_ne (b := !decide (f = [])) (ev_var rfl) (ev_of (el_lst ea_nil)) (sh_list f) rfl ?_)) fun h => ?_
    · rw [show PyData.list [] = .list (([] : List Rat).map encR) from rfl, eqv_list]
    · have f0 : f ≠ [] := by simpa using h
      exact et_test (ev_eq (ev_ixL (ev_var rfl) (ev_ng ev_int) (atI_encl f0)) ev_r0 rfl rfl (eqv_encR _ _))
  · have hc' : f ≠ [] ∧ lastOf f = 0 := by simpa using hc
    have fl := List.length_pos_iff.mpr hc'.1
    have e : f = f.dropLast ++ [0] := by
      have := List.dropLast_concat_getLast hc'.1
      have e2 : f.getLast hc'.1 = lastOf f := by
        rw [List.getLast_eq_getElem]
        simp [lastOf, cf, show f.length - 1 < f.length by omega]
      rw [e2, hc'.2] at this
      exact this.symm
    refine ⟨⟨?_, ?_⟩, ?_, ?_⟩
    · rw [← hf.1]
      conv => rhs; rw [e]
      rw [trim_snoc0]
    · rw [List.length_dropLast]; exact Nat.le_trans (Nat.sub_le _ _) hf.2
    · rw [List.length_dropLast]; omega
    · refine g_setL (xs := f.dropLast.map encR) ((el_slL (ev_var rfl) eo_none (eo_some (ev_ng ev_int))).to ?_) (prs_encR _) (a_le (LeG.refl _))
      rw [cut_last, List.map_dropLast]
  · have e : trim f = f := by
      refine trd_of_last fun f0 => ?_
      have : lastOf f ≠ 0 := by
        intro z
        simp [f0, z] at hc
      exact this
    have hD' : Rt K H D (encP (trim p)) := hD
    rw [← hf.1, e] at hD'
    exact g_ret (x := encP f) (ev_cb (ea_cons (ev_var rfl) ea_nil) rc_tupL) hD'

abbrev s__law_poly_times : Stmt := topS 79
theorem sc__law_poly_times : FnScope ["one", "other", "found", "k", "a", "m", "b"] ["one", "other"] (defScope s__law_poly_times) := ⟨rfl, rfl, rfl, by decide +kernel, rfl, by decide +kernel, by decide +kernel⟩
theorem ok__law_poly_times (M : Glb P K mg base) (F : Dfn K mg "_law_poly_times" s__law_poly_times) (c__law_trim : Cal P w K mg base "_law_trim" ["poly"] 41 (sp1 K seqD (fun a => a.2.length ≤ 1000) (fun a => encP (trim a.2)))) (c__law_add : Cal P w K mg base "_law_add" ["one", "other"] 43 (sp2 K encR encR (fun a => Sm a.1 ∧ Sm a.2) (fun a => encR (a.1 + a.2)))) (c__law_mul : Cal P w K mg base "_law_mul" ["one", "other"] 43 (sp2 K encR encR (fun a => Sm a.1 ∧ Sm a.2) (fun a => encR (a.1 * a.2)))) : Cal P w K mg base "_law_poly_times" ["one", "other"] 44 (sp2 K encP encP (fun a => MuOk a.1 a.2) (fun a => encP (pmul a.1 a.2))) := by
  refine def_ok F sc__law_poly_times (fun _ _ _ _ _ _ us hl => match us, hl with | [_, _], _ => rfl) (fun _ => rfl) (fun a => prs2 (pr_encP a.1) (pr_encP a.2)) fun cdv f A outer s H E hr a ha => ?_
  refine ⟨_, (pss_cons (ps_set (i := 2) sc__law_poly_times.nd rfl (by first | exact Or.inl rfl | exact Or.inr rfl) (pe_op op_mulAny (pe_lst (pa_cons (pe_tup (pa_cons pe_int (pa_cons pe_int pa_nil))) pa_nil)) (pe_callB (call_max2S rfl) (by rfl) M.g_max boot_max (pa_cons pe_int (pa_cons (pe_op op_subS (pe_op op_addAny (pe_callB call_lenS (by rfl) M.g_len boot_len (pa_cons (pv 0) pa_nil)) (pe_callB call_lenS (by rfl) M.g_len boot_len (pa_cons (pv 1) pa_nil))) pe_int) pa_nil)))))
      (pss_cons (ps_for PassesOwn.never rfl (pi_enumT (by rfl) M.g_enumerate (pa_cons (pv 0) pa_nil)) (pg_tup (by rfl) (pgs_cons (pg_name (i := 3) sc__law_poly_times.nd rfl (by first | exact Or.inl rfl | exact Or.inr rfl)) (pgs_cons (pg_name (i := 4) sc__law_poly_times.nd rfl (by first | exact Or.inl rfl | exact Or.inr rfl)) pgs_nil))) (pss_one (ps_for PassesOwn.never rfl (pi_enumT (by rfl) M.g_enumerate (pa_cons (pv 1) pa_nil)) (pg_tup (by rfl) (pgs_cons (pg_name (i := 5) sc__law_poly_times.nd rfl (by first | exact Or.inl rfl | exact Or.inr rfl)) (pgs_cons (pg_name (i := 6) sc__law_poly_times.nd rfl (by first | exact Or.inl rfl | exact Or.inr rfl)) pgs_nil))) (pss_one (ps_asg (pe_cal c__law_add (hr.mono (by decide)) (by rfl) (pa_cons (pe_ix ix_seq (pv 2) (pe_op op_addAny (pv 3) (pv 5)) (fun _ _ => rfl)) (pa_cons (pe_cal c__law_mul (hr.mono (by decide)) (by rfl) (pa_cons (pv 4) (pa_cons (pv 6) pa_nil))) pa_nil))) (pg_sub (pv 2) (pe_op op_addAny (pv 3) (pv 5)) set_list))))))
      (pss_one (ps_ret (pe_cal c__law_trim (hr.mono (by decide)) (by rfl) (pa_cons (pv 2) pa_nil)))))), fun D hD => ?_⟩
  have ll : a.1.length ≤ 100 ∧ a.2.length ≤ 100 := by obtain ⟨_, _, _, _, _, x, y⟩ := ha; exact ⟨x, y⟩
  refine q_setL (xs := (mulSt a.1 a.2 0).map encR) ((el_rep1 ev_r0 (ev_cb (ea_cons ev_int (ea_cons (ev_sub (ev_add (ev_lenP (p := a.1) (ev_var rfl)) (ev_lenP (p := a.2) (ev_var rfl))) ev_int) ea_nil)) rc_max2) ?_).to ?_) (prs_encR _) ?_
  · omega
  · rw [mulSt, List.map_replicate]
    congr 1
    omega
  refine q_for [3, 4] (ei_enumT (ea_cons (ev_var rfl) ea_nil) (prs_encR a.1)) (fun i => [.d (encP a.1), .d (encP a.2), .l ((mulSt a.1 a.2 i).map encR), .u, .u, .u, .u]) (LeG.refl _) (fun F1 i d hd => ?_) ?_
  · obtain ⟨hi, rfl⟩ := enum_enc hd
    refine ⟨_, tg_tup2 rfl rfl (by simp) (by simp), ?_⟩
    refine g_for [5, 6] (ei_enumT (ea_cons (ev_var rfl) ea_nil) (prs_encR a.2)) (fun j => [.d (encP a.1), .d (encP a.2), .l ((inner (mulSt a.1 a.2 i) i (cf a.1 i) a.2 j).map encR), .d (.int (i : Nat)), .d (encR (cf a.1 i)), .u, .u]) (LeG.refl _) (fun F2 j d hd => ?_) ?_
    · obtain ⟨hj, rfl⟩ := enum_enc hd
      have hl : i + j < (inner (mulSt a.1 a.2 i) i (cf a.1 i) a.2 j).length := by rw [inner_len, mulSt_len]; omega
      obtain ⟨s1, s2, s3, s4⟩ := mu_sm (k := i) (j := j) ha hi (by omega)
      refine ⟨_, tg_tup2 rfl rfl (by simp) (by simp), ?_⟩
      refine g_setI (k := i + j) (x := encR (cf (inner (mulSt a.1 a.2 i) i (cf a.1 i) a.2 j) (i + j) + cf a.1 i * cf a.2 j)) rfl ?_ rfl ((ev_add (a := (i : Int)) (b := (j : Int)) (ev_var rfl) (ev_var rfl)).to (by rw [Int.natCast_add])) (by rw [List.length_map]; exact hl) ?_
      · exact ev_call2 _ _ (ev_ixL (ev_var rfl) (ev_add (a := (i : Int)) (b := (j : Int)) (ev_var rfl) (ev_var rfl)) (atI_enc (by omega) hl)) (ev_call2 _ _ (ev_var rfl) (ev_var rfl) ⟨s1 _, s2 _⟩) ⟨s4 _, s3 _⟩
      · rw [← List.map_set]
        exact a_le (by repeat (first | exact LeG.nil | apply LeG.same | apply LeG.drop))
    · rw [enumD_len, List.length_map]
      exact a_le (by repeat (first | exact LeG.nil | apply LeG.same | apply LeG.drop))
  · rw [enumD_len, List.length_map]
    refine g_ret (x := encP (pmul a.1 a.2)) ?_ hD
    exact ev_call1 (true, mulSt a.1 a.2 a.1.length) (ev_var rfl) (by show (mulSt _ _ _).length ≤ 1000; rw [mulSt_len]; omega)

theorem zip_get {xs ys : List PyData} {i : Nat} {d : PyData} (h : (zipD xs ys)[i]? = some d) : ∃ x y, xs[i]? = some x ∧ ys[i]? = some y ∧ d = .tuple [x, y] := by
  unfold zipD at h
  rw [List.getElem?_map] at h
  cases e : (xs.zip ys)[i]? with
  | none => rw [e] at h; cases h
  | some p =>
    rw [e] at h
    obtain ⟨h1, h2⟩ := List.getElem?_zip_eq_some.mp e
    exact ⟨p.1, p.2, h1, h2, (Option.some.inj h).symm⟩
def pad (p : List Rat) (n : Nat) : List Rat := p ++ List.replicate (n - p.length) 0
theorem cf_pad (p : List Rat) (n i : Nat) : cf (pad p n) i = cf p i := by
  unfold pad cf
  rw [List.getD_eq_getElem?_getD, List.getD_eq_getElem?_getD, List.getElem?_append]
  split
  · rfl
  · rename_i h
    rw [List.getElem?_eq_none (l := p) (by omega), List.getElem?_replicate]
    split <;> rfl
theorem pad_len {p : List Rat} {n : Nat} (h : p.length ≤ n) : (pad p n).length = n := by simp [pad]; omega

abbrev s__law_poly_add : Stmt := topS 80
theorem sc__law_poly_add : FnScope ["one", "other", "many", "first", "second", "a", "b"] ["one", "other"] (defScope s__law_poly_add) := ⟨rfl, rfl, rfl, by decide +kernel, rfl, by decide +kernel, by decide +kernel⟩
theorem ok__law_poly_add (M : Glb P K mg base) (F : Dfn K mg "_law_poly_add" s__law_poly_add) (c__law_trim : Cal P w K mg base "_law_trim" ["poly"] 41 (sp1 K seqD (fun a => a.2.length ≤ 1000) (fun a => encP (trim a.2)))) (c__law_add : Cal P w K mg base "_law_add" ["one", "other"] 43 (sp2 K encR encR (fun a => Sm a.1 ∧ Sm a.2) (fun a => encR (a.1 + a.2)))) : Cal P w K mg base "_law_poly_add" ["one", "other"] 44 (sp2 K encP encP (fun a => a.1.length ≤ 1000 ∧ a.2.length ≤ 1000 ∧ (∀ i, Sm (cf a.1 i)) ∧ ∀ i, Sm (cf a.2 i)) (fun a => encP (pplus a.1 a.2))) := by
  refine def_ok F sc__law_poly_add (fun _ _ _ _ _ _ us hl => match us, hl with | [_, _], _ => rfl) (fun _ => rfl) (fun a => prs2 (pr_encP a.1) (pr_encP a.2)) fun cdv f A outer s H E hr a ha => ?_
  refine ⟨_, (pss_cons (ps_set (i := 2) sc__law_poly_add.nd rfl (by first | exact Or.inl rfl | exact Or.inr rfl) (pe_callB (call_max2S rfl) (by rfl) M.g_max boot_max (pa_cons (pe_callB call_lenS (by rfl) M.g_len boot_len (pa_cons (pv 0) pa_nil)) (pa_cons (pe_callB call_lenS (by rfl) M.g_len boot_len (pa_cons (pv 1) pa_nil)) pa_nil))))
      (pss_cons (ps_par (i := 3) (j := 4) rfl sc__law_poly_add.nd rfl rfl (by decide) rfl rfl (pa_cons (pe_op op_addAny (pe_callTy call_listS (by rfl) M.g_list boot_list (pa_cons (pv 0) pa_nil)) (pe_op op_mulAny (pe_lst (pa_cons (pe_tup (pa_cons pe_int (pa_cons pe_int pa_nil))) pa_nil)) (pe_op op_subS (pv 2) (pe_callB call_lenS (by rfl) M.g_len boot_len (pa_cons (pv 0) pa_nil))))) (pa_cons (pe_op op_addAny (pe_callTy call_listS (by rfl) M.g_list boot_list (pa_cons (pv 1) pa_nil)) (pe_op op_mulAny (pe_lst (pa_cons (pe_tup (pa_cons pe_int (pa_cons pe_int pa_nil))) pa_nil)) (pe_op op_subS (pv 2) (pe_callB call_lenS (by rfl) M.g_len boot_len (pa_cons (pv 1) pa_nil))))) pa_nil)) (by rfl))
      (pss_one (ps_ret (pe_cal c__law_trim (hr.mono (by decide)) (by rfl) (pa_cons (pe_lc (own := [("a", 5), ("b", 6)]) rfl sc__law_poly_add.nd (pi_zip (by rfl) M.g_zip (pa_cons (pv 3) (pa_cons (pv 4) pa_nil))) (blkOk_by (N := ["one", "other", "many", "first", "second", "a", "b"]) (sc := defScope s__law_poly_add) (by decide +kernel)) (fun _ _ _ _ _ => (pg_tupB (n := 2) (pgs_cons (pg_name (i := 5) sc__law_poly_add.nd rfl (by first | exact Or.inl rfl | exact Or.inr rfl)) (pgs_cons (pg_name (i := 6) sc__law_poly_add.nd rfl (by first | exact Or.inl rfl | exact Or.inr rfl)) pgs_nil)))) (fun _ _ _ _ _ => pts_nil) (fun _ _ _ _ _ => (pe_cal c__law_add (hr.mono (by decide)) (by rfl) (pa_cons (pv 5) (pa_cons (pv 6) pa_nil))))) pa_nil)))))), fun D hD => ?_⟩
  obtain ⟨l1, l2, h1, h2⟩ := ha
  have m1 : a.1.length ≤ max a.1.length a.2.length := Nat.le_max_left _ _
  have m2 : a.2.length ≤ max a.1.length a.2.length := Nat.le_max_right _ _
  have m3 : max a.1.length a.2.length ≤ 1000 := by omega
  have el1 : ((max (a.1.length : Int) a.2.length)) = ((max a.1.length a.2.length : Nat) : Int) := by omega
  have hp1 := pad_len m1
  have hp2 := pad_len m2
  generalize hM : max a.1.length a.2.length = M at *
  refine q_set (x := .int (M : Nat)) ((ev_cb (ea_cons (ev_lenP (p := a.1) (ev_var rfl)) (ea_cons (ev_lenP (p := a.2) (ev_var rfl)) ea_nil)) rc_max2).to (by rw [el1])) rfl ?_
  refine q_par (b1 := .l ((pad a.1 M).map encR)) (b2 := .l ((pad a.2 M).map encR)) ⟨(el_cat' (el_cb (ea_cons (ev_var rfl) ea_nil) rc_listT) (el_rep1 ev_r0 (ev_sub (a := (M : Nat)) (b := (a.1.length : Nat)) (ev_var rfl) (ev_lenP (ev_var rfl))) (by omega)) ?_).to ?_, prs_encR _⟩ ⟨(el_cat' (el_cb (ea_cons (ev_var rfl) ea_nil) rc_listT) (el_rep1 ev_r0 (ev_sub (a := (M : Nat)) (b := (a.2.length : Nat)) (ev_var rfl) (ev_lenP (ev_var rfl))) (by omega)) ?_).to ?_, prs_encR _⟩ ?_
  · rw [List.length_map, List.length_replicate]; omega
  · rw [pad, List.map_append, List.map_replicate]
    congr 2
    omega
  · rw [List.length_map, List.length_replicate]; omega
  · rw [pad, List.map_append, List.map_replicate]
    congr 2
    omega
  have hl : ((List.range M).map fun i => cf a.1 i + cf a.2 i).length ≤ 1000 := by rw [List.length_map, List.length_range]; omega
  have e : encP (pplus a.1 a.2) = encP (trim ((List.range M).map fun i => cf a.1 i + cf a.2 i)) := by rw [pplus, hM]
  have hD' : Rt K H D (encP (pplus a.1 a.2)) := hD
  rw [e] at hD'
  refine g_ret (x := encP (trim ((List.range M).map fun i => cf a.1 i + cf a.2 i))) ?_ hD'
  refine ev_call1 (true, ((List.range M).map fun i => cf a.1 i + cf a.2 i)) (ev_of (el_lc (((List.range M).map fun i => cf a.1 i + cf a.2 i).map encR) (ec_zip (xs := (pad a.1 M).map encR) (ys := (pad a.2 M).map encR) (ea_cons (ev_var rfl) (ea_cons (ev_var rfl) ea_nil))) (by rw [zipD_len]; simp [hp1, hp2]) (by rw [zipD_len]; simp [hp1, hp2]; omega) (prs_encR _) fun i d y hd hy => ?_)) hl
  obtain ⟨x1, y1, g1, g2, rfl⟩ := zip_get hd
  obtain ⟨h3, rfl⟩ := enc_get' g1
  obtain ⟨h4, rfl⟩ := enc_get' g2
  obtain ⟨h5, rfl⟩ := enc_get' hy
  rw [hp1] at h3
  rw [cf_range, if_pos h3, cf_pad, cf_pad]
  exact ⟨_, tg_tup2 rfl rfl (by simp) (by simp), ev_call2 _ _ (ev_var rfl) (ev_var rfl) ⟨h1 i, h2 i⟩⟩

theorem down_get {N i : Nat} {d : PyData} (h : (intR 0 1 N).reverse[i]? = some d) : i < N ∧ d = .int (N - 1 - i : Nat) := by
  have hl := (List.getElem?_eq_some_iff.mp h).1
  rw [List.length_reverse, intR_len] at hl
  rw [List.getElem?_reverse (by rw [intR_len]; exact hl), intR_len] at h
  obtain ⟨rfl, _⟩ := intR_get' h
  exact ⟨hl, by congr 1; omega⟩
theorem prs_intR (lo c : Int) (n : Nat) : prs (intR lo c n) = true := prs_maps (fun (i : Nat) => PyData.int (lo + (i : Nat) * c)) (fun _ => rfl) _

abbrev s__law_poly_divided : Stmt := topS 81
theorem sc__law_poly_divided : FnScope ["one", "other", "at", "rest", "found", "factor", "k", "term_v"] ["one", "other"] (defScope s__law_poly_divided) := ⟨rfl, rfl, rfl, by decide +kernel, rfl, by decide +kernel, by decide +kernel⟩
theorem ok__law_poly_divided (M : Glb P K mg base) (F : Dfn K mg "_law_poly_divided" s__law_poly_divided) (c__law_trim : Cal P w K mg base "_law_trim" ["poly"] 41 (sp1 K seqD (fun a => a.2.length ≤ 1000) (fun a => encP (trim a.2)))) (c__law_less : Cal P w K mg base "_law_less" ["one", "other"] 43 (sp2 K encR encR (fun a => Sm a.1 ∧ Sm a.2) (fun a => encR (a.1 - a.2)))) (c__law_mul : Cal P w K mg base "_law_mul" ["one", "other"] 43 (sp2 K encR encR (fun a => Sm a.1 ∧ Sm a.2) (fun a => encR (a.1 * a.2)))) (c__law_div : Cal P w K mg base "_law_div" ["one", "other"] 43 (sp2 K encR encR (fun a => Sm a.1 ∧ Sm a.2 ∧ a.2 ≠ 0) (fun a => encR (a.1 / a.2)))) : Cal P w K mg base "_law_poly_divided" ["one", "other"] 44 (sp2 K encP encP (fun a => DvOk a.1 a.2) (fun a => encQ (pquo a.1 a.2, prem a.1 a.2))) := by
  refine def_ok F sc__law_poly_divided (fun _ _ _ _ _ _ us hl => match us, hl with | [_, _], _ => rfl) (fun _ => rfl) (fun a => prs2 (pr_encP a.1) (pr_encP a.2)) fun cdv f A outer s H E hr a ha => ?_
  refine ⟨_, (pss_cons (ps_par (i := 3) (j := 4) rfl sc__law_poly_divided.nd rfl rfl (by decide) rfl rfl (pa_cons (pe_callTy call_listS (by rfl) M.g_list boot_list (pa_cons (pv 0) pa_nil)) (pa_cons (pe_op op_mulAny (pe_lst (pa_cons (pe_tup (pa_cons pe_int (pa_cons pe_int pa_nil))) pa_nil)) (pe_callB (call_max2S rfl) (by rfl) M.g_max boot_max (pa_cons pe_int (pa_cons (pe_op op_addAny (pe_op op_subS (pe_callB call_lenS (by rfl) M.g_len boot_len (pa_cons (pv 0) pa_nil)) (pe_callB call_lenS (by rfl) M.g_len boot_len (pa_cons (pv 1) pa_nil))) pe_int) pa_nil)))) pa_nil)) (by rfl))
      (pss_cons (ps_for PassesOwn.never rfl (pi_list (pe_revL (pe_listRg (by rfl) (by rfl) M.g_list (prg_1 (by rfl) M.g_range (pe_callB call_lenS (by rfl) M.g_len boot_len (pa_cons (pv 4) pa_nil)))))) (pg_name (i := 2) sc__law_poly_divided.nd rfl (by first | exact Or.inl rfl | exact Or.inr rfl)) (pss_cons (ps_set (i := 5) sc__law_poly_divided.nd rfl (by first | exact Or.inl rfl | exact Or.inr rfl) (pe_cal c__law_div (hr.mono (by decide)) (by rfl) (pa_cons (pe_ix ix_seq (pv 3) (pe_op op_subS (pe_op op_addAny (pv 2) (pe_callB call_lenS (by rfl) M.g_len boot_len (pa_cons (pv 1) pa_nil))) pe_int) (fun _ _ => rfl)) (pa_cons (pe_ix ix_seq (pv 1) (pe_un un_negS pe_int) (fun _ _ => rfl)) pa_nil))))
      (pss_cons (ps_asg (pv 5) (pg_sub (pv 4) (pv 2) set_list))
      (pss_one (ps_for PassesOwn.never rfl (pi_enumT (by rfl) M.g_enumerate (pa_cons (pv 1) pa_nil)) (pg_tup (by rfl) (pgs_cons (pg_name (i := 6) sc__law_poly_divided.nd rfl (by first | exact Or.inl rfl | exact Or.inr rfl)) (pgs_cons (pg_name (i := 7) sc__law_poly_divided.nd rfl (by first | exact Or.inl rfl | exact Or.inr rfl)) pgs_nil))) (pss_one (ps_asg (pe_cal c__law_less (hr.mono (by decide)) (by rfl) (pa_cons (pe_ix ix_seq (pv 3) (pe_op op_addAny (pv 2) (pv 6)) (fun _ _ => rfl)) (pa_cons (pe_cal c__law_mul (hr.mono (by decide)) (by rfl) (pa_cons (pv 5) (pa_cons (pv 7) pa_nil))) pa_nil))) (pg_sub (pv 3) (pe_op op_addAny (pv 2) (pv 6)) set_list))))))))
      (pss_one (ps_ret (pe_tup (pa_cons (pe_cal c__law_trim (hr.mono (by decide)) (by rfl) (pa_cons (pv 4) pa_nil)) (pa_cons (pe_cal c__law_trim (hr.mono (by decide)) (by rfl) (pa_cons (pv 3) pa_nil)) pa_nil))))))), fun D hD => ?_⟩
  obtain ⟨q0, hq, lq, lp, hb⟩ := id ha
  have p2 := List.length_pos_iff.mpr q0
  refine q_par (b1 := .l ((dvSt a.1 a.2 0).1.map encR)) (b2 := .l ((dvSt a.1 a.2 0).2.map encR)) ⟨el_cb (ea_cons (ev_var rfl) ea_nil) rc_listT, prs_encR _⟩ ⟨(el_rep1 ev_r0 ((ev_cb (ea_cons ev_int (ea_cons (ev_add (ev_sub (a := (a.1.length : Nat)) (b := (a.2.length : Nat)) (ev_lenP (ev_var rfl)) (ev_lenP (ev_var rfl))) ev_int) ea_nil)) rc_max2)) (by omega)).to ?_, prs_encR _⟩ ?_
  · rw [len_int]
    show _ = (List.replicate (a.1.length + 1 - a.2.length) (0 : Rat)).map encR
    rw [List.map_replicate]
  have hll : ∀ i, ((dvSt a.1 a.2 i).2).length = a.1.length + 1 - a.2.length := fun i => (dvSt_len a.1 a.2 i).2
  refine q_for (ds := (intR 0 1 (a.1.length + 1 - a.2.length)).reverse) [2] (ei_new (el_revL (ev_of (EvL.to (el_lstRg1 (n := (a.1.length + 1 - a.2.length : Nat)) ((ev_cb (ea_cons (ev_var rfl) ea_nil) rc_lenL).to ?_) (by omega)) ?_))) ?_) (fun i => [.d (encP a.1), .d (encP a.2), .u, .l ((dvSt a.1 a.2 i).1.map encR), .l ((dvSt a.1 a.2 i).2.map encR), .u, .u, .u]) (LeG.refl _) (fun F1 i d hd => ?_) ?_
  · rw [List.length_map, hll]
  · congr 1
  · exact prs_of fun x m => prs_mem (prs_intR 0 1 _) (List.mem_reverse.mp m)
  · obtain ⟨hi, rfl⟩ := down_get hd
    have e1 : a.1.length + 1 - a.2.length - 1 - i = a.1.length - a.2.length - i := by omega
    rw [e1]
    obtain ⟨l1, l2⟩ := dvSt_len a.1 a.2 i
    obtain ⟨s1, s2, s3, s4, s5⟩ := dv_sm ha hi
    generalize hat : a.1.length - a.2.length - i = at' at *
    refine ⟨_, tg_name rfl (by simp), ?_⟩
    generalize hr : (dvSt a.1 a.2 i).1 = r at *
    generalize hf : (dvSt a.1 a.2 i).2 = f0 at *
    generalize hc : cf r (at' + a.2.length - 1) / cf a.2 (a.2.length - 1) = c at *
    have hn1 : (dvSt a.1 a.2 (i + 1)).1 = inner r at' (-c) a.2 a.2.length := by simp only [dvSt, hr, hat, hc]
    have hn2 : (dvSt a.1 a.2 (i + 1)).2 = f0.set at' c := by simp only [dvSt, hr, hf, hat, hc]
    rw [hn1, hn2]
    refine q_set (x := encR c) ?_ rfl ?_
    · refine EvE.to (ev_call2 (cf r (at' + a.2.length - 1)) (cf a.2 (a.2.length - 1)) (ev_ixL (ev_var rfl) (ev_sub (ev_add (a := (at' : Int)) (b := (a.2.length : Nat)) (ev_var rfl) (ev_lenP (ev_var rfl))) ev_int) (atI_enc (p := r) (by omega) (by omega))) (ev_ixT (ev_var rfl) (ev_ng ev_int) (atI_encl q0)) ⟨s1 _, s2 _, hq⟩) ?_
      exact congrArg encR hc
    refine q_setI (k := at') (x := encR c) rfl (ev_var rfl) rfl (ev_var rfl) (by rw [List.length_map]; omega) ?_
    rw [← List.map_set]
    refine g_for [6, 7] (ei_enumT (ea_cons (ev_var rfl) ea_nil) (prs_encR a.2)) (fun j => [.d (encP a.1), .d (encP a.2), .d (.int (at' : Nat)), .l ((inner r at' (-c) a.2 j).map encR), .l ((f0.set at' c).map encR), .d (encR c), .u, .u]) (LeG.refl _) (fun F2 j d hd => ?_) ?_
    · obtain ⟨hj, rfl⟩ := enum_enc hd
      have hl : at' + j < (inner r at' (-c) a.2 j).length := by rw [inner_len]; omega
      refine ⟨_, tg_tup2 rfl rfl (by simp) (by simp), ?_⟩
      have sp : Sm (c * cf a.2 j) := by
        have := sm_neg (s4 j)
        rwa [Rat.neg_mul, Rat.neg_neg] at this
      refine g_setI (k := at' + j) (x := encR (cf (inner r at' (-c) a.2 j) (at' + j) + -c * cf a.2 j)) rfl ?_ rfl ((ev_add (a := (at' : Int)) (b := (j : Int)) (ev_var rfl) (ev_var rfl)).to (by rw [Int.natCast_add])) (by rw [List.length_map]; exact hl) ?_
      · refine EvE.to (ev_call2 _ (c * cf a.2 j) (ev_ixL (ev_var rfl) (ev_add (a := (at' : Int)) (b := (j : Int)) (ev_var rfl) (ev_var rfl)) (atI_enc (by omega) hl)) (ev_call2 c (cf a.2 j) (ev_var rfl) (ev_var rfl) ⟨s3, s2 _⟩) ⟨s5 j _ (by omega), sp⟩) ?_
        show encR (_ - _) = _
        rw [Rat.sub_eq_add_neg, Rat.neg_mul]
      · rw [← List.map_set]
        exact a_le (by repeat (first | exact LeG.nil | apply LeG.same | apply LeG.drop))
    · rw [enumD_len, List.length_map]
      exact a_le (by repeat (first | exact LeG.nil | apply LeG.same | apply LeG.drop))
  · rw [List.length_reverse, intR_len]
    have hle : ∀ i, (dvSt a.1 a.2 i).1.length ≤ 1000 ∧ (dvSt a.1 a.2 i).2.length ≤ 1000 := fun i => by
      obtain ⟨l1, l2⟩ := dvSt_len a.1 a.2 i
      omega
    refine g_ret (x := encQ (pquo a.1 a.2, prem a.1 a.2)) ?_ hD
    refine ev_tup (ea_cons ?_ (ea_cons ?_ ea_nil))
    · exact ev_call1 (true, (dvSt a.1 a.2 (a.1.length + 1 - a.2.length)).2) (ev_var rfl) (hle _).2
    · exact ev_call1 (true, (dvSt a.1 a.2 (a.1.length + 1 - a.2.length)).1) (ev_var rfl) (hle _).1

abbrev s__law_quotient : Stmt := topS 82
theorem sc__law_quotient : FnScope ["above", "below", "last", "one", "other", "term_v"] ["above", "below"] (defScope s__law_quotient) := ⟨rfl, rfl, rfl, by decide +kernel, rfl, by decide +kernel, by decide +kernel⟩
theorem ok__law_quotient (M : Glb P K mg base) (F : Dfn K mg "_law_quotient" s__law_quotient) (c__law_div : Cal P w K mg base "_law_div" ["one", "other"] 43 (sp2 K encR encR (fun a => Sm a.1 ∧ Sm a.2 ∧ a.2 ≠ 0) (fun a => encR (a.1 / a.2)))) (c__law_poly_divided : Cal P w K mg base "_law_poly_divided" ["one", "other"] 44 (sp2 K encP encP (fun a => DvOk a.1 a.2) (fun a => encQ (pquo a.1 a.2, prem a.1 a.2)))) (c__law_trim : Cal P w K mg base "_law_trim" ["poly"] 41 (sp1 K seqD (fun a => a.2.length ≤ 1000) (fun a => encP (trim a.2)))) : Cal P w K mg base "_law_quotient" ["above", "below"] 45 (sp2 K seqD seqD (fun a => QuOk (trim a.1.2, trim a.2.2) ∧ a.1.2.length ≤ 1000 ∧ a.2.2.length ≤ 1000) (fun a => encQ (lqt (trim a.1.2, trim a.2.2)))) := by
  refine def_okR F sc__law_quotient (fun _ _ _ _ _ _ us hl => match us, hl with | [_, _], _ => rfl) (fun _ => rfl) fun cdv f A outer s H E hr a ha => ?_
  have hu := room_eq (k := 4) hr
  refine ⟨_, (pss_cons (ps_par (i := 0) (j := 1) rfl sc__law_quotient.nd rfl rfl (by decide) rfl rfl (pa_cons (pe_cal c__law_trim (hr.mono (by decide)) (by rfl) (pa_cons (pv 0) pa_nil)) (pa_cons (pe_cal c__law_trim (hr.mono (by decide)) (by rfl) (pa_cons (pv 1) pa_nil)) pa_nil)) (by rfl))
      (pss_cons (ps_par (i := 3) (j := 4) rfl sc__law_quotient.nd rfl rfl (by decide) rfl rfl (pa_cons (pv 1) (pa_cons (pv 0) pa_nil)) (by rfl))
      (pss_cons (ps_while PassesOwn.never (pt_cmpR (op_neD hu) (pv 4) (pe_tup pa_nil) (nomark _)) (pss_one (ps_par (i := 3) (j := 4) rfl sc__law_quotient.nd rfl rfl (by decide) rfl rfl (pa_cons (pv 4) (pa_cons (pe_ix ix_seq (pe_cal c__law_poly_divided (hr.mono (by decide)) (by rfl) (pa_cons (pv 3) (pa_cons (pv 4) pa_nil))) pe_int (fun _ _ => rfl)) pa_nil)) (by rfl))))
      (pss_cons (ps_par (i := 0) (j := 1) rfl sc__law_quotient.nd rfl rfl (by decide) rfl rfl (pa_cons (pe_ix ix_seq (pe_cal c__law_poly_divided (hr.mono (by decide)) (by rfl) (pa_cons (pv 0) (pa_cons (pv 3) pa_nil))) pe_int (fun _ _ => rfl)) (pa_cons (pe_ix ix_seq (pe_cal c__law_poly_divided (hr.mono (by decide)) (by rfl) (pa_cons (pv 1) (pa_cons (pv 3) pa_nil))) pe_int (fun _ _ => rfl)) pa_nil)) (by rfl))
      (pss_cons (ps_set (i := 2) sc__law_quotient.nd rfl (by first | exact Or.inl rfl | exact Or.inr rfl) (pe_ix ix_seq (pv 1) (pe_un un_negS pe_int) (fun _ _ => rfl)))
      (pss_one (ps_ret (pe_tup (pa_cons (pe_callTy call_tupS (by rfl) M.g_tuple boot_tuple (pa_cons (pe_lc (own := [("term_v", 5)]) rfl sc__law_quotient.nd (pi_tup (pv 0)) (blkOk_by (N := ["above", "below", "last", "one", "other", "term_v"]) (sc := defScope s__law_quotient) (by decide +kernel)) (fun _ _ _ _ _ => (pg_name (i := 5) sc__law_quotient.nd rfl (by first | exact Or.inl rfl | exact Or.inr rfl))) (fun _ _ _ _ _ => pts_nil) (fun _ _ _ _ _ => (pe_cal c__law_div (hr.mono (by decide)) (by rfl) (pa_cons (pv 5) (pa_cons (pv 2) pa_nil))))) pa_nil)) (pa_cons (pe_callTy call_tupS (by rfl) M.g_tuple boot_tuple (pa_cons (pe_lc (own := [("term_v", 5)]) rfl sc__law_quotient.nd (pi_tup (pv 1)) (blkOk_by (N := ["above", "below", "last", "one", "other", "term_v"]) (sc := defScope s__law_quotient) (by decide +kernel)) (fun _ _ _ _ _ => (pg_name (i := 5) sc__law_quotient.nd rfl (by first | exact Or.inl rfl | exact Or.inr rfl))) (fun _ _ _ _ _ => pts_nil) (fun _ _ _ _ _ => (pe_cal c__law_div (hr.mono (by decide)) (by rfl) (pa_cons (pv 5) (pa_cons (pv 2) pa_nil))))) pa_nil)) pa_nil)))))))))), fun D hD => ?_⟩
  obtain ⟨⟨h0, g, d1, d2, s1, s2, lb, nb⟩, la, lb'⟩ := ha
  refine q_par (b1 := .d (encP (trim a.1.2))) (b2 := .d (encP (trim a.2.2))) ⟨ev_call1 a.1 (ev_var rfl) la, pr_encP _⟩ ⟨ev_call1 a.2 (ev_var rfl) lb', pr_encP _⟩ ?_
  generalize hS : ((trim a.1.2, trim a.2.2) : PQ) = S at *
  have eA : trim a.1.2 = S.1 := by rw [← hS]
  have eB : trim a.2.2 = S.2 := by rw [← hS]
  rw [eA, eB]
  refine q_par (b1 := .d (encP S.2)) (b2 := .d (encP S.1)) ⟨ev_var rfl, pr_encP _⟩ ⟨ev_var rfl, pr_encP _⟩ ?_
  refine q_while (fun s : PQ => [.d (encP S.1), .d (encP S.2), .u, .d (encP s.1), .d (encP s.2), .u]) (fun s => GOk s ∧ pgcd false s = lgc S) (fun s => !decide (s.2 = [])) (fun s => gst false s) (fun s => s.2.length) (S.2, S.1) (LeG.refl _) ⟨g, rfl⟩ (fun s hs => et_test (ev_ne (ev_var rfl) (ev_tup ea_nil) (sh_encP s.2) rfl (by rw [eqv_nil]))) (fun s hs hc => ?_) (fun s hs hc => ?_)
  · obtain ⟨g, e⟩ := hs
    have h0 : s.2 ≠ [] := by simpa using hc
    have g' := gok_step (u := false) g h0
    have dv := gok_dv g h0
    obtain ⟨t1, t2, l1, l2, _⟩ := id g
    refine ⟨⟨g', by rw [← e, ← pgcd_step t2 h0]⟩, gst_len t2 h0, ?_⟩
    refine g_par (b1 := .d (encP s.2)) (b2 := .d (encP (prem s.1 s.2))) ⟨ev_var rfl, pr_encP _⟩ ⟨?_, pr_encP _⟩ (fun _ _ o => o)
    exact ev_ixT (d := encP (prem s.1 s.2)) (ev_call2 s.1 s.2 (ev_var rfl) (ev_var rfl) dv) ev_int rfl
  · obtain ⟨g, e⟩ := hs
    have h0 : s.2 = [] := by simpa using hc
    rw [pgcd_nil h0] at e
    rw [e]
    refine q_par (b1 := .d (encP (pquo S.1 (lgc S)))) (b2 := .d (encP (pquo S.2 (lgc S)))) ⟨ev_q1 (q := (pquo S.1 (lgc S), prem S.1 (lgc S))) (ev_call2 S.1 (lgc S) (ev_var rfl) (ev_var rfl) d1) ev_int, pr_encP _⟩ ⟨ev_q1 (q := (pquo S.2 (lgc S), prem S.2 (lgc S))) (ev_call2 S.2 (lgc S) (ev_var rfl) (ev_var rfl) d2) ev_int, pr_encP _⟩ ?_
    refine q_set (x := encR (lastOf (pquo S.2 (lgc S)))) (ev_pl nb (ev_var rfl) ev_int) rfl ?_
    have sl := s2 ((pquo S.2 (lgc S)).length - 1)
    have q1 := quo_len (p := S.1) (q := lgc S)
    have q2 := quo_len (p := S.2) (q := lgc S)
    have q3 : S.1.length ≤ 100 := d1.2.2.2.1
    have q4 : S.2.length ≤ 100 := d2.2.2.2.1
    have hdiv : ∀ x : Rat, x / lastOf (pquo S.2 (lgc S)) = 1 / lastOf (pquo S.2 (lgc S)) * x := fun x => by grind
    refine g_ret (x := encQ (lqt S)) (ev_tup (ea_cons (ev_cb (ea_cons (ev_of (el_lc ((lqt S).1.map encR) (ec_tup (ev_var rfl)) (by simp [lqt, psc_len]) (by rw [List.length_map]; omega) (prs_encR _) fun i d y hd hy => ?_)) ea_nil) rc_tupL) (ea_cons (ev_cb (ea_cons (ev_of (el_lc ((lqt S).2.map encR) (ec_tup (ev_var rfl)) (by simp [lqt, psc_len]) (by rw [List.length_map]; omega) (prs_encR _) fun i d y hd hy => ?_)) ea_nil) rc_tupL) ea_nil))) hD
    · obtain ⟨h3, rfl⟩ := enc_get' hd
      obtain ⟨h4, rfl⟩ := enc_get' hy
      refine ⟨_, tg_name rfl (by simp), EvE.to (ev_call2 (cf (pquo S.1 (lgc S)) i) (lastOf (pquo S.2 (lgc S))) (ev_var rfl) (ev_var rfl) ⟨s1 _, sl, lb⟩) ?_⟩
      show encR _ = encR (cf (psc _ _) i)
      rw [cf_psc, hdiv]
    · obtain ⟨h3, rfl⟩ := enc_get' hd
      obtain ⟨h4, rfl⟩ := enc_get' hy
      refine ⟨_, tg_name rfl (by simp), EvE.to (ev_call2 (cf (pquo S.2 (lgc S)) i) (lastOf (pquo S.2 (lgc S))) (ev_var rfl) (ev_var rfl) ⟨s2 _, sl, lb⟩) ?_⟩
      show encR _ = encR (cf (psc _ _) i)
      rw [cf_psc, hdiv]

theorem enc3_get {l : List Part} {i : Nat} {d : PyData} (h : (l.map enc3)[i]? = some d) : ∃ s, l[i]? = some s ∧ d = enc3 s := map_get h
theorem enc1 (p : List Rat) : PyData.tuple (p.map encR) = encP p := rfl

abbrev s__law_made : Stmt := topS 84
theorem sc__law_made : FnScope ["stream", "above", "below", "worth", "falls", "later", "its", "top"] ["stream"] (defScope s__law_made) := ⟨rfl, rfl, rfl, by decide +kernel, rfl, by decide +kernel, by decide +kernel⟩
theorem ok__law_made (M : Glb P K mg base) (F : Dfn K mg "_law_made" s__law_made) (c__law_quotient : Cal P w K mg base "_law_quotient" ["above", "below"] 45 (sp2 K seqD seqD (fun a => QuOk (trim a.1.2, trim a.2.2) ∧ a.1.2.length ≤ 1000 ∧ a.2.2.length ≤ 1000) (fun a => encQ (lqt (trim a.1.2, trim a.2.2))))) (c__law_poly_times : Cal P w K mg base "_law_poly_times" ["one", "other"] 44 (sp2 K encP encP (fun a => MuOk a.1 a.2) (fun a => encP (pmul a.1 a.2)))) (c__law_poly_add : Cal P w K mg base "_law_poly_add" ["one", "other"] 44 (sp2 K encP encP (fun a => a.1.length ≤ 1000 ∧ a.2.length ≤ 1000 ∧ (∀ i, Sm (cf a.1 i)) ∧ ∀ i, Sm (cf a.2 i)) (fun a => encP (pplus a.1 a.2)))) (c__law_less : Cal P w K mg base "_law_less" ["one", "other"] 43 (sp2 K encR encR (fun a => Sm a.1 ∧ Sm a.2) (fun a => encR (a.1 - a.2)))) : Cal P w K mg base "_law_made" ["stream"] 46 (sp1 K (fun l : List Part => .list (l.map enc3)) MaOk (fun l => encQ (pmade l))) := by
  refine def_okR F sc__law_made (fun _ _ _ _ _ _ us hl => match us, hl with | [_], _ => rfl) (fun _ => rfl) fun cdv f A outer s H E hr a ha => ?_
  have hu := room_eq (k := 5) hr
  refine ⟨_, (pss_cons (ps_asg (pe_tup (pa_cons (pe_tup pa_nil) (pa_cons (pe_tup (pa_cons (pe_tup (pa_cons pe_int (pa_cons pe_int pa_nil))) pa_nil)) pa_nil))) (pg_tup (by rfl) (pgs_cons (pg_name (i := 1) sc__law_made.nd rfl (by first | exact Or.inl rfl | exact Or.inr rfl)) (pgs_cons (pg_name (i := 2) sc__law_made.nd rfl (by first | exact Or.inl rfl | exact Or.inr rfl)) pgs_nil))))
      (pss_cons (ps_for PassesOwn.never rfl (pi_list (pv 0)) (pg_tup (by rfl) (pgs_cons (pg_name (i := 3) sc__law_made.nd rfl (by first | exact Or.inl rfl | exact Or.inr rfl)) (pgs_cons (pg_name (i := 4) sc__law_made.nd rfl (by first | exact Or.inl rfl | exact Or.inr rfl)) (pgs_cons (pg_name (i := 5) sc__law_made.nd rfl (by first | exact Or.inl rfl | exact Or.inr rfl)) pgs_nil)))) (pss_cons (ps_set (i := 6) sc__law_made.nd rfl (by first | exact Or.inl rfl | exact Or.inr rfl) (pe_ifExp (pt_cmpR (op_neD hu) (pv 4) (pe_tup (pa_cons pe_int (pa_cons pe_int pa_nil))) (nomark _)) (pe_tup (pa_cons (pe_tup (pa_cons pe_int (pa_cons pe_int pa_nil))) (pa_cons (pe_cal c__law_less (hr.mono (by decide)) (by rfl) (pa_cons (pe_tup (pa_cons pe_int (pa_cons pe_int pa_nil))) (pa_cons (pv 4) pa_nil))) pa_nil))) (pe_tup (pa_cons (pe_tup (pa_cons pe_int (pa_cons pe_int pa_nil))) pa_nil))))
      (pss_cons (ps_set (i := 7) sc__law_made.nd rfl (by first | exact Or.inl rfl | exact Or.inr rfl) (pe_op op_addAny (pe_op op_mulAny (pe_tup (pa_cons (pe_tup (pa_cons pe_int (pa_cons pe_int pa_nil))) pa_nil)) (pv 5)) (pe_tup (pa_cons (pv 3) pa_nil))))
      (pss_one (ps_par (i := 1) (j := 2) rfl sc__law_made.nd rfl rfl (by decide) rfl rfl (pa_cons (pe_cal c__law_poly_add (hr.mono (by decide)) (by rfl) (pa_cons (pe_cal c__law_poly_times (hr.mono (by decide)) (by rfl) (pa_cons (pv 1) (pa_cons (pv 6) pa_nil))) (pa_cons (pe_cal c__law_poly_times (hr.mono (by decide)) (by rfl) (pa_cons (pv 7) (pa_cons (pv 2) pa_nil))) pa_nil))) (pa_cons (pe_cal c__law_poly_times (hr.mono (by decide)) (by rfl) (pa_cons (pv 2) (pa_cons (pv 6) pa_nil))) pa_nil)) (by rfl))))))
      (pss_one (ps_ret (pe_cal c__law_quotient (hr.mono (by decide)) (by rfl) (pa_cons (pv 1) (pa_cons (pv 2) pa_nil))))))), fun D hD => ?_⟩
  obtain ⟨ll, hs, hq⟩ := ha
  refine q_unp (vs := [1, 2]) (d := .tuple [encP [], encP [1]]) (ev_tup (ea_cons (ev_tup ea_nil) (ea_cons (ev_tup (ea_cons ev_r1 ea_nil)) ea_nil))) (tg_tup2 (pr_encP _) (pr_encP _) (by simp) (by simp)) ?_
  refine q_for (ds := a.map enc3) [3, 4, 5] (ei_listR rfl) (fun i => [.r (.list (a.map enc3)), .d (encP (mall (a.take i)).1), .d (encP (mall (a.take i)).2), .u, .u, .u, .u, .u]) (LeG.refl _) (fun F1 i d hd => ?_) ?_
  · obtain ⟨s, hsi, rfl⟩ := enc3_get hd
    obtain ⟨m1, m2, m3, m4, m5⟩ := hs i s hsi
    rw [mall_take hsi]
    generalize mall (a.take i) = q at *
    refine ⟨_, tg_tup3 rfl rfl rfl (by simp) (by simp) (by simp), ?_⟩
    refine q_set (x := encP (pits s)) (ev_if (b := !decide (s.2.1 = 0)) (et_test (ev_ne (ev_var rfl) ev_r0 rfl rfl (by rw [eqv_encR]))) (fun h => EvE.to (ev_tup (ea_cons ev_r1 (ea_cons (ev_call2 0 s.2.1 ev_r0 (ev_var rfl) ⟨sm_zero, m1⟩) ea_nil))) ?_) (fun h => EvE.to (ev_tup (ea_cons ev_r1 ea_nil)) ?_)) (pr_encP _) ?_
    · have : s.2.1 ≠ 0 := by simpa using h
      rw [pits, if_neg this]; rfl
    · have : s.2.1 = 0 := by simpa using h
      rw [pits, if_pos this]; rfl
    refine q_set (x := encP (ptp s)) (EvE.to (ev_catT (ev_repT (n := (s.2.2 : Nat)) (ev_tup (ea_cons ev_r0 ea_nil)) (ev_var rfl) (by omega)) (ev_tup (ea_cons (ev_var rfl) ea_nil)) (by rw [List.length_replicate]; simp; omega)) ?_) (pr_encP _) ?_
    · show _ = PyData.tuple ((List.replicate s.2.2 (0 : Rat) ++ [s.1]).map encR)
      rw [List.map_append, List.map_replicate]; rfl
    obtain ⟨u1, v1⟩ := mu_out m3
    obtain ⟨u2, v2⟩ := mu_out m4
    refine g_par (b1 := .d (encP (mstep q s).1)) (b2 := .d (encP (mstep q s).2)) ⟨?_, pr_encP _⟩ ⟨ev_call2 q.2 (pits s) (ev_var rfl) (ev_var rfl) m5, pr_encP _⟩ (a_le (by repeat (first | exact LeG.nil | apply LeG.same | apply LeG.drop)))
    exact ev_call2 (pmul q.1 (pits s)) (pmul (ptp s) q.2) (ev_call2 q.1 (pits s) (ev_var rfl) (ev_var rfl) m3) (ev_call2 (ptp s) q.2 (ev_var rfl) (ev_var rfl) m4) ⟨v1, v2, u1, u2⟩
  · rw [List.length_map, List.take_length]
    have t1 : trim (mall a).1 = (mall a).1 ∧ trim (mall a).2 = (mall a).2 := ⟨hq.2.1.2.1, hq.2.1.1⟩
    have d1 : (mall a).1.length ≤ 100 := hq.2.2.1.2.2.2.1
    have d2 : (mall a).2.length ≤ 100 := hq.2.2.2.1.2.2.2.1
    refine g_ret (x := encQ (pmade a)) (EvE.to (ev_call2 (false, (mall a).1) (false, (mall a).2) (ev_var rfl) (ev_var rfl) ⟨?_, Nat.le_trans d1 (by decide), Nat.le_trans d2 (by decide)⟩) ?_) hD
    · show QuOk (trim (mall a).1, trim (mall a).2)
      rw [t1.1, t1.2]; exact hq
    · show encQ (lqt (trim (mall a).1, trim (mall a).2)) = _
      rw [t1.1, t1.2]; rfl

abbrev s__law_power : Stmt := topS 85
theorem sc__law_power : FnScope ["one", "many", "found", "step"] ["one", "many"] (defScope s__law_power) := ⟨rfl, rfl, rfl, by decide +kernel, rfl, by decide +kernel, by decide +kernel⟩
theorem ok__law_power (M : Glb P K mg base) (F : Dfn K mg "_law_power" s__law_power) (c__law_mul : Cal P w K mg base "_law_mul" ["one", "other"] 43 (sp2 K encR encR (fun a => Sm a.1 ∧ Sm a.2) (fun a => encR (a.1 * a.2)))) : Cal P w K mg base "_law_power" ["one", "many"] 44 (sp2 K encR (fun n : Nat => .int n) (fun a => a.2 ≤ 1000 ∧ ∀ k, k ≤ a.2 → Sm (a.1 ^ k)) (fun a => encR (a.1 ^ a.2))) := by
  refine def_ok F sc__law_power (fun _ _ _ _ _ _ us hl => match us, hl with | [_, _], _ => rfl) (fun _ => rfl) (fun _ => rfl) fun cdv f A outer s H E hr a ha => ?_
  refine ⟨_, (pss_cons (ps_set (i := 2) sc__law_power.nd rfl (by first | exact Or.inl rfl | exact Or.inr rfl) (pe_tup (pa_cons pe_int (pa_cons pe_int pa_nil))))
      (pss_cons (ps_for PassesOwn.never rfl (pi_range1 (by rfl) M.g_range (pa_cons (pv 1) pa_nil)) (pg_name (i := 3) sc__law_power.nd rfl (by first | exact Or.inl rfl | exact Or.inr rfl)) (pss_one (ps_set (i := 2) sc__law_power.nd rfl (by first | exact Or.inl rfl | exact Or.inr rfl) (pe_cal c__law_mul (hr.mono (by decide)) (by rfl) (pa_cons (pv 2) (pa_cons (pv 0) pa_nil))))))
      (pss_one (ps_ret (pv 2))))), fun D hD => ?_⟩
  obtain ⟨ln, hk⟩ := ha
  refine q_set (x := encR (a.1 ^ 0)) (ev_r1.to (by rw [Rat.pow_zero])) rfl ?_
  refine q_for (ds := intR 0 1 a.2) [3] (ei_range1 (n := (a.2 : Int)) (ea_cons (ev_var rfl) ea_nil) (by omega)) (fun i => [.d (encR a.1), .d (.int (a.2 : Nat)), .d (encR (a.1 ^ i)), .u]) (LeG.refl _) (fun F1 i d hd => ?_) ?_
  · obtain ⟨rfl, hi⟩ := intR_get' hd
    refine ⟨_, tg_name rfl (by simp), ?_⟩
    refine g_set (x := encR (a.1 ^ (i + 1))) ?_ rfl (a_le (by repeat (first | exact LeG.nil | apply LeG.same | apply LeG.drop)))
    have h1 := hk 1 (by omega)
    rw [show a.1 ^ 1 = a.1 by rw [Rat.pow_succ, Rat.pow_zero, Rat.one_mul]] at h1
    exact EvE.to (ev_call2 (a.1 ^ i) a.1 (ev_var rfl) (ev_var rfl) ⟨hk i (by omega), h1⟩) (by rw [Rat.pow_succ])
  · rw [intR_len]
    exact g_ret (x := encR (a.1 ^ a.2)) (ev_var rfl) hD

abbrev s__law_first : Stmt := topS 86
theorem sc__law_first : FnScope ["stream", "many", "tick", "worth", "falls", "later"] ["stream", "many"] (defScope s__law_first) := ⟨rfl, rfl, rfl, by decide +kernel, rfl, by decide +kernel, by decide +kernel⟩
theorem ok__law_first (M : Glb P K mg base) (F : Dfn K mg "_law_first" s__law_first) (c__law_sum : Cal P w K mg base "_law_sum" ["some"] 44 (sp1 K encL SumOk (fun l => encR (rsum l)))) (c__law_mul : Cal P w K mg base "_law_mul" ["one", "other"] 43 (sp2 K encR encR (fun a => Sm a.1 ∧ Sm a.2) (fun a => encR (a.1 * a.2)))) (c__law_power : Cal P w K mg base "_law_power" ["one", "many"] 44 (sp2 K encR (fun n : Nat => .int n) (fun a => a.2 ≤ 1000 ∧ ∀ k, k ≤ a.2 → Sm (a.1 ^ k)) (fun a => encR (a.1 ^ a.2)))) : Cal P w K mg base "_law_first" ["stream", "many"] 45 (spL K (fun a : List Part × Nat => [.list (a.1.map enc3), .int (a.2 : Nat)]) (fun a => FiOk a.1 a.2) (fun a => (pfirst a.1 a.2).map encR)) := by
  refine def_okL F sc__law_first (fun _ _ _ _ _ _ us hl => match us, hl with | [_, _], _ => rfl) (fun _ => rfl) fun cdv f A outer s H E hr a ha => ?_
  refine ⟨_, (pss_one (ps_ret (pe_lc (own := [("tick", 2)]) rfl sc__law_first.nd (pi_range1 (by rfl) M.g_range (pa_cons (pv 1) pa_nil)) (blkOk_by (N := ["stream", "many", "tick", "worth", "falls", "later"]) (sc := defScope s__law_first) (by decide +kernel)) (fun _ _ _ _ _ => (pg_name (i := 2) sc__law_first.nd rfl (by first | exact Or.inl rfl | exact Or.inr rfl))) (fun _ _ _ _ _ => pts_nil) (fun _ _ _ _ _ => (pe_cal c__law_sum (hr.mono (by decide)) (by rfl) (pa_cons (pe_lc (own := [("worth", 3), ("falls", 4), ("later", 5)]) rfl sc__law_first.nd (pi_listB (pv 0)) (blkOk_by (N := ["stream", "many", "tick", "worth", "falls", "later"]) (sc := relS _ (defScope s__law_first)) (by decide +kernel)) (fun _ _ _ _ _ => (pg_tupBB (n := 3) (pgs_cons (pg_name (i := 3) sc__law_first.nd rfl (by first | exact Or.inl rfl | exact Or.inr rfl)) (pgs_cons (pg_name (i := 4) sc__law_first.nd rfl (by first | exact Or.inl rfl | exact Or.inr rfl)) (pgs_cons (pg_name (i := 5) sc__law_first.nd rfl (by first | exact Or.inl rfl | exact Or.inr rfl)) pgs_nil))))) (fun _ _ _ _ _ => (pts_one (pt_cmpR op_geS (pv 2) (pv 5) (nomark _)))) (fun _ _ _ _ _ => (pe_cal c__law_mul (hr.mono (by decide)) (by rfl) (pa_cons (pv 3) (pa_cons (pe_cal c__law_power (hr.mono (by decide)) (by rfl) (pa_cons (pv 4) (pa_cons (pe_op op_subS (pv 2) (pv 5)) pa_nil))) pa_nil))))) pa_nil)))))), fun D hD => ?_⟩
  obtain ⟨ll, ln, hs, hp⟩ := ha
  refine g_retL (xs := (pfirst a.1 a.2).map encR) ?_ hD
  refine el_lc ((pfirst a.1 a.2).map encR) (ei_range1 (n := (a.2 : Int)) (ea_cons (ev_var rfl) ea_nil) (by omega)).toC (by simp [pfirst, intR_len]) (by rw [intR_len]; omega) (prs_encR _) fun i d y hd hy => ?_
  obtain ⟨rfl, hi⟩ := intR_get' hd
  obtain ⟨h3, rfl⟩ := enc_get' hy
  have e0 : ((0 : Int) + (i : Nat) * 1) = (i : Nat) := by omega
  have hi' : i < a.2 := by omega
  rw [e0, pfirst, cf_range, if_pos hi']
  have ht : ∀ s ∈ a.1, Sm s.1 ∧ ∀ k, k ≤ a.2 → Sm (s.2.1 ^ k) := hp
  refine ⟨_, tg_name rfl (by simp), ev_call1 (pter i a.1) (ev_of (EvL.to (el_lcf (a.1.map fun s => if s.2.2 ≤ i then some (encR (s.1 * s.2.1 ^ (i - s.2.2))) else (none : Option PyData)) (ec_list (ds := a.1.map enc3) (ev_var rfl)) (by simp) (by rw [List.length_map]; omega) (fun y m => ?_) fun j d y hd hy => ?_) ?_)) (hs i hi')⟩
  · obtain ⟨s, _, e⟩ := List.mem_map.mp m
    by_cases h : s.2.2 ≤ i
    · rw [if_pos h] at e
      rw [← Option.some.inj e]; rfl
    · rw [if_neg h] at e; cases e
  · obtain ⟨s, hs1, rfl⟩ := enc3_get hd
    rw [List.getElem?_map, hs1] at hy
    obtain rfl := Option.some.inj hy
    have hy' := Option.some.inj hy
    obtain ⟨p1, p2⟩ := ht s (List.mem_of_getElem? hs1)
    refine ⟨_, tg_tup3 rfl rfl rfl (by simp) (by simp) (by simp), (et_test (ev_ge (a := (i : Nat)) (b := (s.2.2 : Nat)) (ev_var rfl) (ev_var rfl))).to ?_, fun z hz => ?_⟩
    · by_cases h : s.2.2 ≤ i <;> simp [h]
    · have hz' : (if s.2.2 ≤ i then some (encR (s.1 * s.2.1 ^ (i - s.2.2))) else (none : Option PyData)) = some z := hz
      by_cases h : s.2.2 ≤ i
      · rw [if_pos h] at hz'
        obtain rfl := Option.some.inj hz'
        exact ev_call2 s.1 (s.2.1 ^ (i - s.2.2)) (ev_var rfl) (ev_call2 s.2.1 (i - s.2.2) (ev_var rfl) ((ev_sub (a := (i : Nat)) (b := (s.2.2 : Nat)) (ev_var rfl) (ev_var rfl)).to (by congr 1; omega)) ⟨by show i - s.2.2 ≤ 1000; omega, fun k hk => p2 k (by have : k ≤ i - s.2.2 := hk; omega)⟩) ⟨p1, p2 _ (by omega)⟩
      · rw [if_neg h] at hz'; cases hz'
  · unfold pter
    rw [List.filterMap_map, List.map_filterMap]
    congr 1
    funext s
    by_cases h : s.2.2 ≤ i <;> simp [h]

end
end Sw
namespace Sw
open PySem PySem.Spec L2
open PyProof.Rows hiding St
theorem small400 {n : Nat} (h : n ≤ 2147483647 * 2147483647) : n < 2 ^ 400 := Nat.lt_of_le_of_lt h (by decide)
theorem cm' {i j : Int} (h : i.natAbs ≤ 2147483647 * 2147483647) (k : j.natAbs ≤ 2147483647 * 2147483647) : CMulW i j := cmul_of (small400 h) (small400 k) (by decide)
section
variable {P : Program} {w : World} {K : Fg} {mg : Str → Option Value} {base : Heap}

abbrev s__law_take : Stmt := topS 68
theorem sc__law_take : FnScope ["bag", "many", "begin", "second", "cell", "stirred", "value"] ["bag", "many"] (defScope s__law_take) := ⟨rfl, rfl, rfl, by decide +kernel, rfl, by decide +kernel, by decide +kernel⟩
theorem ok__law_take (M : Glb P K mg base) (F : Dfn K mg "_law_take" s__law_take) : Cal P w K mg base "_law_take" ["bag", "many"] 41 (spM K (fun m : Int => [.int m]) (fun m => 1 ≤ m ∧ m ≤ 1000) 1 (fun m y => ∃ r : Int, y = .int r ∧ 0 ≤ r ∧ r < m)) := by
  refine def_okM F sc__law_take (fun _ _ _ _ _ _ us hl => match us, hl with | [_, _], _ => rfl) (fun _ => rfl) (fun _ => rfl) fun cdv f A outer s H E hr al a c T x0 x1 x2 cells ha hT ok => ?_
  have hu := room_eq (k := 0) hr
  have hdv := room_div (k := 0) hr
  refine ⟨_, (pss_cons (ps_if (pt_cmpR (op_eqD hu) (pe_ix ix_seq (pv 0) pe_int (fun _ _ => rfl)) pe_int (nomark _)) (pss_cons (ps_set (i := 4) sc__law_take.nd rfl (by first | exact Or.inl rfl | exact Or.inr rfl) (pe_ix ix_seq (pe_op op_addAny (pe_slice sl_any (pe_ix ix_seq (pv 0) pe_int (fun _ _ => rfl)) (po_some (pe_ix ix_seq (pv 0) pe_int (fun _ _ => rfl))) po_none) (pe_lst (pa_cons pe_int pa_nil))) pe_int (fun _ _ => rfl)))
      (pss_cons (ps_augS (pv 0) pe_int pget_list pe_int ip_add set_list)
      (pss_cons (ps_if (pt_cmpR op_geS (pv 4) (pe_op op_powS pe_int pe_int) (nomark _)) (pss_one (ps_asg (pv 4) (pg_sub (pv 0) pe_int set_list))) pss_nil)
      (pss_cons (ps_set (i := 5) sc__law_take.nd rfl (by first | exact Or.inl rfl | exact Or.inr rfl) (pe_op op_addAny (pe_op op_addAny (pe_op op_mulAny (pe_ix ix_seq (pv 0) pe_int (fun _ _ => rfl)) pe_int) (pe_op op_modS (pe_callTy call_intS (by rfl) M.g_int boot_int (pa_cons (pv 4) pa_nil)) pe_int)) (pe_op op_mulAny pe_int (pe_ix ix_seq (pv 0) pe_int (fun _ _ => rfl)))))
      (pss_one (ps_asg (pe_op op_modS (pe_callTy call_intS (by rfl) M.g_int boot_int (pa_cons (pv 5) pa_nil)) pe_int) (pg_sub (pv 0) pe_int set_list))))))) pss_nil)
      (pss_cons (ps_if (pt_cmpR op_gtS (pe_ix ix_seq (pv 0) pe_int (fun _ _ => rfl)) pe_int (nomark _)) (pss_cons (ps_set (i := 6) sc__law_take.nd rfl (by first | exact Or.inl rfl | exact Or.inr rfl) (pe_op op_modS (pe_callTy call_intS (by rfl) M.g_int boot_int (pa_cons (pe_ix ix_seq (pv 0) pe_int (fun _ _ => rfl)) pa_nil)) (pv 1)))
      (pss_cons (ps_asg (pe_op (op_divP M.seer M.tree hdv) (pe_callTy call_intS (by rfl) M.g_int boot_int (pa_cons (pe_ix ix_seq (pv 0) pe_int (fun _ _ => rfl)) pa_nil)) (pv 1)) (pg_sub (pv 0) pe_int set_list))
      (pss_one (ps_ret (pv 6))))) pss_nil)
      (pss_cons (ps_set (i := 2) sc__law_take.nd rfl (by first | exact Or.inl rfl | exact Or.inr rfl) (pe_op op_modS (pe_callTy call_intS (by rfl) M.g_int boot_int (pa_cons (pe_op op_mulAny (pe_op op_addAny (pe_ix ix_seq (pv 0) pe_int (fun _ _ => rfl)) pe_int) pe_int) pa_nil)) pe_int))
      (pss_cons (ps_set (i := 3) sc__law_take.nd rfl (by first | exact Or.inl rfl | exact Or.inr rfl) (pe_op op_modS (pe_callTy call_intS (by rfl) M.g_int boot_int (pa_cons (pe_op op_mulAny (pe_op op_modS (pe_callTy call_intS (by rfl) M.g_int boot_int (pa_cons (pe_op op_mulAny (pv 2) (pv 2)) pa_nil)) pe_int) pe_int) pa_nil)) pe_int))
      (pss_one (ps_ret (pe_op op_modS (pe_callTy call_intS (by rfl) M.g_int boot_int (pa_cons (pe_op (op_divP M.seer M.tree hdv) (pv 3) pe_int) pa_nil)) (pv 1)))))))), fun D hD => ?_⟩
  obtain ⟨m1, m2⟩ := ha
  obtain ⟨k0, k1, k2, k3, k4, k5, k6⟩ := id ok
  refine q_ifX (b := decide (x0 = 0)) (fun G' => ∃ y0 y1 y2, BagOk (T + 1) y0 y1 y2 cells ∧ G' = [.g a c y0 y1 y2 cells, .d (.int al), .u, .u, .u, .u, .u]) (et_test (ev_eq (ev_ixL (ev_bag rfl) ev_int (atI_nat (k := 0) rfl rfl)) ev_int rfl rfl (eqv_int _ _))) (fun hb D' hn => ?_) (fun hb => ⟨x0, x1, x2, ⟨k0, k1, k2, k3, by omega, k5, k6⟩, rfl⟩) (fun G' hG => ?_)
  · obtain ⟨k, rfl⟩ : ∃ k : Nat, x2 = (k : Int) := ⟨x2.toNat, by omega⟩
    have hcl : ∃ cl : Int, 0 ≤ cl ∧ ((cells.map PyData.int).drop k ++ [.int 0])[0]? = some (.int cl) := by
      rw [← List.map_drop]
      cases e : cells.drop k with
      | nil => exact ⟨0, by decide, rfl⟩
      | cons z zs => exact ⟨z, k5 z (List.mem_of_mem_drop (by rw [e]; exact List.mem_cons_self ..)), rfl⟩
    obtain ⟨cl, c0, hcl⟩ := hcl
    refine q_set (x := .int cl) (ev_ixL (ev_of (EvL.to (el_cat' (el_slL (ev_ixL (d := .list (cells.map .int)) (ev_bag rfl) ev_int (atI_nat (k := 3) rfl rfl)) (eo_some (ev_ixL (d := .int (k : Nat)) (ev_bag rfl) ev_int (atI_nat (k := 2) rfl rfl))) eo_none) (el_lst (ea_cons ev_int ea_nil)) ?_) (by rw [cut_from]))) ev_int (atI_nat (k := 0) rfl hcl)) rfl ?_
    · rw [cut_from, List.length_drop, List.length_map]
      simp
      omega
    refine q_augG (k := 2) (z := (k : Int)) (y := 1) (y0 := x0) (y1 := x1) (y2 := (k : Int) + 1) rfl ev_int (by decide) rfl ev_int rfl ?_
    refine q_ifX (b := decide ((10 : Int) ^ 18 ≤ cl)) (fun G' => ∃ y0 : Int, 0 ≤ y0 ∧ G' = [.g a c y0 x1 ((k : Int) + 1) cells, .d (.int al), .u, .u, .d (.int cl), .u, .u]) (et_test (ev_ge (ev_var rfl) (ev_pow (a := 10) (b := 18) ev_int ev_int ⟨by decide, by decide, by decide⟩))) (fun hb D'' hn' => ?_) (fun hb => ⟨x0, k0, rfl⟩) (fun G'' hG => ?_)
    · exact g_setG (k := 0) (y := cl) (y0 := cl) (y1 := x1) (y2 := (k : Int) + 1) rfl (ev_var rfl) ev_int (by decide) rfl (hn' _ ⟨cl, c0, rfl⟩)
    · obtain ⟨y0, hy0, rfl⟩ := hG
      have e1 : 0 ≤ cl % 2147483647 := Int.emod_nonneg _ (by decide)
      have e2 : cl % 2147483647 < 2147483647 := Int.emod_lt_of_pos _ (by decide)
      refine q_set (x := .int (x1 * 48271 + cl % 2147483647 + 7919 * ((k : Int) + 1))) (ev_add (ev_add (ev_mul (ev_ixL (d := .int x1) (ev_bag rfl) ev_int (atI_nat (k := 1) rfl rfl)) ev_int (cm' (by omega) (by decide))) (ev_mod (ev_cb (ea_cons (ev_var rfl) ea_nil) rc_int) ev_int (by decide))) (ev_mul ev_int (ev_ixL (d := .int ((k : Int) + 1)) (ev_bag rfl) ev_int (atI_nat (k := 2) rfl rfl)) (cm' (by decide) (by omega)))) rfl ?_
      have e3 : 0 ≤ (x1 * 48271 + cl % 2147483647 + 7919 * ((k : Int) + 1)) % 2147483647 := Int.emod_nonneg _ (by decide)
      have e4 : (x1 * 48271 + cl % 2147483647 + 7919 * ((k : Int) + 1)) % 2147483647 < 2147483647 := Int.emod_lt_of_pos _ (by decide)
      refine g_setG (k := 1) (y := (x1 * 48271 + cl % 2147483647 + 7919 * ((k : Int) + 1)) % 2147483647) (y0 := y0) (y1 := (x1 * 48271 + cl % 2147483647 + 7919 * ((k : Int) + 1)) % 2147483647) (y2 := (k : Int) + 1) rfl (ev_mod (ev_cb (ea_cons (ev_var rfl) ea_nil) rc_int) ev_int (by decide)) ev_int (by decide) rfl ?_
      exact aft_le (by repeat (first | exact LeG.nil | apply LeG.same | apply LeG.drop)) (hn _ ⟨y0, _, _, ⟨hy0, e3, e4, by omega, by omega, k5, k6⟩, rfl⟩)
  · obtain ⟨y0, y1, y2, ok', rfl⟩ := hG
    obtain ⟨j0, j1, j2, j3, j4, j5, j6⟩ := id ok'
    refine g_seq (g_if (b := decide (0 < y0)) (et_test (ev_gt (ev_ixL (d := .int y0) (ev_bag rfl) ev_int (atI_nat (k := 0) rfl rfl)) ev_int)) (fun hb => ?_) (fun hb => g_next ?_))
    · have hb' : 0 < y0 := of_decide_eq_true hb
      refine q_set (x := .int (y0 % al)) (ev_mod (ev_cb (ea_cons (ev_ixL (d := .int y0) (ev_bag rfl) ev_int (atI_nat (k := 0) rfl rfl)) ea_nil) rc_int) (ev_var rfl) (by omega)) rfl ?_
      refine q_setG (k := 0) (y := y0 / al) (y0 := y0 / al) (y1 := y1) (y2 := y2) rfl (ev_divP (ev_cb (ea_cons (ev_ixL (d := .int y0) (ev_bag rfl) ev_int (atI_nat (k := 0) rfl rfl)) ea_nil) rc_int) (ev_var rfl) (by omega)) ev_int (by decide) rfl ?_
      refine g_retG (x := .int (y0 % al)) (x0 := y0 / al) (x1 := y1) (x2 := y2) rfl ⟨Int.ediv_nonneg j0 (by omega), j1, j2, j3, j4, j5, j6⟩ (ev_var rfl) rfl ⟨y0 % al, rfl, Int.emod_nonneg _ (by omega), Int.emod_lt_of_pos _ (by omega)⟩ hD
    · have b1 : 0 ≤ (y1 + 1) * 39373 % 1000000007 := Int.emod_nonneg _ (by decide)
      have b2 : (y1 + 1) * 39373 % 1000000007 < 1000000007 := Int.emod_lt_of_pos _ (by decide)
      refine q_set (x := .int ((y1 + 1) * 39373 % 1000000007)) (ev_mod (ev_cb (ea_cons (ev_mul (ev_add (ev_ixL (d := .int y1) (ev_bag rfl) ev_int (atI_nat (k := 1) rfl rfl)) ev_int) ev_int (cm' (by omega) (by decide))) ea_nil) rc_int) ev_int (by decide)) rfl ?_
      generalize (y1 + 1) * 39373 % 1000000007 = bb at *
      have d1 : 0 ≤ bb * bb % 998244353 := Int.emod_nonneg _ (by decide)
      have d2 : bb * bb % 998244353 < 998244353 := Int.emod_lt_of_pos _ (by decide)
      refine q_set (x := .int (bb * bb % 998244353 * 30011 % 998244353)) (ev_mod (ev_cb (ea_cons (ev_mul (ev_mod (ev_cb (ea_cons (ev_mul (ev_var rfl) (ev_var rfl) (cm' (by omega) (by omega))) ea_nil) rc_int) ev_int (by decide)) ev_int (cm' (by omega) (by decide))) ea_nil) rc_int) ev_int (by decide)) rfl ?_
      generalize bb * bb % 998244353 * 30011 % 998244353 = sc at *
      refine g_retG (x := .int (sc / 7 % al)) rfl ok' (ev_mod (ev_cb (ea_cons (ev_divP (ev_var rfl) ev_int (by decide)) ea_nil) rc_int) (ev_var rfl) (by omega)) rfl ⟨sc / 7 % al, rfl, Int.emod_nonneg _ (by omega), Int.emod_lt_of_pos _ (by omega)⟩ hD

theorem sq_off {K : Fg} {H H' : Hp} {a c p : Addr} {x0 x1 x2 : Int} {ns : List Int} (hs : SqL K H p (ns.map V.int)) (ha : H a = some (.lst [.int x0, .int x1, .int x2, .ref c])) (of : Off a H H') : SqL K H' p (ns.map V.int) := by
  have no : ns.map V.int ≠ [.int x0, .int x1, .int x2, .ref c] := by
    intro e
    have := congrArg (fun l : List V => l[3]?) e
    simp only [List.getElem?_map] at this
    cases h : ns[3]? with
    | none => rw [h] at this; cases this
    | some z => rw [h] at this; cases this
  rcases hs with (h | ⟨o, h⟩) | h
  · refine .inl (.inl (of p _ (fun z => ?_) h))
    rw [z, ha] at h
    injection h with h
    injection h with h
    exact no h.symm
  · refine .inl (.inr ⟨o, of p _ (fun z => ?_) h⟩)
    rw [z, ha] at h
    injection h with h
    cases h
  · exact .inr h

abbrev s__law_some : Stmt := topS 69
theorem sc__law_some : FnScope ["bag", "things"] ["bag", "things"] (defScope s__law_some) := ⟨rfl, rfl, rfl, by decide +kernel, rfl, by decide +kernel, by decide +kernel⟩
theorem ok__law_some (M : Glb P K mg base) (F : Dfn K mg "_law_some" s__law_some) (c__law_take : Cal P w K mg base "_law_take" ["bag", "many"] 41 (spM K (fun m : Int => [.int m]) (fun m => 1 ≤ m ∧ m ≤ 1000) 1 (fun m y => ∃ r : Int, y = .int r ∧ 0 ≤ r ∧ r < m))) : Cal P w K mg base "_law_some" ["bag", "things"] 42 (spM K (fun ns : List Int => [.list (ns.map .int)]) (fun ns => 1 ≤ ns.length ∧ ns.length ≤ 100) 1 (fun ns y => ∃ r ∈ ns, y = .int r)) := by
  obtain ⟨f, fd, hm, F⟩ := F
  refine ⟨f, fd, hm, F.kp, F.binds (fun _ _ _ _ _ _ us hl => match us, hl with | [_, _], _ => rfl), F.ok sc__law_some (fun vs H Q E h => ?_) fun cdv A outer s H vs Q E hr h => ?_⟩
  · obtain ⟨al, a, c, T, x0, x1, x2, cells, ws, rfl, h, _⟩ := h; rw [List.length_cons, dps_len h]; rfl
  · obtain ⟨al, a, c, T, x0, x1, x2, cells, ws, rfl, d, ⟨p1, p2⟩, hT, ok, hb, q⟩ := h
    refine ⟨_, (pss_one (ps_ret (pe_ix ix_seq (pv 1) (pe_cal c__law_take (hr.mono (by decide)) (by rfl) (pa_cons (pv 0) (pa_cons (pe_callB call_lenS (by rfl) M.g_len boot_len (pa_cons (pv 1) pa_nil)) pa_nil))) (fun _ _ => rfl)))), ?_⟩
    obtain ⟨v, rfl, dv⟩ := dps1 d
    obtain ⟨p, vs', rfl, hs, hd⟩ := dp_lst dv
    have hvs := dps_ints' hd
    subst hvs
    refine ⟨_, rfl, _, rfl, _, rfl, p, _, rfl, .inl hs, ?_⟩
    refine ⟨(al.length : Int), a, c, T, x0, x1, x2, cells, [.int (al.length : Nat)], by rw [List.length_map]; rfl, .cons (.int _) .nil, ⟨by omega, by omega⟩, hT, ok, hb, fun v H' y y0 y1 y2 r pp ok' b' of d => ?_⟩
    obtain ⟨i, rfl, i1, i2⟩ := r
    cases d
    obtain ⟨k, rfl⟩ : ∃ k : Nat, i = (k : Int) := ⟨i.toNat, by omega⟩
    have hk : k < al.length := by omega
    have e : (al.map V.int)[k]? = some (.int al[k]) := by rw [List.getElem?_map, List.getElem?_eq_getElem hk]; rfl
    refine .inl ⟨p, _, (k : Int), .int al[k], rfl, rfl, sq_off hs hb.2.1 of, ?_, q _ H' (.int al[k]) y0 y1 y2 ⟨al[k], List.getElem_mem hk, rfl⟩ rfl ok' b' of (.int _)⟩
    unfold atI
    rw [ix_nat (by rw [List.length_map]; exact hk)]
    exact e

/-- what a small ratio is -/
def Small (y : PyData) : Prop := ∃ n d : Int, -3 ≤ n ∧ n ≤ 3 ∧ (d = 1 ∨ d = 2 ∨ d = 3) ∧ y = encR (Rat.divInt n d)
def StrOk (ys : List PyData) : Prop := ∃ l : List Part, ys = l.map enc3 ∧ StreamOk l
theorem em_take {K : Fg} {H0 : Hp} {F : List FE} {T : Nat} {a c : Addr} {cells : List Int} {G : List B} {i : Nat} (m : Int) (e : G[i]? = some (.bg T a c cells)) (m1 : 1 ≤ m ∧ m ≤ 1000) (hT : T + 1 ≤ 100000) :
    EvM K H0 F i T a c cells G (tCall (spM K (fun m : Int => [.int m]) (fun m => 1 ≤ m ∧ m ≤ 1000) 1 (fun m y => ∃ r : Int, y = .int r ∧ 0 ≤ r ∧ r < m)) [] E0 (tCons (tVar i) (tCons (tC (.int m)) tNil))) 1 fun x => ∃ z, x = .int z ∧ (0 ≤ z ∧ z < m) :=
  em_imp (em_bag m e (ea_cons ev_int ea_nil) m1 hT) fun x ⟨r, e, r1, r2⟩ => ⟨r, e, r1, r2⟩

abbrev s__law_small : Stmt := topS 77
theorem sc__law_small : FnScope ["bag"] ["bag"] (defScope s__law_small) := ⟨rfl, rfl, rfl, by decide +kernel, rfl, by decide +kernel, by decide +kernel⟩
theorem ok__law_small (M : Glb P K mg base) (F : Dfn K mg "_law_small" s__law_small) (c__law_fr : Cal P w K mg base "_law_fr" ["a", "b"] 42 (sp2 K PyData.int PyData.int (fun a => a.2 ≠ 0) (fun a => encR (Rat.divInt a.1 a.2)))) (c__law_some : Cal P w K mg base "_law_some" ["bag", "things"] 42 (spM K (fun ns : List Int => [.list (ns.map .int)]) (fun ns => 1 ≤ ns.length ∧ ns.length ≤ 100) 1 (fun ns y => ∃ r ∈ ns, y = .int r))) (c__law_take : Cal P w K mg base "_law_take" ["bag", "many"] 41 (spM K (fun m : Int => [.int m]) (fun m => 1 ≤ m ∧ m ≤ 1000) 1 (fun m y => ∃ r : Int, y = .int r ∧ 0 ≤ r ∧ r < m))) : Cal P w K mg base "_law_small" ["bag"] 43 (spM K (fun _ : Unit => []) (fun _ => True) 2 (fun _ y => Small y)) := by
  refine def_okM F sc__law_small (fun _ _ _ _ _ _ us hl => match us, hl with | [_], _ => rfl) (fun _ => rfl) (fun _ => rfl) fun cdv f A outer s H E hr al a c T x0 x1 x2 cells ha hT ok => ?_
  refine ⟨_, (pss_one (ps_ret (pe_cal c__law_fr (hr.mono (by decide)) (by rfl) (pa_cons (pe_op op_subS (pe_cal c__law_take (hr.mono (by decide)) (by rfl) (pa_cons (pv 0) (pa_cons pe_int pa_nil))) pe_int) (pa_cons (pe_cal c__law_some (hr.mono (by decide)) (by rfl) (pa_cons (pv 0) (pa_cons (pe_lst (pa_cons pe_int (pa_cons pe_int (pa_cons pe_int (pa_cons pe_int (pa_cons pe_int pa_nil)))))) pa_nil))) pa_nil))))), fun D hD => ?_⟩
  refine g_close (i := 0) (a := a) (c := c) (x0 := x0) (x1 := x1) (x2 := x2) (cells := cells) (T := T) rfl ok (g_retM (n := 2) rfl (em_call (ema_cons (em_sub (S := fun z => 0 ≤ z ∧ z < 7) (em_take 7 rfl (by decide) (by omega)) fun G' => ev_int) fun x hx => ema_cons (em_bag ([1, 1, 1, 2, 3] : List Int) rfl (ea_cons (ev_of (el_lst (ea_cons ev_int (ea_cons ev_int (ea_cons ev_int (ea_cons ev_int (ea_cons ev_int ea_nil))))))) ea_nil) (by decide) (by omega)) fun y hy => ema_nil rfl) ?_) hD)
  rintro xs ⟨x, xs', rfl, ⟨z, rfl, z1, z2⟩, y, xs'', rfl, ⟨r, hr, rfl⟩, rfl⟩
  have hr' : r = 1 ∨ r = 2 ∨ r = 3 := by simpa using hr
  exact ⟨(z - 3, r), rfl, by show r ≠ 0; omega, rfl, z - 3, r, by omega, by omega, hr', rfl⟩

abbrev s__law_stream : Stmt := topS 83
theorem sc__law_stream : FnScope ["bag", "found", "k", "worth"] ["bag"] (defScope s__law_stream) := ⟨rfl, rfl, rfl, by decide +kernel, rfl, by decide +kernel, by decide +kernel⟩
theorem ok__law_stream (M : Glb P K mg base) (F : Dfn K mg "_law_stream" s__law_stream) (c__law_take : Cal P w K mg base "_law_take" ["bag", "many"] 41 (spM K (fun m : Int => [.int m]) (fun m => 1 ≤ m ∧ m ≤ 1000) 1 (fun m y => ∃ r : Int, y = .int r ∧ 0 ≤ r ∧ r < m))) (c__law_fr : Cal P w K mg base "_law_fr" ["a", "b"] 42 (sp2 K PyData.int PyData.int (fun a => a.2 ≠ 0) (fun a => encR (Rat.divInt a.1 a.2)))) (c__law_small : Cal P w K mg base "_law_small" ["bag"] 43 (spM K (fun _ : Unit => []) (fun _ => True) 2 (fun _ y => Small y))) : Cal P w K mg base "_law_stream" ["bag"] 44 (spML K (fun _ : Unit => []) (fun _ => True) 16 (fun _ ys => StrOk ys)) := by
  refine def_okML F sc__law_stream (fun _ _ _ _ _ _ us hl => match us, hl with | [_], _ => rfl) (fun _ => rfl) (fun _ => rfl) fun cdv f A outer s H E hr al a c T x0 x1 x2 cells ha hT ok => ?_
  have hu := room_eq (k := 3) hr
  refine ⟨_, (pss_cons (ps_set (i := 1) sc__law_stream.nd rfl (by first | exact Or.inl rfl | exact Or.inr rfl) (pe_lst pa_nil))
      (pss_cons (ps_for PassesOwn.never rfl (pi_range1 (by rfl) M.g_range (pa_cons (pe_op op_addAny pe_int (pe_cal c__law_take (hr.mono (by decide)) (by rfl) (pa_cons (pv 0) (pa_cons pe_int pa_nil)))) pa_nil)) (pg_name (i := 2) sc__law_stream.nd rfl (by first | exact Or.inl rfl | exact Or.inr rfl)) (pss_cons (ps_set (i := 3) sc__law_stream.nd rfl (by first | exact Or.inl rfl | exact Or.inr rfl) (pe_cal c__law_small (hr.mono (by decide)) (by rfl) (pa_cons (pv 0) pa_nil)))
      (pss_one (ps_expr (pe_bm PySem.F.plainAttrs_list PySem.F.slot_list_append PySem.F.type_list_append mt_append (pv 1) (pa_cons (pe_tup (pa_cons (pe_ifExp (pt_cmpR (op_neD hu) (pv 3) (pe_tup (pa_cons pe_int (pa_cons pe_int pa_nil))) (nomark _)) (pv 3) (pe_tup (pa_cons pe_int (pa_cons pe_int pa_nil)))) (pa_cons (pe_cal c__law_fr (hr.mono (by decide)) (by rfl) (pa_cons (pe_op op_subS (pe_cal c__law_take (hr.mono (by decide)) (by rfl) (pa_cons (pv 0) (pa_cons pe_int pa_nil))) pe_int) (pa_cons (pe_op op_addAny pe_int (pe_cal c__law_take (hr.mono (by decide)) (by rfl) (pa_cons (pv 0) (pa_cons pe_int pa_nil)))) pa_nil))) (pa_cons (pe_cal c__law_take (hr.mono (by decide)) (by rfl) (pa_cons (pv 0) (pa_cons pe_int pa_nil))) pa_nil)))) pa_nil))))))
      (pss_one (ps_ret (pv 1))))), fun D hD => ?_⟩
  refine g_close (i := 0) (a := a) (c := c) (x0 := x0) (x1 := x1) (x2 := x2) (cells := cells) (T := T) rfl ok ?_
  refine q_setL (xs := []) (el_lst ea_nil) rfl ?_
  refine qm_for1 (i := 0) (T := T) (n := 1) (S := fun z => 1 ≤ z ∧ z < 4) (em_imp (em_addc (S := fun z => 0 ≤ z ∧ z < 3) ev_int (em_take (T := T) 3 rfl (by decide) (by omega))) fun x ⟨z, e, h1, h2⟩ => ⟨1 + z, e, by omega, by omega⟩) fun z hz => ?_
  refine q_forX (ds := intR 0 1 z.toNat) [2] (ei_range1 (n := z) (ea_cons ev_int ea_nil) (by omega)) (fun i G' => ∃ l : List Part, l.length = i ∧ (∀ s ∈ l, PartOk s) ∧ G' = [.bg (T + 1 + 5 * i) a c cells, .l (l.map enc3), .u, .u]) ⟨[], rfl, fun s m => (by cases m), rfl⟩ (fun F1 i d G' hd hI => ?_) (fun G' hI => ?_)
  · obtain ⟨rfl, hi⟩ := intR_get' hd
    obtain ⟨l, hl, hp, rfl⟩ := hI
    refine ⟨_, tg_name rfl (by simp), fun D' hn => ?_⟩
    refine qm_set (i := 0) (T := T + 1 + 5 * i) (n := 2) (em_bag () rfl ea_nil trivial (by omega)) fun x hx px => ?_
    obtain ⟨n1, d1, n11, n12, d11, rfl⟩ := hx
    refine gm_app (i := 0) (T := T + 1 + 5 * i + 2) (n := 0 + (1 + (1 + 0) + (1 + 0))) rfl rfl (em_tup (ema_cons (em_pure rfl (ev_if (x := encR (if Rat.divInt n1 d1 = 0 then 1 else Rat.divInt n1 d1)) (b := !decide (Rat.divInt n1 d1 = 0)) (et_test (ev_ne (ev_var rfl) ev_r0 rfl rfl (by rw [eqv_encR]))) (fun h => (ev_var rfl).to ?_) (fun h => ev_r1.to ?_)) rfl) fun x hx =>
      ema_cons (R := fun y => ∃ n d : Int, -3 ≤ n ∧ n ≤ 3 ∧ (d = 4 ∨ d = 5) ∧ y = encR (Rat.divInt n d)) (em_call (ema_cons (em_sub (S := fun z => 0 ≤ z ∧ z < 7) (em_take 7 rfl (by decide) (by omega)) fun G' => ev_int) fun x hx => ema_cons (em_addc (S := fun z => 0 ≤ z ∧ z < 2) ev_int (em_take 2 rfl (by decide) (by omega))) fun y hy => ema_nil rfl) ?_) fun y hy =>
      ema_cons (em_take 3 rfl (by decide) (by omega)) fun y hy => ema_nil rfl) ?_) (by rw [List.length_map]; omega) fun x hx px => ?_
    · have : ¬ Rat.divInt n1 d1 = 0 := by simpa using h
      rw [if_neg this]
    · have : Rat.divInt n1 d1 = 0 := by simpa using h
      rw [if_pos this]
    · rintro xs ⟨x, xs', rfl, ⟨z, rfl, z1, z2⟩, y, xs'', rfl, ⟨r, rfl, r1, r2⟩, rfl⟩
      exact ⟨(z - 3, 4 + r), rfl, by show 4 + r ≠ 0; omega, rfl, z - 3, 4 + r, by omega, by omega, by omega, rfl⟩
    · rintro xs ⟨x, xs', rfl, _, y, xs'', rfl, _, y', xs3, rfl, _, rfl⟩
      exact Nat.le_of_ble_eq_true rfl
    · obtain ⟨xs, rfl, x, xs', rfl, rfl, y, xs'', rfl, ⟨n, d, k1, k2, k3, rfl⟩, y', xs3, rfl, ⟨t, rfl, t1, t2⟩, rfl⟩ := hx
      obtain ⟨k, rfl⟩ : ∃ k : Nat, t = (k : Int) := ⟨t.toNat, by omega⟩
      have e : l.map enc3 ++ [.tuple [encR (if Rat.divInt n1 d1 = 0 then 1 else Rat.divInt n1 d1), encR (Rat.divInt n d), .int (k : Nat)]] = (l ++ [((if Rat.divInt n1 d1 = 0 then 1 else Rat.divInt n1 d1), Rat.divInt n d, k)]).map enc3 := by
        rw [List.map_append]; rfl
      rw [e]
      refine aft_le (by repeat (first | exact LeG.nil | apply LeG.same | apply LeG.drop)) (hn _ ⟨l ++ [((if Rat.divInt n1 d1 = 0 then 1 else Rat.divInt n1 d1), Rat.divInt n d, k)], by rw [List.length_append, hl]; rfl, fun s m => ?_, rfl⟩)
      rcases List.mem_append.mp m with m | m
      · exact hp s m
      · obtain rfl := List.mem_singleton.mp m
        refine ⟨?_, ?_, ⟨n, d, k1, k2, k3, rfl⟩, by show k ≤ 2; omega⟩
        · show (if Rat.divInt n1 d1 = 0 then (1 : Rat) else Rat.divInt n1 d1) ≠ 0
          by_cases h : Rat.divInt n1 d1 = 0
          · rw [if_pos h]; decide
          · rw [if_neg h]; exact h
        · show ∃ n d : Int, _ ∧ _ ∧ _ ∧ (if Rat.divInt n1 d1 = 0 then (1 : Rat) else Rat.divInt n1 d1) = _
          by_cases h : Rat.divInt n1 d1 = 0
          · rw [if_pos h]
            exact ⟨1, 1, by decide, by decide, .inl rfl, by decide +kernel⟩
          · rw [if_neg h]
            exact ⟨n1, d1, n11, n12, d11, rfl⟩
  · rw [intR_len] at hI
    obtain ⟨l, hl, hp, rfl⟩ := hI
    refine g_moreB (i := 0) (T' := T + 16) rfl (by omega) ?_
    exact g_retMv (j := 1) rfl (by decide) rfl ⟨l, rfl, by omega, by omega, hp⟩ hD

abbrev s__law_bag : Stmt := topS 67
theorem sc__law_bag : FnScope ["script", "cell"] ["script"] (defScope s__law_bag) := ⟨rfl, rfl, rfl, by decide +kernel, rfl, by decide +kernel, by decide +kernel⟩
theorem ok__law_bag (M : Glb P K mg base) (F : Dfn K mg "_law_bag" s__law_bag) : Cal P w K mg base "_law_bag" ["script"] 41 (spBag K (fun ns => [.list (ns.map .int)])) := by
  obtain ⟨f, fd, hm, F⟩ := F
  refine ⟨f, fd, hm, F.kp, F.binds (fun _ _ _ _ _ _ us hl => match us, hl with | [_], _ => rfl), F.ok sc__law_bag (fun vs H Q E h => ?_) fun cdv A outer s H vs Q E hr h => ?_⟩
  · obtain ⟨ns, h, _⟩ := h; rw [dps_len h]; rfl
  · obtain ⟨ns, d, hl, q⟩ := h
    refine ⟨_, (pss_one (ps_ret (pe_lst (pa_cons pe_int (pa_cons pe_int (pa_cons pe_int (pa_cons (pe_lc (own := [("cell", 1)]) rfl sc__law_bag.nd (pi_list (pe_slice sl_any (pv 0) po_none (po_some pe_int))) (blkOk_by (N := ["script", "cell"]) (sc := defScope s__law_bag) (by decide +kernel)) (fun _ _ _ _ _ => (pg_name (i := 1) sc__law_bag.nd rfl (by first | exact Or.inl rfl | exact Or.inr rfl))) (fun _ _ _ _ _ => pts_nil) (fun _ _ _ _ _ => (pe_callB call_absS (by rfl) M.g_abs boot_abs (pa_cons (pv 1) pa_nil)))) pa_nil))))))), ?_⟩
    have o := own_entryR (N := ["script", "cell"]) d
    have L := el_lc (K := K) (H0 := H) (F := []) (G := [.r (.list (ns.map .int)), .u]) (te := tCB rAbs (tCons (tVar 1) tNil)) (g := gName 1) (vs := [1]) (((ns.take 63).map fun z => (z.natAbs : Int)).map .int) (ei_new (el_slL (ev_var (i := 0) rfl) eo_none (eo_some (ev_int (i := 63)))) (by
      show prs (cutD _ none (some ((63 : Nat) : Int))) = true
      rw [cut_to]
      exact prs_of fun x m => by obtain ⟨z, _, rfl⟩ := List.mem_map.mp (List.mem_of_mem_take m); rfl)).toC (by
      show _ = (cutD _ none (some ((63 : Nat) : Int))).length
      rw [cut_to]; simp) (by
      show (cutD _ none (some ((63 : Nat) : Int))).length < _
      rw [cut_to]; simp; omega) (prs_maps _ (fun _ => rfl) _) fun i d y hd hy => (by
      have hd' : (cutD (ns.map PyData.int) none (some ((63 : Nat) : Int)))[i]? = some d := hd
      rw [cut_to, ← List.map_take] at hd'
      obtain ⟨z, hz, rfl⟩ := map_get hd'
      obtain ⟨z', hz', rfl⟩ := map_get hy
      rw [List.getElem?_map, hz] at hz'
      obtain rfl := Option.some.inj hz'
      exact ⟨_, tg_name rfl (by simp), ev_cb (ea_cons (ev_var rfl) ea_nil) rc_abs⟩)
    unfold tRet tLst tCons tC
    refine L _ H o _ fun p us H1 hp e1 hH d1 => ?_
    have hus := dps_ints' d1
    subst hus
    refine ⟨Nat.le_trans (show 4 ≤ 100000 by decide) (by decide : 100000 ≤ sizeLine), fun l hl0 => ?_⟩
    have hne : l ≠ p := fun z => by rw [z, hH] at hl0; cases hl0
    refine q l p 0 1234567891 0 ((ns.take 63).map fun z => (z.natAbs : Int)) _ (e1.free hl0) hp (e1.trans (same_new hl0)) ⟨by decide, by decide, by decide, by decide, by decide, ?_, ?_⟩ ⟨hne, upd_same, ?_⟩
    · intro z m
      obtain ⟨y, _, rfl⟩ := List.mem_map.mp m
      omega
    · rw [List.length_map, List.length_take]; omega
    · rw [upd_ne (fun z => hne z.symm)]
      exact hH

end
end Sw
namespace Sw
open PySem PySem.Spec L2
open PyProof.Rows hiding St
theorem trim_s : trim [1, -1] = [1, -1] := by decide +kernel
theorem trim_t : trim [1, 1] = [1, 1] := by decide +kernel
theorem trim_1 : trim [1] = [1] := by decide +kernel
theorem encm1 : PyData.tuple [.int (-1), .int 1] = encR (-1) := rfl
theorem toOk_no {q : PQ} (h : KeOk q.2) (d : pdies q.2 = false) : ToOk q := ⟨h, fun e => by rw [d] at e; cases e⟩
theorem meOk_no {q : PQ} (h : KeOk q.2) (d : pdies q.2 = false) : MeOk q := ⟨h, fun e => by rw [d] at e; cases e⟩
theorem not_refl_R (a : Rat) : (!PyData.eqv (encR a) (encR a)) = false := by rw [eqv_encR]; simp
theorem not_refl_P (a : List Rat) : (!PyData.eqv (encP a) (encP a)) = false := by rw [eqv_encP]; simp
theorem not_refl_Q (a : PQ) : (!PyData.eqv (encQ a) (encQ a)) = false := by rw [eqv_encQ]; simp
theorem not_refl_L (a : List Rat) : (!PyData.eqv (.list (a.map encR)) (.list (a.map encR))) = false := by rw [eqv_list]; simp
section
variable {P : Program} {w : World} {K : Fg} {mg : Str → Option Value} {base : Heap}

abbrev s_law : Stmt := topS 87
theorem sc_law : FnScope ["script", "bag", "lap", "one", "whole", "parts", "steady", "both", "other", "turned", "stream", "level", "worth", "falls", "later", "gap"] ["script"] (defScope s_law) := ⟨rfl, rfl, rfl, by decide +kernel, rfl, by decide +kernel, by decide +kernel⟩
theorem ok_law (M : Glb P K mg base) (F : Dfn K mg "law" s_law) (c_total : Cal P w K mg base "total" ["quotient"] 48 (sp1 K encQ ToOk (fun q => encO (ptotal q)))) (c_last_value : Cal P w K mg base "last_value" ["quotient"] 50 (sp1 K encQ LaOk (fun q => encO (plast q)))) (c_sum_of : Cal P w K mg base "sum_of" ["one", "other"] 48 (sp2 K encQ encQ (fun a => SuOk a.1 a.2) (fun a => encQ (psum a.1 a.2)))) (c__law_quotient : Cal P w K mg base "_law_quotient" ["above", "below"] 45 (sp2 K seqD seqD (fun a => QuOk (trim a.1.2, trim a.2.2) ∧ a.1.2.length ≤ 1000 ∧ a.2.2.length ≤ 1000) (fun a => encQ (lqt (trim a.1.2, trim a.2.2))))) (c_summed_up : Cal P w K mg base "summed_up" ["quotient"] 49 (sp1 K encQ (fun q => PrOk q pSUM) (fun q => encQ (pprod q pSUM)))) (c_do_all_die : Cal P w K mg base "do_all_die" ["quotients"] 48 (sp1 K (fun l : List (List Rat × List Rat) => .tuple (l.map encQ)) (fun l => l.length ≤ 100 ∧ ∀ q ∈ l, KeOk q.2) (fun l => .bool (l.all fun q => pdies q.2)))) (c_steady_matrix : Cal P w K mg base "steady_matrix" ["matrix"] 51 (sp1 K (fun m : List (List PQ) => .tuple (m.map encMr)) (fun m => m.length ≤ 100 ∧ ∀ r ∈ m, r.length ≤ 100 ∧ ∀ q ∈ r, PrOk q pSUM ∧ LaOk (pprod q pSUM)) (fun m => if (m.any fun r => r.any fun q => !(pcell q).isSome) = true then .none else .tuple (m.map outMr)))) (c__law_made : Cal P w K mg base "_law_made" ["stream"] 46 (sp1 K (fun l : List Part => .list (l.map enc3)) MaOk (fun l => encQ (pmade l)))) (c__law_stream : Cal P w K mg base "_law_stream" ["bag"] 44 (spML K (fun _ : Unit => []) (fun _ => True) 16 (fun _ ys => StrOk ys))) (c_stepped : Cal P w K mg base "stepped" ["quotient"] 50 (sp1 K encQ (fun q => PrOk q pOX) (fun q => encQ (pprod q pOX)))) (c_led_by_ticks : Cal P w K mg base "led_by_ticks" ["quotient"] 49 (sp1 K encQ LeOk (fun q => encQ (pled q)))) (c__law_sum : Cal P w K mg base "_law_sum" ["some"] 44 (sp1 K encL SumOk (fun l => encR (rsum l)))) (c_does_die : Cal P w K mg base "does_die" ["quotient"] 47 (sp1 K encQ (fun q => KeOk q.2) (fun q => .bool (pdies q.2)))) (c_mean_tick : Cal P w K mg base "mean_tick" ["quotient"] 50 (sp1 K encQ MeOk (fun q => if pdies q.2 = true then .tuple [encO (ptotal (pled q)), encO (ptotal q)] else .none))) (c_is_last_value : Cal P w K mg base "is_last_value" ["quotient", "fraction"] 51 (sp2 K encQ encR (fun a => LaOk a.1 ∧ Sm a.2 ∧ ∀ v, plast a.1 = some v → Sm v) (fun a => .bool (isLastB (plast a.1) a.2)))) (c__law_add : Cal P w K mg base "_law_add" ["one", "other"] 43 (sp2 K encR encR (fun a => Sm a.1 ∧ Sm a.2) (fun a => encR (a.1 + a.2)))) (c__law_mul : Cal P w K mg base "_law_mul" ["one", "other"] 43 (sp2 K encR encR (fun a => Sm a.1 ∧ Sm a.2) (fun a => encR (a.1 * a.2)))) (c__law_div : Cal P w K mg base "_law_div" ["one", "other"] 43 (sp2 K encR encR (fun a => Sm a.1 ∧ Sm a.2 ∧ a.2 ≠ 0) (fun a => encR (a.1 / a.2)))) (c__law_less : Cal P w K mg base "_law_less" ["one", "other"] 43 (sp2 K encR encR (fun a => Sm a.1 ∧ Sm a.2) (fun a => encR (a.1 - a.2)))) (c_values : Cal P w K mg base "values" ["quotient", "begin", "many"] 45 (spT K (fun a : PQ × Nat => [encQ a.1, .int 0, .int (a.2 : Nat)]) (fun a => a.2 ≤ 400 ∧ SeOk a.1.1 a.1.2 a.2) (fun a => encP (ser a.1.1 a.1.2 a.2)))) (c__law_first : Cal P w K mg base "_law_first" ["stream", "many"] 45 (spL K (fun a : List Part × Nat => [.list (a.1.map enc3), .int (a.2 : Nat)]) (fun a => FiOk a.1 a.2) (fun a => (pfirst a.1 a.2).map encR))) (c__law_small : Cal P w K mg base "_law_small" ["bag"] 43 (spM K (fun _ : Unit => []) (fun _ => True) 2 (fun _ y => Small y))) (c__law_bag : Cal P w K mg base "_law_bag" ["script"] 41 (spBag K (fun ns => [.list (ns.map .int)]))) : Cal P w K mg base "law" ["script"] 52 (spT K (fun ns : List Int => [.list (ns.map .int)]) (fun ns => ns.length ≤ 100 ∧ (∀ l, StreamOk l → Lap1 l) ∧ (∀ l v, StreamOk l → IsSmall v → Lap2 l v) ∧ LapT) (fun _ => .bool true)) := by
  refine def_okR F sc_law (fun _ _ _ _ _ _ us hl => match us, hl with | [_], _ => rfl) (fun _ => rfl) fun cdv f A outer s H E hr a ha => ?_
  have hu := room_eq (k := 11) hr
  refine ⟨_, (pss_cons (ps_set (i := 1) sc_law.nd rfl (by first | exact Or.inl rfl | exact Or.inr rfl) (pe_cal c__law_bag (hr.mono (by decide)) (by rfl) (pa_cons (pv 0) pa_nil)))
      (pss_cons (ps_for PassesOwn.never rfl (pi_range1 (by rfl) M.g_range (pa_cons pe_int pa_nil)) (pg_name (i := 2) sc_law.nd rfl (by first | exact Or.inl rfl | exact Or.inr rfl)) (pss_cons (ps_par (i := 10) (j := 11) rfl sc_law.nd rfl rfl (by decide) rfl rfl (pa_cons (pe_cal c__law_stream (hr.mono (by decide)) (by rfl) (pa_cons (pv 1) pa_nil)) (pa_cons (pe_cal c__law_small (hr.mono (by decide)) (by rfl) (pa_cons (pv 1) pa_nil)) pa_nil)) (by rfl))
      (pss_cons (ps_set (i := 3) sc_law.nd rfl (by first | exact Or.inl rfl | exact Or.inr rfl) (pe_cal c__law_made (hr.mono (by decide)) (by rfl) (pa_cons (pv 10) pa_nil)))
      (pss_cons (ps_if (pw_or (pt_cmpR (op_neD hu) (pe_callTy call_listS (by rfl) M.g_list boot_list (pa_cons (pe_cal c_values (hr.mono (by decide)) (by rfl) (pa_cons (pv 3) (pa_cons pe_int (pa_cons pe_int pa_nil)))) pa_nil)) (pe_cal c__law_first (hr.mono (by decide)) (by rfl) (pa_cons (pv 10) (pa_cons pe_int pa_nil))) (nomark _)) (pw_or (pt_cmpR op_notBl (pe_cal c_does_die (hr.mono (by decide)) (by rfl) (pa_cons (pv 3) pa_nil)) pe_bl (nomark _)) (pw_or1 (pt_cmpR (op_neD hu) (pe_cal c_last_value (hr.mono (by decide)) (by rfl) (pa_cons (pv 3) pa_nil)) (pe_tup (pa_cons pe_int (pa_cons pe_int pa_nil))) (nomark _))))).pt (pss_one (ps_ret pe_bl)) pss_nil)
      (pss_cons (ps_set (i := 4) sc_law.nd rfl (by first | exact Or.inl rfl | exact Or.inr rfl) (pe_cal c__law_sum (hr.mono (by decide)) (by rfl) (pa_cons (pe_lc (own := [("worth", 12), ("falls", 13), ("later", 14)]) rfl sc_law.nd (pi_list (pv 10)) (blkOk_by (N := ["script", "bag", "lap", "one", "whole", "parts", "steady", "both", "other", "turned", "stream", "level", "worth", "falls", "later", "gap"]) (sc := defScope s_law) (by decide +kernel)) (fun _ _ _ _ _ => (pg_tupB (n := 3) (pgs_cons (pg_name (i := 12) sc_law.nd rfl (by first | exact Or.inl rfl | exact Or.inr rfl)) (pgs_cons (pg_name (i := 13) sc_law.nd rfl (by first | exact Or.inl rfl | exact Or.inr rfl)) (pgs_cons (pg_name (i := 14) sc_law.nd rfl (by first | exact Or.inl rfl | exact Or.inr rfl)) pgs_nil))))) (fun _ _ _ _ _ => pts_nil) (fun _ _ _ _ _ => (pe_cal c__law_div (hr.mono (by decide)) (by rfl) (pa_cons (pv 12) (pa_cons (pe_cal c__law_less (hr.mono (by decide)) (by rfl) (pa_cons (pe_tup (pa_cons pe_int (pa_cons pe_int pa_nil))) (pa_cons (pv 13) pa_nil))) pa_nil))))) pa_nil)))
      (pss_cons (ps_set (i := 5) sc_law.nd rfl (by first | exact Or.inl rfl | exact Or.inr rfl) (pe_lst pa_nil))
      (pss_cons (ps_for PassesOwn.never rfl (pi_list (pv 10)) (pg_tup (by rfl) (pgs_cons (pg_name (i := 12) sc_law.nd rfl (by first | exact Or.inl rfl | exact Or.inr rfl)) (pgs_cons (pg_name (i := 13) sc_law.nd rfl (by first | exact Or.inl rfl | exact Or.inr rfl)) (pgs_cons (pg_name (i := 14) sc_law.nd rfl (by first | exact Or.inl rfl | exact Or.inr rfl)) pgs_nil)))) (pss_cons (ps_set (i := 15) sc_law.nd rfl (by first | exact Or.inl rfl | exact Or.inr rfl) (pe_cal c__law_less (hr.mono (by decide)) (by rfl) (pa_cons (pe_tup (pa_cons pe_int (pa_cons pe_int pa_nil))) (pa_cons (pv 13) pa_nil))))
      (pss_one (ps_expr (pe_bm PySem.F.plainAttrs_list PySem.F.slot_list_append PySem.F.type_list_append mt_append (pv 5) (pa_cons (pe_cal c__law_mul (hr.mono (by decide)) (by rfl) (pa_cons (pv 12) (pa_cons (pe_cal c__law_add (hr.mono (by decide)) (by rfl) (pa_cons (pe_cal c__law_div (hr.mono (by decide)) (by rfl) (pa_cons (pe_tup (pa_cons (pv 14) (pa_cons pe_int pa_nil))) (pa_cons (pv 15) pa_nil))) (pa_cons (pe_cal c__law_div (hr.mono (by decide)) (by rfl) (pa_cons (pv 13) (pa_cons (pe_cal c__law_mul (hr.mono (by decide)) (by rfl) (pa_cons (pv 15) (pa_cons (pv 15) pa_nil))) pa_nil))) pa_nil))) pa_nil))) pa_nil))))))
      (pss_cons (ps_if (pw_or (pt_cmpR (op_neD hu) (pe_cal c_total (hr.mono (by decide)) (by rfl) (pa_cons (pv 3) pa_nil)) (pv 4) (nomark _)) (pw_or1 (pw_and (pt_cmpR (op_neD hu) (pv 4) (pe_tup (pa_cons pe_int (pa_cons pe_int pa_nil))) (nomark _)) (pw_and1 (pt_cmpR (op_neD hu) (pe_cal c_mean_tick (hr.mono (by decide)) (by rfl) (pa_cons (pv 3) pa_nil)) (pe_tup (pa_cons (pe_cal c__law_sum (hr.mono (by decide)) (by rfl) (pa_cons (pv 5) pa_nil)) (pa_cons (pv 4) pa_nil))) (nomark _)))).pt)).pt (pss_one (ps_ret pe_bl)) pss_nil)
      (pss_cons (ps_set (i := 6) sc_law.nd rfl (by first | exact Or.inl rfl | exact Or.inr rfl) (pe_cal c__law_quotient (hr.mono (by decide)) (by rfl) (pa_cons (pe_lst (pa_cons (pv 11) pa_nil)) (pa_cons (pe_lst (pa_cons (pe_tup (pa_cons pe_int (pa_cons pe_int pa_nil))) (pa_cons (pe_tup (pa_cons (pe_un un_negS pe_int) (pa_cons pe_int pa_nil))) pa_nil))) pa_nil))))
      (pss_cons (ps_set (i := 7) sc_law.nd rfl (by first | exact Or.inl rfl | exact Or.inr rfl) (pe_cal c_sum_of (hr.mono (by decide)) (by rfl) (pa_cons (pv 3) (pa_cons (pv 6) pa_nil))))
      (pss_cons (ps_if (pw_or (pt_cmpR (op_neD hu) (pe_cal c_last_value (hr.mono (by decide)) (by rfl) (pa_cons (pv 7) pa_nil)) (pv 11) (nomark _)) (pw_or (pt_cmpR op_notBl (pe_cal c_is_last_value (hr.mono (by decide)) (by rfl) (pa_cons (pv 7) (pa_cons (pv 11) pa_nil))) pe_bl (nomark _)) (pw_or1 (pt_cmpR op_notBl (pe_cal c_is_last_value (hr.mono (by decide)) (by rfl) (pa_cons (pv 7) (pa_cons (pe_cal c__law_add (hr.mono (by decide)) (by rfl) (pa_cons (pv 11) (pa_cons (pe_tup (pa_cons pe_int (pa_cons pe_int pa_nil))) pa_nil))) pa_nil))) pe_bl (nomark _))))).pt (pss_one (ps_ret pe_bl)) pss_nil)
      (pss_cons (ps_if (pw_and (pt_cmpR (op_neD hu) (pv 11) (pe_tup (pa_cons pe_int (pa_cons pe_int pa_nil))) (nomark _)) (pw_and1 (pw_or (pt_cmpR op_notN1 (pe_cal c_total (hr.mono (by decide)) (by rfl) (pa_cons (pv 7) pa_nil)) pe_non (nomark _)) (pw_or (pt_cmpR op_notN1 (pe_cal c_mean_tick (hr.mono (by decide)) (by rfl) (pa_cons (pv 7) pa_nil)) pe_non (nomark _)) (pw_or1 (pt_cmpR op_notBl (pe_cal c_does_die (hr.mono (by decide)) (by rfl) (pa_cons (pv 7) pa_nil)) pe_bl (nomark _))))).pt)).pt (pss_one (ps_ret pe_bl)) pss_nil)
      (pss_cons (ps_if (pw_or (pt_cmpR (op_neD hu) (pe_cal c_last_value (hr.mono (by decide)) (by rfl) (pa_cons (pe_cal c_summed_up (hr.mono (by decide)) (by rfl) (pa_cons (pv 3) pa_nil)) pa_nil)) (pv 4) (nomark _)) (pw_or (pt_cmpR (op_neD hu) (pe_cal c_total (hr.mono (by decide)) (by rfl) (pa_cons (pe_cal c_led_by_ticks (hr.mono (by decide)) (by rfl) (pa_cons (pv 3) pa_nil)) pa_nil)) (pe_cal c__law_sum (hr.mono (by decide)) (by rfl) (pa_cons (pv 5) pa_nil)) (nomark _)) (pw_or1 (pt_cmpR (op_neD hu) (pe_cal c_total (hr.mono (by decide)) (by rfl) (pa_cons (pe_cal c_stepped (hr.mono (by decide)) (by rfl) (pa_cons (pv 3) pa_nil)) pa_nil)) (pe_tup (pa_cons pe_int (pa_cons pe_int pa_nil))) (nomark _))))).pt (pss_one (ps_ret pe_bl)) pss_nil)
      (pss_cons (ps_set (i := 8) sc_law.nd rfl (by first | exact Or.inl rfl | exact Or.inr rfl) (pe_cal c__law_made (hr.mono (by decide)) (by rfl) (pa_cons (pe_cal c__law_stream (hr.mono (by decide)) (by rfl) (pa_cons (pv 1) pa_nil)) pa_nil)))
      (pss_cons (ps_if (pw_or (pt_cmpR (op_neD hu) (pe_cal c_steady_matrix (hr.mono (by decide)) (by rfl) (pa_cons (pe_tup (pa_cons (pe_tup (pa_cons (pv 3) (pa_cons (pv 8) pa_nil))) (pa_cons (pe_tup (pa_cons (pv 8) (pa_cons (pv 3) pa_nil))) pa_nil))) pa_nil)) (pe_tup (pa_cons (pe_tup (pa_cons (pv 4) (pa_cons (pe_cal c_total (hr.mono (by decide)) (by rfl) (pa_cons (pv 8) pa_nil)) pa_nil))) (pa_cons (pe_tup (pa_cons (pe_cal c_total (hr.mono (by decide)) (by rfl) (pa_cons (pv 8) pa_nil)) (pa_cons (pv 4) pa_nil))) pa_nil))) (nomark _)) (pw_or1 (pt_cmpR op_notBl (pe_cal c_do_all_die (hr.mono (by decide)) (by rfl) (pa_cons (pe_tup (pa_cons (pv 3) (pa_cons (pv 8) pa_nil))) pa_nil)) pe_bl (nomark _)))).pt (pss_one (ps_ret pe_bl)) pss_nil)
      (pss_cons (ps_if (pw_and (pt_cmpR (op_neD hu) (pv 11) (pe_tup (pa_cons pe_int (pa_cons pe_int pa_nil))) (nomark _)) (pw_and1 (pw_or (pt_cmpR op_notN1 (pe_cal c_steady_matrix (hr.mono (by decide)) (by rfl) (pa_cons (pe_tup (pa_cons (pe_tup (pa_cons (pv 3) (pa_cons (pv 7) pa_nil))) pa_nil)) pa_nil)) pe_non (nomark _)) (pw_or (pt_cmpR op_notBl (pe_cal c_do_all_die (hr.mono (by decide)) (by rfl) (pa_cons (pe_tup (pa_cons (pv 3) (pa_cons (pv 7) pa_nil))) pa_nil)) pe_bl (nomark _)) (pw_or1 (pt_cmpR op_notN1 (pe_cal c_last_value (hr.mono (by decide)) (by rfl) (pa_cons (pe_cal c_summed_up (hr.mono (by decide)) (by rfl) (pa_cons (pv 7) pa_nil)) pa_nil)) pe_non (nomark _))))).pt)).pt (pss_one (ps_ret pe_bl)) pss_nil)
      (pss_cons (ps_set (i := 9) sc_law.nd rfl (by first | exact Or.inl rfl | exact Or.inr rfl) (pe_cal c__law_quotient (hr.mono (by decide)) (by rfl) (pa_cons (pe_lst (pa_cons (pe_tup (pa_cons pe_int (pa_cons pe_int pa_nil))) pa_nil)) (pa_cons (pe_lst (pa_cons (pe_tup (pa_cons pe_int (pa_cons pe_int pa_nil))) (pa_cons (pe_tup (pa_cons pe_int (pa_cons pe_int pa_nil))) pa_nil))) pa_nil))))
      (pss_one (ps_if (pw_or (pt_cmpR op_notN1 (pe_cal c_last_value (hr.mono (by decide)) (by rfl) (pa_cons (pv 9) pa_nil)) pe_non (nomark _)) (pw_or (pt_cmpR op_notN1 (pe_cal c_last_value (hr.mono (by decide)) (by rfl) (pa_cons (pe_cal c_sum_of (hr.mono (by decide)) (by rfl) (pa_cons (pv 3) (pa_cons (pv 9) pa_nil))) pa_nil)) pe_non (nomark _)) (pw_or1 (pt_cmpR op_notN1 (pe_cal c_total (hr.mono (by decide)) (by rfl) (pa_cons (pv 9) pa_nil)) pe_non (nomark _))))).pt (pss_one (ps_ret pe_bl)) pss_nil)))))))))))))))))))
      (pss_one (ps_ret pe_bl)))), fun D hD => ?_⟩
  obtain ⟨hns, hL1, hL2, hT⟩ := ha
  refine q_setBag (i := 1) a (ea_cons (ev_var rfl) ea_nil) (by omega) fun b c cells => ?_
  refine q_forX (ds := intR 0 1 3) [2] (ei_range1 (n := 3) (ea_cons ev_int ea_nil) (by decide)) (fun i G' => G' = [.r (.list (a.map .int)), .bg (40 * i) b c cells, .u, .u, .u, .u, .u, .u, .u, .u, .u, .u, .u, .u, .u, .u]) rfl (fun F1 i d G' hd hI => ?_) (fun G' hI => ?_)
  rotate_left
  · rw [hI]
    exact g_ret (x := .bool true) ev_bl hD
  obtain ⟨rfl, hi⟩ := intR_get' hd
  subst hI
  refine ⟨_, tg_name rfl (by simp), fun D' hn => ?_⟩
  -- stream, level
  refine qm_parL (i := 1) (j := 10) (k := 11) (T := 40 * i) (n := 16) (m := 2) (em_bagL () rfl ea_nil trivial (by omega)) (fun F' => em_bag () rfl ea_nil trivial (by omega)) fun xs x hxs pxs hx px => ?_
  obtain ⟨l, rfl, hl⟩ := hxs
  obtain ⟨n1, d1, k1, k2, k3, rfl⟩ := hx
  have hv : IsSmall (Rat.divInt n1 d1) := ⟨n1, d1, k1, k2, k3, rfl⟩
  generalize Rat.divInt n1 d1 = v at *
  have L := hL1 l hl
  have M2 := hL2 l v hl hv
  have LT := hT
  have lle : l.length ≤ 3 := hl.2.1
  have toA : ToOk (pmade l) := (L.me.2 L.dies).2.2
  have leA : LeOk (pmade l) := (L.me.2 L.dies).1
  have toB : ToOk (pled (pmade l)) := (L.me.2 L.dies).2.1
  refine g_as (G' := [.r (.list (a.map .int)), .bg (40 * i + 16 + 2) b c cells, .d (.int (0 + (i : Nat) * 1)), .u, .u, .u, .u, .u, .u, .u, .l (l.map enc3), .d (encR v), .u, .u, .u, .u]) rfl ?_
  refine q_set (x := encQ (pmade l)) (ev_call1 l (ev_var rfl) L.ma) (pr_encQ _) ?_
  refine g_as (G' := [.r (.list (a.map .int)), .bg (40 * i + 16 + 2) b c cells, .d (.int (0 + (i : Nat) * 1)), .d (encQ (pmade l)), .u, .u, .u, .u, .u, .u, .l (l.map enc3), .d (encR v), .u, .u, .u, .u]) rfl ?_
  -- the first values
  refine q_no (et_or0 (et_test (ev_ne (b := false) (x := .list ((ser (pmade l).1 (pmade l).2 12).map encR)) (y := .list ((pfirst l 12).map encR)) (ev_of (el_cb (ea_cons (ev_call (pmade l, 12) (ea_cons (ev_var rfl) (ea_cons ev_int (ea_cons ev_int ea_nil))) ⟨by show 12 ≤ 400; decide, L.se⟩) ea_nil) rc_listT)) (ev_of (el_call (l, 12) (ea_cons (ev_var rfl) (ea_cons ev_int ea_nil)) L.fi)) (sh_list _) (sh_list _) (by rw [L.first]; exact not_refl_L _)))
    (et_or0 (et_test (EvE.to (ev_notB (a := true) (b := true) (EvE.to (ev_call1 (pmade l) (ev_var rfl) L.la.1) (by rw [L.dies]))) rfl)) (et_test (ev_ne (x := encR 0) (EvE.to (ev_call1 (pmade l) (ev_var rfl) L.la) (by rw [plast_of L.dies]; rfl)) ev_r0 rfl rfl (not_refl_R 0))))) ?_
  -- whole
  refine q_set (x := encR (rsum (pwh l))) (ev_call1 (pwh l) (ev_of (el_lc ((pwh l).map encR) (ec_list (ds := l.map enc3) (ev_var rfl)) (by simp [pwh]) (by rw [List.length_map]; omega) (prs_encR _) fun j d y hd hy => ?_)) L.wsum) rfl ?_
  · obtain ⟨s, hs, rfl⟩ := enc3_get hd
    obtain ⟨h4, rfl⟩ := enc_get' hy
    have e : cf (pwh l) j = s.1 / gapOf s := cf_get (by rw [pwh, List.getElem?_map, hs]; rfl)
    rw [e]
    have g := L.gap s (List.mem_of_getElem? hs)
    exact ⟨_, tg_tup3 rfl rfl rfl (by simp) (by simp) (by simp), ev_call2 s.1 (gapOf s) (ev_var rfl) (ev_call2 1 s.2.1 ev_r1 (ev_var rfl) ⟨sm_one, g.f⟩) ⟨g.w, g.g, g.g0⟩⟩
  -- parts
  refine g_as (G' := [.r (.list (a.map .int)), .bg (40 * i + 16 + 2) b c cells, .d (.int (0 + (i : Nat) * 1)), .d (encQ (pmade l)), .d (encR (rsum (pwh l))), .u, .u, .u, .u, .u, .l (l.map enc3), .d (encR v), .u, .u, .u, .u]) rfl ?_
  refine q_setL (xs := []) (el_lst ea_nil) rfl ?_
  refine q_forOwn (ds := l.map enc3) (i := 10) [12, 13, 14] rfl (fun j => [.r (.list (a.map .int)), .bg (40 * i + 16 + 2) b c cells, .u, .d (encQ (pmade l)), .d (encR (rsum (pwh l))), .l (((ppt l).take j).map encR), .u, .u, .u, .u, .u, .d (encR v), .u, .u, .u, .u]) (by repeat (first | exact LeG.nil | apply LeG.same | apply LeG.drop)) (fun F2 j d hd => ?_) ?_
  · obtain ⟨s, hs, rfl⟩ := enc3_get hd
    have g := L.gap s (List.mem_of_getElem? hs)
    refine ⟨_, tg_tup3 rfl rfl rfl (by simp) (by simp) (by simp), ?_⟩
    refine q_set (x := encR (gapOf s)) (ev_call2 1 s.2.1 ev_r1 (ev_var rfl) ⟨sm_one, g.f⟩) rfl ?_
    refine g_app (x := encR (s.1 * ((s.2.2 : Rat) / gapOf s + s.2.1 / (gapOf s * gapOf s)))) rfl ?_ rfl (by rw [List.length_map, List.length_take, ppt, List.length_map]; omega) ?_
    · exact ev_call2 s.1 ((s.2.2 : Rat) / gapOf s + s.2.1 / (gapOf s * gapOf s)) (ev_var rfl) (ev_call2 ((s.2.2 : Rat) / gapOf s) (s.2.1 / (gapOf s * gapOf s)) (ev_call2 (s.2.2 : Rat) (gapOf s) ((ev_tup (ea_cons (ev_var rfl) (ea_cons ev_int ea_nil))).to (enc_nat s.2.2)) (ev_var rfl) ⟨g.l, g.g, g.g0⟩)
        (ev_call2 s.2.1 (gapOf s * gapOf s) (ev_var rfl) (ev_call2 (gapOf s) (gapOf s) (ev_var rfl) (ev_var rfl) ⟨g.g, g.g⟩) ⟨g.f, g.b, by
          intro z
          rcases Rat.mul_eq_zero.mp z with z | z <;> exact g.g0 z⟩) ⟨g.a, g.c⟩) ⟨g.w, g.d⟩
    · have e : ((ppt l).take j).map encR ++ [encR (s.1 * ((s.2.2 : Rat) / gapOf s + s.2.1 / (gapOf s * gapOf s)))] = ((ppt l).take (j + 1)).map encR := by
        rw [List.take_add_one, List.map_append]
        have : (ppt l)[j]? = some (s.1 * ((s.2.2 : Rat) / gapOf s + s.2.1 / (gapOf s * gapOf s))) := by rw [ppt, List.getElem?_map, hs]; rfl
        rw [this]; rfl
      rw [e]
      exact a_le (by repeat (first | exact LeG.nil | apply LeG.same | apply LeG.drop))
  have etk : (ppt l).take (l.map enc3).length = ppt l := List.take_of_length_le (by rw [ppt, List.length_map, List.length_map]; omega)
  rw [etk]
  -- totals
  refine q_no (et_or0 (et_test (ev_ne (x := encR (rsum (pwh l))) (EvE.to (ev_call1 (pmade l) (ev_var rfl) toA) (by rw [ptotal_of L.dies, L.tot]; rfl)) (ev_var rfl) rfl rfl (not_refl_R _)))
    (EvT.to (et_and (a := !decide (rsum (pwh l) = 0)) (b := false) (et_test (ev_ne (ev_var rfl) ev_r0 rfl rfl (by rw [eqv_encR]))) fun _ => et_test (ev_ne (x := encP [rsum (ppt l), rsum (pwh l)]) (y := encP [rsum (ppt l), rsum (pwh l)]) (EvE.to (ev_call1 (pmade l) (ev_var rfl) L.me) (by rw [if_pos L.dies, L.led, ptotal_of L.dies, L.tot]; rfl)) (ev_tup (ea_cons (ev_call1 (ppt l) (ev_var rfl) L.tsum) (ea_cons (ev_var rfl) ea_nil))) (sh_encP _) (sh_encP _) (not_refl_P _))) (by simp))) ?_
  -- steady, both
  refine q_set (x := encQ (pst v)) (EvE.to (ev_call2 (true, [v]) (true, [1, -1]) (ev_of (el_lst (ea_cons (ev_var rfl) ea_nil))) (ev_of (el_lst (ea_cons ev_r1 (ea_cons ((ev_tup (ea_cons (ev_ng ev_int) (ea_cons ev_int ea_nil))).to encm1) ea_nil)))) ⟨by show QuOk (trim [v], trim [1, -1]); rw [trim_s]; exact M2.qu, by show 1 ≤ 1000; decide, by show 2 ≤ 1000; decide⟩) (by show encQ (lqt (trim [v], trim [1, -1])) = _; rw [trim_s]; rfl)) (pr_encQ _) ?_
  refine q_set (x := encQ (pbo l v)) (ev_call2 (pmade l) (pst v) (ev_var rfl) (ev_var rfl) M2.su) (pr_encQ _) ?_
  refine g_as (G' := [.r (.list (a.map .int)), .bg (40 * i + 16 + 2) b c cells, .u, .d (encQ (pmade l)), .d (encR (rsum (pwh l))), .l ((ppt l).map encR), .d (encQ (pst v)), .d (encQ (pbo l v)), .u, .u, .u, .d (encR v), .u, .u, .u, .u]) rfl ?_
  have vv : v - v = 0 := by grind
  have vv1 : v - (v + 1) ≠ 0 := by grind
  refine q_no (et_or0 (et_test (ev_ne (x := encR v) (EvE.to (ev_call1 (pbo l v) (ev_var rfl) M2.la) (by rw [M2.last]; rfl)) (ev_var rfl) rfl rfl (not_refl_R _)))
    (et_or0 (et_test (EvE.to (ev_notB (a := true) (b := true) (EvE.to (ev_call2 (pbo l v) v (ev_var rfl) (ev_var rfl) ⟨M2.la, M2.sv, fun u hu => by rw [M2.last] at hu; cases hu; exact M2.sv⟩) (by show PyData.bool (isLastB (plast (pbo l v)) v) = _; rw [M2.last]; show PyData.bool (decide (v - v = 0)) = _; rw [vv]; rfl))) rfl))
    (et_test (EvE.to (ev_notB (a := false) (b := false) (EvE.to (ev_call2 (pbo l v) (v + 1) (ev_var rfl) (ev_call2 v 1 (ev_var rfl) ev_r1 ⟨M2.sv, sm_one⟩) ⟨M2.la, M2.sv1, fun u hu => by rw [M2.last] at hu; cases hu; exact M2.sv⟩) (by show PyData.bool (isLastB (plast (pbo l v)) (v + 1)) = _; rw [M2.last]; show PyData.bool (decide (v - (v + 1) = 0)) = _; rw [decide_eq_false vv1]))) rfl)))) ?_
  have keB : KeOk (pbo l v).2 := M2.la.1
  have tv : ∀ (F' : List FE) (G' : List B), G'[11]?.bind B.data = some (encR v) → EvT K H F' G' (tTest (tOp (rNeD K) (tVar 11) (tTup (tCons (tC (.int 0)) (tCons (tC (.int 1)) tNil))))) (!decide (v = 0)) := fun F' G' e => et_test (ev_ne (ev_var e) ev_r0 rfl rfl (by rw [eqv_encR]))
  have nv : (!decide (v = 0)) = true → v ≠ 0 := fun h e => by simp [e] at h
  refine q_no (EvT.to (et_and (b := false) (tv _ _ rfl) fun h0 => et_or0 (et_test (EvE.to (ev_notN (x := .none) (EvE.to (ev_call1 (pbo l v) (ev_var rfl) (toOk_no keB (M2.dies (nv h0)))) (by rw [ptotal_no (M2.dies (nv h0))]; rfl))) rfl))
    (et_or0 (et_test (EvE.to (ev_notN (x := .none) (EvE.to (ev_call1 (pbo l v) (ev_var rfl) (meOk_no keB (M2.dies (nv h0)))) (by rw [if_neg (by rw [M2.dies (nv h0)]; decide)]))) rfl))
    (et_test (EvE.to (ev_notB (a := false) (b := false) (EvE.to (ev_call1 (pbo l v) (ev_var rfl) keB) (by rw [M2.dies (nv h0)]))) rfl)))) (by simp)) ?_
  -- sums, ticks, steps
  refine q_no (et_or0 (et_test (ev_ne (x := encR (rsum (pwh l))) (EvE.to (ev_call1 (pprod (pmade l) pSUM) (ev_call1 (pmade l) (ev_var rfl) L.pS) L.laS) (by show encO (pcell (pmade l)) = _; rw [L.cell]; rfl)) (ev_var rfl) rfl rfl (not_refl_R _)))
    (et_or0 (et_test (ev_ne (x := encR (rsum (ppt l))) (EvE.to (ev_call1 (pled (pmade l)) (ev_call1 (pmade l) (ev_var rfl) leA) toB) (by rw [L.led]; rfl)) (ev_call1 (ppt l) (ev_var rfl) L.tsum) rfl rfl (not_refl_R _)))
    (et_test (ev_ne (x := encR 0) (EvE.to (ev_call1 (pprod (pmade l) pOX) (ev_call1 (pmade l) (ev_var rfl) L.pO) L.toO) (by rw [L.totO]; rfl)) ev_r0 rfl rfl (not_refl_R _))))) ?_
  -- another
  refine qm_setCallL (i := 1) (j := 8) (T := 40 * i + 16 + 2) (n := 16) (em_bagL () rfl ea_nil trivial (by omega)) fun xs hxs pxs => ?_
  obtain ⟨l2, rfl, hl2⟩ := hxs
  have L2' := hL1 l2 hl2
  refine ⟨l2, rfl, L2'.ma, pr_encQ _, ?_⟩
  refine g_as (G' := [.r (.list (a.map .int)), .bg (40 * i + 16 + 2 + 16) b c cells, .u, .d (encQ (pmade l)), .d (encR (rsum (pwh l))), .l ((ppt l).map encR), .d (encQ (pst v)), .d (encQ (pbo l v)), .d (encQ (pmade l2)), .u, .u, .d (encR v), .u, .u, .u, .u]) rfl ?_
  have toC : ToOk (pmade l2) := (L2'.me.2 L2'.dies).2.2
  have evO : ∀ (F' : List FE) (G' : List B), G'[8]?.bind B.data = some (encQ (pmade l2)) → EvE K H F' G' (tCall (sp1 K encQ ToOk (fun q => encO (ptotal q))) [] E0 (tCons (tVar 8) tNil)) (encR (rsum (pwh l2))) := fun F' G' e => EvE.to (ev_call1 (pmade l2) (ev_var e) toC) (by rw [ptotal_of L2'.dies, L2'.tot]; rfl)
  refine q_no (et_or0 (et_test (ev_ne (x := encQ ([rsum (pwh l), rsum (pwh l2)], [rsum (pwh l2), rsum (pwh l)])) (y := encQ ([rsum (pwh l), rsum (pwh l2)], [rsum (pwh l2), rsum (pwh l)])) (EvE.to (ev_call1 [[pmade l, pmade l2], [pmade l2, pmade l]] (ev_tup (ea_cons (ev_tup (ea_cons (ev_var rfl) (ea_cons (ev_var rfl) ea_nil))) (ea_cons (ev_tup (ea_cons (ev_var rfl) (ea_cons (ev_var rfl) ea_nil))) ea_nil))) ⟨by show 2 ≤ 100; decide, fun r hr => ?_⟩) ?_) (ev_tup (ea_cons (ev_tup (ea_cons (ev_var rfl) (ea_cons (evO _ _ rfl) ea_nil))) (ea_cons (ev_tup (ea_cons (evO _ _ rfl) (ea_cons (ev_var rfl) ea_nil))) ea_nil))) (sh_encQ _) (sh_encQ _) (not_refl_Q _)))
    (et_test (EvE.to (ev_notB (a := true) (b := true) (EvE.to (ev_call1 [pmade l, pmade l2] (ev_tup (ea_cons (ev_var rfl) (ea_cons (ev_var rfl) ea_nil))) ⟨by show 2 ≤ 100; decide, fun q hq => ?_⟩) ?_)) rfl))) ?_
  · have hq : ∀ q ∈ r, q = pmade l ∨ q = pmade l2 := by
      intro q hq
      rcases List.mem_cons.mp hr with rfl | hr
      · simpa using hq
      · obtain rfl := List.mem_singleton.mp hr
        have : q = pmade l2 ∨ q = pmade l := by simpa using hq
        exact this.symm
    refine ⟨?_, fun q m => ?_⟩
    · rcases List.mem_cons.mp hr with rfl | hr
      · show 2 ≤ 100; decide
      · rw [List.mem_singleton.mp hr]; show 2 ≤ 100; decide
    · rcases hq q m with rfl | rfl
      · exact ⟨L.pS, L.laS⟩
      · exact ⟨L2'.pS, L2'.laS⟩
  · show (if (([[pmade l, pmade l2], [pmade l2, pmade l]] : List (List PQ)).any fun r => r.any fun q => !(pcell q).isSome) = true then PyData.none else PyData.tuple (([[pmade l, pmade l2], [pmade l2, pmade l]] : List (List PQ)).map outMr)) = _
    have e1 : (([[pmade l, pmade l2], [pmade l2, pmade l]] : List (List PQ)).any fun r => r.any fun q => !(pcell q).isSome) = false := by simp [L.cell, L2'.cell]
    rw [e1]
    show PyData.tuple [.tuple [encO (pcell (pmade l)), encO (pcell (pmade l2))], .tuple [encO (pcell (pmade l2)), encO (pcell (pmade l))]] = _
    rw [L.cell, L2'.cell]; rfl
  · have : q = pmade l ∨ q = pmade l2 := by simpa using hq
    rcases this with rfl | rfl
    · exact L.la.1
    · exact L2'.la.1
  · show PyData.bool (([pmade l, pmade l2] : List PQ).all fun q => pdies q.2) = _
    simp [L.dies, L2'.dies]
  -- where the level is not 0
  refine q_no (EvT.to (et_and (b := false) (tv _ _ rfl) fun h0 => et_or0 (et_test (EvE.to (ev_notN (x := .none) (EvE.to (ev_call1 [[pmade l, pbo l v]] (ev_tup (ea_cons (ev_tup (ea_cons (ev_var rfl) (ea_cons (ev_var rfl) ea_nil))) ea_nil)) ⟨by show 1 ≤ 100; decide, fun r hr => ?_⟩) ?_)) rfl))
    (et_or0 (et_test (EvE.to (ev_notB (a := false) (b := false) (EvE.to (ev_call1 [pmade l, pbo l v] (ev_tup (ea_cons (ev_var rfl) (ea_cons (ev_var rfl) ea_nil))) ⟨by show 2 ≤ 100; decide, fun q hq => ?_⟩) ?_)) rfl))
    (et_test (EvE.to (ev_notN (x := .none) (EvE.to (ev_call1 (pprod (pbo l v) pSUM) (ev_call1 (pbo l v) (ev_var rfl) (M2.sum (nv h0)).1) (M2.sum (nv h0)).2.1) (by show encO (pcell (pbo l v)) = _; rw [(M2.sum (nv h0)).2.2]; rfl))) rfl)))) (by simp)) ?_
  · obtain ⟨b1, b2, b3⟩ := M2.sum (nv h0)
    obtain rfl := List.mem_singleton.mp hr
    refine ⟨by show 2 ≤ 100; decide, fun q m => ?_⟩
    have : q = pmade l ∨ q = pbo l v := by simpa using m
    rcases this with rfl | rfl
    · exact ⟨L.pS, L.laS⟩
    · exact ⟨b1, b2⟩
  · obtain ⟨b1, b2, b3⟩ := M2.sum (nv h0)
    show (if (([[pmade l, pbo l v]] : List (List PQ)).any fun r => r.any fun q => !(pcell q).isSome) = true then PyData.none else PyData.tuple (([[pmade l, pbo l v]] : List (List PQ)).map outMr)) = _
    have e1 : (([[pmade l, pbo l v]] : List (List PQ)).any fun r => r.any fun q => !(pcell q).isSome) = true := by simp [b3]
    rw [e1]; rfl
  · have : q = pmade l ∨ q = pbo l v := by simpa using hq
    rcases this with rfl | rfl
    · exact L.la.1
    · exact keB
  · show PyData.bool (([pmade l, pbo l v] : List PQ).all fun q => pdies q.2) = _
    simp [M2.dies (nv h0)]
  -- turned
  refine q_set (x := encQ pTU) (EvE.to (ev_call2 (true, [1]) (true, [1, 1]) (ev_of (el_lst (ea_cons ev_r1 ea_nil))) (ev_of (el_lst (ea_cons ev_r1 (ea_cons ev_r1 ea_nil)))) ⟨by show QuOk (trim [1], trim [1, 1]); rw [trim_t, trim_1]; exact LT.qu, by show 1 ≤ 1000; decide, by show 2 ≤ 1000; decide⟩) (by show encQ (lqt (trim [1], trim [1, 1])) = _; rw [trim_t, trim_1]; rfl)) (pr_encQ _) ?_
  refine g_no (et_or0 (et_test (EvE.to (ev_notN (x := .none) (EvE.to (ev_call1 pTU (ev_var rfl) LT.la) (by rw [LT.last]; rfl))) rfl))
    (et_or0 (et_test (EvE.to (ev_notN (x := .none) (EvE.to (ev_call1 (psum (pmade l) pTU) (ev_call2 (pmade l) pTU (ev_var rfl) (ev_var rfl) L.suT) L.laT) (by rw [L.lastT]; rfl))) rfl))
    (et_test (EvE.to (ev_notN (x := .none) (EvE.to (ev_call1 pTU (ev_var rfl) (toOk_no LT.la.1 LT.dies)) (by rw [ptotal_no LT.dies]; rfl))) rfl)))) (g_next ?_)
  refine aft_moreB (i := 1) (T' := 40 * (i + 1)) rfl (by omega) ?_
  exact aft_le (by repeat (first | exact LeG.nil | apply LeG.same | apply LeG.drop)) (hn _ rfl)

end
end Sw
namespace Sw
open PySem PySem.Spec L2
open PyProof.Rows hiding St
abbrev spLaw (K : Fg) : Sp := spT K (fun ns : List Int => [.list (ns.map .int)]) (fun ns => ns.length ≤ 100 ∧ (∀ l, StreamOk l → Lap1 l) ∧ (∀ l v, StreamOk l → IsSmall v → Lap2 l v) ∧ LapT) (fun _ => .bool true)
abbrev hdRow : PySem.W.OpenRow := PySem.W.OpenLaw.row PySem.Challenge.rw_streamwebs_k97_whole_totals_of_falling_s
def hdFr : List Str := (["isinstance", "int", "bool", "tuple", "list", "len", "abs", "max", "min", "all", "any", "range", "enumerate", "zip"] : List Str)
def hdFn : List Df := ([("common_divisor", s_common_divisor), ("is_int", s_is_int), ("made", s_made), ("over_by", s_over_by), ("minus", s_minus), ("times", s_times), ("stepped_down", s_stepped_down), ("is_small", s_is_small), ("down_row", s_down_row), ("scaled", s_scaled), ("lowest", s_lowest), ("kept", s_kept), ("dying_row", s_dying_row), ("does_die", s_does_die), ("plus", s_plus), ("value_at", s_value_at), ("is_fraction", s_is_fraction), ("at_fraction", s_at_fraction), ("total", s_total), ("trimmed", s_trimmed), ("divided", s_divided), ("with_unit", s_with_unit), ("common", s_common), ("made_of", s_made_of), ("poly_times", s_poly_times), ("product", s_product), ("term", s_term), ("poly_plus", s_poly_plus), ("sum_of", s_sum_of), ("opposite", s_opposite)] : List Df) ++ ([("turned_sign", s_turned_sign), ("difference", s_difference), ("is_far", s_is_far), ("has_step", s_has_step), ("last_value", s_last_value), ("_law_gcd", s__law_gcd), ("_law_fr", s__law_fr), ("_law_div", s__law_div), ("_law_trim", s__law_trim), ("_law_less", s__law_less), ("_law_mul", s__law_mul), ("_law_poly_divided", s__law_poly_divided), ("_law_quotient", s__law_quotient), ("summed_up", s_summed_up), ("do_all_die", s_do_all_die), ("steady_matrix", s_steady_matrix), ("_law_add", s__law_add), ("_law_poly_times", s__law_poly_times), ("_law_poly_add", s__law_poly_add), ("_law_made", s__law_made), ("_law_take", s__law_take), ("_law_some", s__law_some), ("_law_small", s__law_small), ("_law_stream", s__law_stream), ("stepped", s_stepped), ("poly_minus", s_poly_minus), ("derived", s_derived), ("led_by_ticks", s_led_by_ticks), ("_law_sum", s__law_sum), ("mean_tick", s_mean_tick)] : List Df) ++ ([("is_last_value", s_is_last_value), ("from_least", s_from_least), ("is_count", s_is_count), ("is_integer", s_is_integer), ("check_ticks", s_check_ticks), ("values", s_values), ("_law_power", s__law_power), ("_law_first", s__law_first), ("_law_bag", s__law_bag), ("law", s_law)] : List Df)
def hdCs : List (Str × PyData) := [("NIL", (encR 0)), ("UNIT", (encR 1)), ("ONE", (encQ ([1], [1]))), ("X", (encQ ([0, 1], [1]))), ("STEP", (encP [1, -1])), ("MOST_TICKS", (.int 400))]
def hdLs : List Str := (["_wall", "StreamError", "Nothing", "is_int", "common_divisor", "is_fraction", "made", "plus", "minus", "times", "over_by", "is_integer", "is_count", "NIL", "UNIT", "trimmed", "term", "opposite", "poly_plus", "poly_minus", "scaled", "poly_times", "divided", "with_unit", "common", "value_at", "derived", "lowest", "kept", "is_small"] : List Str) ++ (["stepped_down", "down_row", "is_far", "dying_row", "does_die", "do_all_die", "ONE", "X", "made_of", "sum_of", "turned_sign", "difference", "product", "at_fraction", "STEP", "has_step", "last_value", "total", "led_by_ticks", "mean_tick", "summed_up", "stepped", "steady_matrix", "is_last_value", "MOST_TICKS", "from_least", "check_ticks", "values", "_law_bag", "_law_take"] : List Str) ++ (["_law_some", "_law_gcd", "_law_fr", "_law_add", "_law_less", "_law_mul", "_law_div", "_law_sum", "_law_small", "_law_trim", "_law_poly_times", "_law_poly_add", "_law_poly_divided", "_law_quotient", "_law_stream", "_law_made", "_law_power", "_law_first"] : List Str)
abbrev hdHk : PySem.W.Hook := hookS 4 hdFr hdFn hdCs
def hdOb (s : PySem.W.SharedT) : AlS := obsG 4 hdFr hdFn hdCs (HandSHeadRun.getT s)
theorem hdOb_eq (s : PySem.W.SharedT) : hdOb s = hdHk.obs s.abs := obsG_eq (HandSHeadRun.getT_eq s)
theorem hdRun (w : World) : HandSHeadRun.RunEq hdRow (PySem.W.view hdRow.prog [87]) hdHk hdOb 8000 hdLs w := by
  intro os
  kernel_rfl
section
variable {P : Program} {w : World} {K : Fg} {mg : Str → Option Value} {base h : Heap}
theorem hdGlb (c : SaysS hdFr hdFn hdCs K) (X : K.In h) (G : h.Ns mainGlobals mg) (sr : base.NoSeer) (tr : P.given.tree = none) : Glb P K mg base :=
  ⟨sr, tr, c.free X G (by decide +kernel), c.free X G (by decide +kernel), c.free X G (by decide +kernel), c.free X G (by decide +kernel), c.free X G (by decide +kernel), c.free X G (by decide +kernel), c.free X G (by decide +kernel), c.free X G (by decide +kernel), c.free X G (by decide +kernel), c.free X G (by decide +kernel), c.free X G (by decide +kernel), c.free X G (by decide +kernel), c.free X G (by decide +kernel), c.free X G (by decide +kernel), c.con X G 0, c.con X G 1, c.con X G 2, c.con X G 3, c.con X G 4, c.con X G 5⟩
theorem hdAll (c : SaysS hdFr hdFn hdCs K) (X : K.In h) (G : h.Ns mainGlobals mg) (M : Glb P K mg base) : Cal P w K mg base "law" ["script"] 52 (Sw.spLaw K) := by
  have c_common_divisor :=  ok_common_divisor (w := w) M (c.dfn X G 0)
  have c_is_int :=  ok_is_int (w := w) M (c.dfn X G 1)
  have c_made :=  ok_made (w := w) M (c.dfn X G 2) c_common_divisor c_is_int
  have c_over_by :=  ok_over_by (w := w) M (c.dfn X G 3) c_made
  have c_minus :=  ok_minus (w := w) M (c.dfn X G 4) c_made
  have c_times :=  ok_times (w := w) M (c.dfn X G 5) c_made
  have c_stepped_down :=  ok_stepped_down (w := w) M (c.dfn X G 6) c_over_by c_minus c_times
  have c_is_small :=  ok_is_small (w := w) M (c.dfn X G 7)
  have c_down_row :=  ok_down_row (w := w) M (c.dfn X G 8) c_stepped_down c_is_small
  have c_scaled :=  ok_scaled (w := w) M (c.dfn X G 9) c_times
  have c_lowest :=  ok_lowest (w := w) M (c.dfn X G 10)
  have c_kept :=  ok_kept (w := w) M (c.dfn X G 11) c_scaled c_over_by c_lowest
  have c_dying_row :=  ok_dying_row (w := w) M (c.dfn X G 12) c_down_row c_kept
  have c_does_die :=  ok_does_die (w := w) M (c.dfn X G 13) c_dying_row
  have c_plus :=  ok_plus (w := w) M (c.dfn X G 14) c_made
  have c_value_at :=  ok_value_at (w := w) M (c.dfn X G 15) c_plus c_times
  have c_is_fraction :=  ok_is_fraction (w := w) M (c.dfn X G 16) c_common_divisor c_is_int
  have c_at_fraction :=  ok_at_fraction (w := w) M (c.dfn X G 17) c_over_by c_value_at c_is_fraction
  have c_total :=  ok_total (w := w) M (c.dfn X G 18) c_does_die c_at_fraction
  have c_trimmed :=  ok_trimmed (w := w) M (c.dfn X G 19)
  have c_divided :=  ok_divided (w := w) M (c.dfn X G 20) c_trimmed c_plus c_times c_over_by
  have c_with_unit :=  ok_with_unit (w := w) M (c.dfn X G 21) c_scaled c_over_by
  have c_common :=  ok_common (w := w) M (c.dfn X G 22) c_with_unit c_divided
  have c_made_of :=  ok_made_of (w := w) M (c.dfn X G 23) c_scaled c_over_by c_divided c_common
  have c_poly_times :=  ok_poly_times (w := w) M (c.dfn X G 24) c_trimmed c_plus c_times
  have c_product :=  ok_product (w := w) M (c.dfn X G 25) c_made_of c_poly_times
  have c_term :=  ok_term (w := w) M (c.dfn X G 26)
  have c_poly_plus :=  ok_poly_plus (w := w) M (c.dfn X G 27) c_trimmed c_plus c_term
  have c_sum_of :=  ok_sum_of (w := w) M (c.dfn X G 28) c_made_of c_poly_times c_poly_plus
  have c_opposite :=  ok_opposite (w := w) M (c.dfn X G 29)
  have c_turned_sign :=  ok_turned_sign (w := w) M (c.dfn X G 30) c_opposite
  have c_difference :=  ok_difference (w := w) M (c.dfn X G 31) c_sum_of c_turned_sign
  have c_is_far :=  ok_is_far (w := w) M (c.dfn X G 32) c_down_row c_scaled c_over_by
  have c_has_step :=  ok_has_step (w := w) M (c.dfn X G 33) c_value_at
  have c_last_value :=  ok_last_value (w := w) M (c.dfn X G 34) c_at_fraction c_product c_difference c_is_far c_divided c_has_step c_kept c_does_die
  have c__law_gcd :=  ok__law_gcd (w := w) M (c.dfn X G 35)
  have c__law_fr :=  ok__law_fr (w := w) M (c.dfn X G 36) c__law_gcd
  have c__law_div :=  ok__law_div (w := w) M (c.dfn X G 37) c__law_fr
  have c__law_trim :=  ok__law_trim (w := w) M (c.dfn X G 38)
  have c__law_less :=  ok__law_less (w := w) M (c.dfn X G 39) c__law_fr
  have c__law_mul :=  ok__law_mul (w := w) M (c.dfn X G 40) c__law_fr
  have c__law_poly_divided :=  ok__law_poly_divided (w := w) M (c.dfn X G 41) c__law_trim c__law_less c__law_mul c__law_div
  have c__law_quotient :=  ok__law_quotient (w := w) M (c.dfn X G 42) c__law_div c__law_poly_divided c__law_trim
  have c_summed_up :=  ok_summed_up (w := w) M (c.dfn X G 43) c_product c_made_of
  have c_do_all_die :=  ok_do_all_die (w := w) M (c.dfn X G 44) c_does_die
  have c_steady_matrix :=  ok_steady_matrix (w := w) M (c.dfn X G 45) c_last_value c_summed_up
  have c__law_add :=  ok__law_add (w := w) M (c.dfn X G 46) c__law_fr
  have c__law_poly_times :=  ok__law_poly_times (w := w) M (c.dfn X G 47) c__law_trim c__law_add c__law_mul
  have c__law_poly_add :=  ok__law_poly_add (w := w) M (c.dfn X G 48) c__law_trim c__law_add
  have c__law_made :=  ok__law_made (w := w) M (c.dfn X G 49) c__law_quotient c__law_poly_times c__law_poly_add c__law_less
  have c__law_take :=  ok__law_take (w := w) M (c.dfn X G 50)
  have c__law_some :=  ok__law_some (w := w) M (c.dfn X G 51) c__law_take
  have c__law_small :=  ok__law_small (w := w) M (c.dfn X G 52) c__law_fr c__law_some c__law_take
  have c__law_stream :=  ok__law_stream (w := w) M (c.dfn X G 53) c__law_take c__law_fr c__law_small
  have c_stepped :=  ok_stepped (w := w) M (c.dfn X G 54) c_product c_difference
  have c_poly_minus :=  ok_poly_minus (w := w) M (c.dfn X G 55) c_poly_plus c_opposite
  have c_derived :=  ok_derived (w := w) M (c.dfn X G 56) c_trimmed c_times
  have c_led_by_ticks :=  ok_led_by_ticks (w := w) M (c.dfn X G 57) c_product c_made_of c_poly_times c_poly_minus c_derived
  have c__law_sum :=  ok__law_sum (w := w) M (c.dfn X G 58) c__law_add
  have c_mean_tick :=  ok_mean_tick (w := w) M (c.dfn X G 59) c_total c_led_by_ticks c_does_die
  have c_is_last_value :=  ok_is_last_value (w := w) M (c.dfn X G 60) c_minus c_last_value
  have c_from_least :=  ok_from_least (w := w) M (c.dfn X G 61) c_over_by c_minus c_times c_term c_lowest
  have c_is_count :=  ok_is_count (w := w) M (c.dfn X G 62) c_is_int
  have c_is_integer :=  ok_is_integer (w := w) M (c.dfn X G 63) c_is_int
  have c_check_ticks :=  ok_check_ticks (w := w) M (c.dfn X G 64) c_is_count c_is_integer
  have c_values :=  ok_values (w := w) M (c.dfn X G 65) c_from_least c_lowest c_check_ticks
  have c__law_power :=  ok__law_power (w := w) M (c.dfn X G 66) c__law_mul
  have c__law_first :=  ok__law_first (w := w) M (c.dfn X G 67) c__law_sum c__law_mul c__law_power
  have c__law_bag :=  ok__law_bag (w := w) M (c.dfn X G 68)
  exact ok_law (w := w) M (c.dfn X G 69) c_total c_last_value c_sum_of c__law_quotient c_summed_up c_do_all_die c_steady_matrix c__law_made c__law_stream c_stepped c_led_by_ticks c__law_sum c_does_die c_mean_tick c_is_last_value c__law_add c__law_mul c__law_div c__law_less c_values c__law_first c__law_small c__law_bag
end
end Sw
open PySem PySem.W PySem.Calls PyProof.Rows
set_option maxHeartbeats 0 in
theorem PySem.Challenge.cw_streamwebs_k97_whole_totals_of_falling_s_holds : PySem.Challenge.rw_streamwebs_k97_whole_totals_of_falling_s.Holds := by
  w_on; o_law
  refine HandSHeadRun.head_any (r := Sw.hdRow) (q := view Sw.hdRow.prog [87]) (H := Sw.hdHk) (ob := Sw.hdOb) (M := 8000) (loose := Sw.hdLs) (d := HandSHeadRun.topDef Sw.hdRow.prog 87) (kwd := []) Sw.hdOb_eq
    (by kernel_rfl) (fun s => by kernel_rfl) Sw.hdRun (by kernel_rfl) (by kernel_rfl) (by kernel_rfl) (by rfl) (by first | assumption | decide +kernel) (by decide +kernel) ⟨rfl, rfl, rfl, rfl, rfl, by decide +kernel⟩ ?hw ?hc
  case hw => w_witness2
  case hc =>
    refine Sw.walk_S (l := PySem.Challenge.rw_streamwebs_k97_whole_totals_of_falling_s) (n := 63) (k := 52) (p := "script") (sp := fun K => Sw.spLaw K) rfl (by decide) (by kernel_rfl) ⟨rfl, by decide, by decide⟩ (by kernel_rfl) (fun w mg h Y G => ?_) fun K H a ns hl hS => ?_
    · obtain ⟨K, X, c⟩ := Y
      refine ⟨K, X, fun base XB GB sr => ?_⟩
      have e : (HandSHeadRun.topDef Sw.hdRow.prog 87).name = ("law" : PySem.Str) := by kernel_rfl
      rw [e]
      exact Sw.hdAll c XB GB (Sw.hdGlb c XB GB sr (by rfl))
    · exact ⟨ns, Sw.script_dp hS, ⟨by omega, fun l => Sw.lap1, fun l v hl hv => Sw.lap2 hl hv, Sw.lapT⟩, fun v H' e d => Sw.dp_true d⟩
