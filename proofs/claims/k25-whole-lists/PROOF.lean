import PyProof.Rows.All
import Wide.All
import OpenK.AllK
import Wide.FinOn
import HandS.ForMost
import HandS.Conv
import HandS.Wide
import HandS.TupAny
import HandS.IsInst
import HandS.Zip
import KE.SortData
import HandS.Lambda
import HandS.SetFor
import HandS.ForExc
import HandS.ExcInit
import HandS.ExcOwn
import HandS.WordsExc
import HandS.ExcCtx
import HandS.HotCalls
import KE.KExcSuper
import HandS.ExcIs
import HandS.Text
import HandS.Deep
import HandS.CallLocal
import HandS.EndTab
import KE.KExcLine
import KE.RegKSuper
import PySem.Challenge.RW_parkedrows_k25_whole_lists_and_counts_of
-- D0
set_option Elab.async false
set_option linter.all false
set_option maxRecDepth 100000
set_option maxHeartbeats 2000000
/-! Own layer, part 0: pure values as data (PyData), the heap hidden. -/
namespace DL
open PySem L2

abbrev Kf := PySem.W.Frag
def Ex (H H' : Hp) : Prop := ∀ a o, H a = some o → H' a = some o
theorem Ex.refl (H : Hp) : Ex H H := fun _ _ h => h
theorem Ex.trans {H H1 H2 : Hp} (a : Ex H H1) (b : Ex H1 H2) : Ex H H2 := fun x o h => b x o (a x o h)
theorem Ex.free {G H : Hp} {p : Addr} (e : Ex G H) (h : H p = none) : G p = none := by
  cases q : G p with
  | none => rfl
  | some o => rw [e p o q] at h; cases h
theorem Ex.new {H : Hp} {p : Addr} {o : HO} (h : H p = none) : Ex H (upd H p o) := fun a u e => by
  rw [upd_ne (ne_of_none e h)]; exact e
theorem Ex.both {G H : Hp} {p : Addr} {o : HO} (e : Ex G H) (h : H p = none) : Ex (upd G p o) (upd H p o) := fun a u q => by
  by_cases ha : a = p
  · subst ha; rw [upd_same] at q ⊢; exact q
  · rw [upd_ne ha] at q ⊢; exact e a u q
theorem ex_rd {H H' : Hp} {a : Addr} {u : HO} (e : Ex H H') (h : Rd H a u) : Rd H' a u := by
  rcases h with h | ⟨o, h⟩
  · exact Or.inl (e a _ h)
  · exact Or.inr ⟨o, e a _ h⟩
theorem ex_l {K : Kf} {H H' : Hp} {a : Addr} {xs : List V} (e : Ex H H') (h : SqL K H a xs) : SqL K H' a xs := by
  rcases h with h | h
  · exact Or.inl (ex_rd e h)
  · exact Or.inr h
theorem ex_t {K : Kf} {H H' : Hp} {a : Addr} {xs : List V} (e : Ex H H') (h : SqT K H a xs) : SqT K H' a xs := by
  rcases h with h | h
  · exact Or.inl (ex_rd e h)
  · exact Or.inr h
mutual
theorem dp_ex {K : Kf} {G G' : Hp} (e : Ex G G') : ∀ (d : PyData) (v : V), Dp K G v d → Dp K G' v d
  | .none, _, h => by cases h; exact .non
  | .bool b, _, h => by cases h; exact .bl b
  | .int i, _, h => by cases h; exact .int i
  | .str x, _, h => by cases h; exact .str x
  | .list ds, _, h => by cases h with | lst hs ha => exact .lst (ex_l e hs) (dpa_ex e ds _ ha)
  | .tuple ds, _, h => by cases h with | tup hs ha => exact .tup (ex_t e hs) (dpa_ex e ds _ ha)
  | .dict _, _, h => by cases h
theorem dpa_ex {K : Kf} {G G' : Hp} (e : Ex G G') : ∀ (ds : List PyData) (vs : List V), DpAll K G vs ds → DpAll K G' vs ds
  | [], _, h => by cases h; exact .nil
  | d :: ds, _, h => by cases h with | cons h1 h2 => exact .cons (dp_ex e d _ h1) (dpa_ex e ds _ h2)
end
theorem dpa_len {K : Kf} {G : Hp} : ∀ {ds : List PyData} {vs : List V}, DpAll K G vs ds → vs.length = ds.length
  | [], _, h => by cases h; rfl
  | _ :: _, _, h => by cases h with | cons h1 h2 => rw [List.length_cons, List.length_cons, dpa_len h2]
theorem dpa_get {K : Kf} {G : Hp} : ∀ {ds : List PyData} {vs : List V} {i : Nat} {d : PyData}, DpAll K G vs ds → ds[i]? = some d → ∃ v, vs[i]? = some v ∧ Dp K G v d
  | [], _, _, _, h, e => by simp at e
  | d :: ds, _, 0, x, h, e => by
    cases h with | cons h1 h2 =>
    simp at e; subst e; exact ⟨_, rfl, h1⟩
  | d :: ds, _, i + 1, x, h, e => by
    cases h with | cons h1 h2 =>
    obtain ⟨v, q, r⟩ := dpa_get (i := i) h2 (by simpa using e)
    exact ⟨v, by simpa using q, r⟩
theorem dpa_app {K : Kf} {G : Hp} : ∀ {ds es : List PyData} {vs us : List V}, DpAll K G vs ds → DpAll K G us es → DpAll K G (vs ++ us) (ds ++ es)
  | [], _, _, _, h, k => by cases h; exact k
  | _ :: _, _, _, _, h, k => by cases h with | cons h1 h2 => exact .cons h1 (dpa_app h2 k)
theorem dpa_take {K : Kf} {G : Hp} : ∀ (n : Nat) {ds : List PyData} {vs : List V}, DpAll K G vs ds → DpAll K G (vs.take n) (ds.take n)
  | 0, _, _, _ => .nil
  | _ + 1, [], _, h => by cases h; exact .nil
  | n + 1, _ :: _, _, h => by cases h with | cons h1 h2 => exact .cons h1 (dpa_take n h2)
theorem dpa_drop {K : Kf} {G : Hp} : ∀ (n : Nat) {ds : List PyData} {vs : List V}, DpAll K G vs ds → DpAll K G (vs.drop n) (ds.drop n)
  | 0, _, _, h => h
  | _ + 1, [], _, h => by cases h; exact .nil
  | n + 1, _ :: _, _, h => by cases h with | cons h1 h2 => exact dpa_drop n h2
theorem dpa_of {K : Kf} {G : Hp} : ∀ {ds : List PyData} {vs : List V}, vs.length = ds.length → (∀ (i : Nat) (v : V) (d : PyData), vs[i]? = some v → ds[i]? = some d → Dp K G v d) → DpAll K G vs ds
  | [], [], _, _ => .nil
  | d :: ds, v :: vs, hl, h => .cons (h 0 v d rfl rfl) (dpa_of (by simpa using hl) fun i a b e1 e2 => h (i + 1) a b (by simpa using e1) (by simpa using e2))

/-! ### what a slot holds -/
inductive Sl where
  | no
  | d (x : PyData)
  | r (v : V)
  | e (v : V) (d : Option Addr)
/-- an exception's dict, if it has one, is known -/
def XdOk (d : Option Addr) (H : Hp) : Prop := match d with
  | none => True
  | some a => ∃ fs, H a = some (.xd fs)
theorem XdOk.ex {d : Option Addr} {G G' : Hp} (e : Ex G G') (h : XdOk d G) : XdOk d G' := by
  cases d with
  | none => trivial
  | some a => obtain ⟨fs, q⟩ := h; exact ⟨fs, e _ _ q⟩
abbrev Es := List Sl
def Sk (K : Kf) (G : Hp) (o : Option V) : Sl → Prop
  | .no => True
  | .d x => ∃ v, o = some v ∧ Dp K G v x
  | .r u => o = some u
  | .e u d => o = some u ∧ XdOk d G
theorem Sk.ex {K : Kf} {G G' : Hp} {o : Option V} {x : Sl} (e : Ex G G') (h : Sk K G o x) : Sk K G' o x := by
  cases x with
  | no => trivial
  | d x => obtain ⟨v, q, p⟩ := h; exact ⟨v, q, dp_ex e _ _ p⟩
  | r u => exact h
  | e u d => exact ⟨h.1, h.2.ex e⟩
theorem Sk.dp {K : Kf} {G : Hp} {v : V} {x : PyData} (h : Sk K G (some v) (.d x)) : Dp K G v x := by
  obtain ⟨u, q, p⟩ := h; cases q; exact p
theorem Sk.of {K : Kf} {G : Hp} {v : V} {x : PyData} (h : Dp K G v x) : Sk K G (some v) (.d x) := ⟨v, rfl, h⟩
def Sd (K : Kf) (G : Hp) (σ : St) (es : Es) : Prop := σ.length = es.length ∧ ∀ i, Sk K G (σ.getD i none) (es.getD i .no)
theorem Sd.ex {K : Kf} {G G' : Hp} {σ : St} {es : Es} (e : Ex G G') (h : Sd K G σ es) : Sd K G' σ es := ⟨h.1, fun i => (h.2 i).ex e⟩
theorem getD_set {α : Type} (l : List α) (i j : Nat) (a b : α) : (l.set i a).getD j b = if i = j ∧ i < l.length then a else l.getD j b := by
  rw [List.getD_eq_getElem?_getD, List.getD_eq_getElem?_getD, List.getElem?_set]
  by_cases h : i = j
  · subst h
    by_cases h2 : i < l.length
    · simp [h2]
    · simp [h2]
  · simp [h]
theorem Sd.set {K : Kf} {G : Hp} {σ : St} {es : Es} {i : Nat} {v : V} {x : Sl} (h : Sd K G σ es) (hx : Sk K G (some v) x) : Sd K G (σ.set i (some v)) (es.set i x) := by
  refine ⟨by rw [List.length_set, List.length_set]; exact h.1, fun j => ?_⟩
  rw [getD_set, getD_set, h.1]
  split
  · exact hx
  · exact h.2 j
theorem Sd.at {K : Kf} {G : Hp} {σ : St} {es : Es} {i : Nat} {x : Sl} (h : Sd K G σ es) (e : es[i]? = some x) : Sk K G (σ.getD i none) x := by
  have := h.2 i
  rw [List.getD_eq_getElem?_getD (l := es), e] at this
  exact this
/-- es' tells all that es tells -/
def Le (es es' : Es) : Prop := es'.length = es.length ∧ ∀ i, es.getD i .no = .no ∨ es'.getD i .no = es.getD i .no
theorem Le.refl (es : Es) : Le es es := ⟨rfl, fun _ => .inr rfl⟩
theorem Le.trans {a b c : Es} (h : Le a b) (k : Le b c) : Le a c := ⟨k.1.trans h.1, fun i => by
  rcases h.2 i with q | q
  · exact .inl q
  · rcases k.2 i with r | r
    · rw [r] at q; exact .inl q.symm
    · exact .inr (r.trans q)⟩
theorem Le.nil : Le [] [] := Le.refl _
theorem Le.no {x : Sl} {a b : Es} (h : Le a b) : Le (.no :: a) (x :: b) := ⟨by rw [List.length_cons, List.length_cons, h.1], fun i => by
  cases i with
  | zero => exact .inl rfl
  | succ i => exact h.2 i⟩
theorem Le.eq {x : Sl} {a b : Es} (h : Le a b) : Le (x :: a) (x :: b) := ⟨by rw [List.length_cons, List.length_cons, h.1], fun i => by
  cases i with
  | zero => exact .inr rfl
  | succ i => exact h.2 i⟩
theorem Sd.le {K : Kf} {G : Hp} {σ : St} {es es' : Es} (h : Sd K G σ es') (l : Le es es') : Sd K G σ es := ⟨h.1.trans l.1, fun i => by
  rcases l.2 i with q | q
  · rw [q]; trivial
  · rw [← q]; exact h.2 i⟩
inductive SkA (K : Kf) (G : Hp) : List V → List Sl → Prop
  | nil : SkA K G [] []
  | cons {v : V} {vs : List V} {x : Sl} {xs : List Sl} : Sk K G (some v) x → SkA K G vs xs → SkA K G (v :: vs) (x :: xs)
theorem SkA.ex {K : Kf} {G G' : Hp} (e : Ex G G') : ∀ {vs : List V} {xs : List Sl}, SkA K G vs xs → SkA K G' vs xs
  | _, _, .nil => .nil
  | _, _, .cons a b => .cons (a.ex e) (b.ex e)
theorem SkA.len {K : Kf} {G : Hp} : ∀ {vs : List V} {xs : List Sl}, SkA K G vs xs → vs.length = xs.length
  | _, _, .nil => rfl
  | _, _, .cons a b => by rw [List.length_cons, List.length_cons, b.len]
theorem SkA.dpa {K : Kf} {G : Hp} : ∀ {ds : List PyData} {vs : List V}, SkA K G vs (ds.map .d) → DpAll K G vs ds
  | [], _, h => by cases h; exact .nil
  | _ :: _, _, h => by cases h with | cons a b => exact .cons a.dp b.dpa

/-! ### a pure step: data may come, what is no data stands -/
structure Gn (G H G' H' : Hp) : Prop where
  g : Ex G G'
  s : Ex G' H'
  k : ∀ b o, H b = some o → G b = none → H' b = some o ∧ G' b = none
theorem Gn.refl {G H : Hp} (e : Ex G H) : Gn G H G H := ⟨Ex.refl _, e, fun _ _ h n => ⟨h, n⟩⟩
theorem Gn.trans {G H G1 H1 G2 H2 : Hp} (a : Gn G H G1 H1) (b : Gn G1 H1 G2 H2) : Gn G H G2 H2 := ⟨a.g.trans b.g, b.s, fun c o h n => by
  obtain ⟨h1, n1⟩ := a.k c o h n
  exact b.k c o h1 n1⟩
theorem Gn.hh {G H G' H' : Hp} (e : Ex G H) (a : Gn G H G' H') : Ex H H' := fun b o h => by
  cases q : G b with
  | none => exact (a.k b o h q).1
  | some u =>
    have h2 := e b u q
    rw [h] at h2; cases h2
    exact a.s b o (a.g b o q)
theorem Gn.new {G H : Hp} {p : Addr} {o : HO} (e : Ex G H) (h : H p = none) : Gn G H (upd G p o) (upd H p o) := ⟨Ex.new (e.free h), e.both h, fun b u q n => by
  have hb : b ≠ p := ne_of_none q h
  rw [upd_ne hb, upd_ne hb]; exact ⟨q, n⟩⟩

/-! ### evaluation -/
def Ev (K : Kf) (te : TE) (es : Es) (x : Sl) : Prop := ∀ σ G H, Ex G H → Sd K G σ es → ∀ Q : VK, (∀ v G' H', Gn G H G' H' → Sk K G' (some v) x → Q v H') → te σ H Q
abbrev EvD (K : Kf) (te : TE) (es : Es) (x : PyData) : Prop := Ev K te es (.d x)
def EvT (K : Kf) (tt : TT) (es : Es) (b : Bool) : Prop := ∀ σ G H, Ex G H → Sd K G σ es → ∀ Q : Bool → Hp → Prop, (∀ G' H', Gn G H G' H' → Q b H') → tt σ H Q
def EvA (K : Kf) (ta : TA) (es : Es) (xs : List Sl) : Prop := ∀ σ G H, Ex G H → Sd K G σ es → ∀ Q : List V → Hp → Prop, (∀ vs G' H', Gn G H G' H' → SkA K G' vs xs → Q vs H') → ta σ H Q
def EvO (K : Kf) (to : TO) (es : Es) (o : Option Int) : Prop := ∀ σ G H, Ex G H → Sd K G σ es → ∀ Q : Option Int → Hp → Prop, (∀ G' H', Gn G H G' H' → Q o H') → to σ H Q
/-- an operation on values -/
def RV (K : Kf) (r : R2) (x y z : Sl) : Prop := ∀ G H v u, Ex G H → Sk K G (some v) x → Sk K G (some u) y → ∀ Q : VK, (∀ w G' H', Gn G H G' H' → Sk K G' (some w) z → Q w H') → r v u H Q
def RU (K : Kf) (r : V → Hp → VK → Prop) (x z : Sl) : Prop := ∀ G H v, Ex G H → Sk K G (some v) x → ∀ Q : VK, (∀ w G' H', Gn G H G' H' → Sk K G' (some w) z → Q w H') → r v H Q
def RC (K : Kf) (r : List V → Hp → VK → Prop) (xs : List Sl) (z : Sl) : Prop := ∀ G H vs, Ex G H → SkA K G vs xs → ∀ Q : VK, (∀ w G' H', Gn G H G' H' → Sk K G' (some w) z → Q w H') → r vs H Q

section
variable {K : Kf} {es es' : Es} {ta tb te tc : TE} {t u : TT} {x y z : Sl} {r : R2} {d e : PyData}
theorem Ev.le (h : Ev K te es x) (l : Le es es') : Ev K te es' x := fun σ G H e s Q q => h σ G H e (s.le l) Q q
theorem Ev.is {x' : Sl} (h : Ev K te es x) (e : x = x') : Ev K te es x' := e ▸ h
theorem ev_var {i : Nat} (h : es[i]? = some x) (hx : x ≠ .no := by intro z; cases z) : Ev K (tVar i) es x := fun σ G H e s Q q => by
  have := s.at h
  cases hv : σ.getD i none with
  | none =>
    rw [hv] at this
    cases x with
    | no => exact absurd rfl hx
    | d x => obtain ⟨v, z, _⟩ := this; cases z
    | r u => cases (show (none : Option V) = some u from this)
    | e u d => cases (show (none : Option V) = some u from this.1)
  | some v =>
    rw [hv] at this
    refine ⟨v, ?_, q v G H (Gn.refl e) this⟩
    rw [List.getD_eq_getElem?_getD] at hv
    cases h2 : σ[i]? with
    | none => rw [h2] at hv; cases hv
    | some w => rw [h2] at hv; exact congrArg some hv
theorem ev_r {v : V} : Ev K (tC v) es (.r v) := fun σ G H e s Q q => q v G H (Gn.refl e) rfl
theorem ev_int {i : Int} : EvD K (tC (.int i)) es (.int i) := fun σ G H e s Q q => q _ G H (Gn.refl e) (.of (.int i))
theorem ev_bl {i : Bool} : EvD K (tC (.bl i)) es (.bool i) := fun σ G H e s Q q => q _ G H (Gn.refl e) (.of (.bl i))
theorem ev_str {i : Str} : EvD K (tC (.str i)) es (.str i) := fun σ G H e s Q q => q _ G H (Gn.refl e) (.of (.str i))
theorem ev_non : EvD K (tC .non) es .none := fun σ G H e s Q q => q _ G H (Gn.refl e) (.of .non)
theorem ev_op (ha : Ev K ta es x) (hb : Ev K tb es y) (hr : RV K r x y z) : Ev K (tOp r ta tb) es z := fun σ G H e s Q q =>
  ha σ G H e s _ fun v G1 H1 g1 k1 => hb σ G1 H1 g1.s (s.ex g1.g) _ fun w G2 H2 g2 k2 => hr G2 H2 v w g2.s (k1.ex g2.g) k2 Q fun o G3 H3 g3 k3 => q o G3 H3 (g1.trans (g2.trans g3)) k3
theorem ev_un {r : V → Hp → VK → Prop} (ha : Ev K ta es x) (hr : RU K r x z) : Ev K (tUn r ta) es z := fun σ G H e s Q q =>
  ha σ G H e s _ fun v G1 H1 g1 k1 => hr G1 H1 v g1.s k1 Q fun o G3 H3 g3 k3 => q o G3 H3 (g1.trans g3) k3
theorem ev_cb {ta : TA} {xs : List Sl} {r : List V → Hp → VK → Prop} (ha : EvA K ta es xs) (hr : RC K r xs z) : Ev K (tCB r ta) es z := fun σ G H e s Q q =>
  ha σ G H e s _ fun v G1 H1 g1 k1 => hr G1 H1 v g1.s k1 Q fun o G3 H3 g3 k3 => q o G3 H3 (g1.trans g3) k3
theorem ea_nil : EvA K tNil es [] := fun σ G H e s Q q => q [] G H (Gn.refl e) .nil
theorem ea_cons {tr : TA} {xs : List Sl} (h : Ev K ta es x) (hr : EvA K tr es xs) : EvA K (tCons ta tr) es (x :: xs) := fun σ G H e s Q q =>
  h σ G H e s _ fun v G1 H1 g1 k1 => hr σ G1 H1 g1.s (s.ex g1.g) _ fun vs G2 H2 g2 k2 => q (v :: vs) G2 H2 (g1.trans g2) (.cons (k1.ex g2.g) k2)
theorem ea_one (h : Ev K ta es x) : EvA K (tCons ta tNil) es [x] := ea_cons h ea_nil
theorem ea_two (h : Ev K ta es x) (h2 : Ev K tb es y) : EvA K (tCons ta (tCons tb tNil)) es [x, y] := ea_cons h (ea_cons h2 ea_nil)
theorem ea_three (h : Ev K ta es x) (h2 : Ev K tb es y) (h3 : Ev K tc es z) : EvA K (tCons ta (tCons tb (tCons tc tNil))) es [x, y, z] := ea_cons h (ea_cons h2 (ea_cons h3 ea_nil))
theorem ev_tup {ta : TA} {ds : List PyData} (h : EvA K ta es (ds.map .d)) (hl : ds.length ≤ 100000 := by decide) : EvD K (tTup ta) es (.tuple ds) := fun σ G H e s Q q =>
  h σ G H e s _ fun vs G1 H1 g1 k1 => by
    have h2 := k1.dpa
    have hz : vs.length ≤ sizeLine := by rw [dpa_len h2, sizeLine_eq]; omega
    refine ⟨hz, fun p hp => q _ _ _ (g1.trans (Gn.new g1.s hp)) (.of (.tup (SqT.of upd_same) (dpa_ex (Ex.new (g1.s.free hp)) _ _ h2)))⟩
theorem ev_lst {ta : TA} {ds : List PyData} (h : EvA K ta es (ds.map .d)) (hl : ds.length ≤ 100000 := by decide) : EvD K (tLst ta) es (.list ds) := fun σ G H e s Q q =>
  h σ G H e s _ fun vs G1 H1 g1 k1 => by
    have h2 := k1.dpa
    have hz : vs.length ≤ sizeLine := by rw [dpa_len h2, sizeLine_eq]; omega
    refine ⟨hz, fun p hp => q _ _ _ (g1.trans (Gn.new g1.s hp)) (.of (.lst (SqL.of upd_same) (dpa_ex (Ex.new (g1.s.free hp)) _ _ h2)))⟩

/-! ### operations -/
theorem dp_int {G : Hp} {v : V} {i : Int} (h : Sk K G (some v) (.d (.int i))) : v = .int i := by cases h.dp; rfl
theorem dp_bl {G : Hp} {v : V} {i : Bool} (h : Sk K G (some v) (.d (.bool i))) : v = .bl i := by cases h.dp; rfl
theorem dp_str {G : Hp} {v : V} {i : Str} (h : Sk K G (some v) (.d (.str i))) : v = .str i := by cases h.dp; rfl
theorem dp_non {G : Hp} {v : V} (h : Sk K G (some v) (.d .none)) : v = .non := by cases h.dp; rfl
theorem dp_lst {G : Hp} {v : V} {ds : List PyData} (h : Sk K G (some v) (.d (.list ds))) : ∃ a xs, v = .ref a ∧ SqL K G a xs ∧ DpAll K G xs ds := by cases h.dp with | lst h1 h2 => exact ⟨_, _, rfl, h1, h2⟩
theorem dp_tup {G : Hp} {v : V} {ds : List PyData} (h : Sk K G (some v) (.d (.tuple ds))) : ∃ a xs, v = .ref a ∧ SqT K G a xs ∧ DpAll K G xs ds := by cases h.dp with | tup h1 h2 => exact ⟨_, _, rfl, h1, h2⟩
/-- a value that is flat data -/
def vD : V → Option PyData
  | .non => some .none | .bl b => some (.bool b) | .int i => some (.int i) | .str x => some (.str x) | _ => none
theorem dp_vD {G : Hp} {v : V} {d : PyData} (h : vD v = some d) : Dp K G v d := by
  cases v <;> simp [vD] at h <;> subst h <;> constructor
theorem rv_I0 {g : Int → Int → V} {i j : Int} (h : vD (g i j) = some d) : RV K (rI0 g) (.d (.int i)) (.d (.int j)) (.d d) := fun G H v u e k1 k2 Q q => by
  rw [dp_int k1, dp_int k2]
  exact ⟨i, j, rfl, rfl, q _ G H (Gn.refl e) (.of (dp_vD h))⟩
theorem rv_I {C : Int → Int → Prop} {g : Int → Int → V} {i j : Int} (hc : C i j) (h : vD (g i j) = some d) : RV K (rI C g) (.d (.int i)) (.d (.int j)) (.d d) := fun G H v u e k1 k2 Q q => by
  rw [dp_int k1, dp_int k2]
  exact ⟨i, j, rfl, rfl, hc, q _ G H (Gn.refl e) (.of (dp_vD h))⟩
theorem ru_I {g : Int → V} {i : Int} (h : vD (g i) = some d) : RU K (rU g) (.d (.int i)) (.d d) := fun G H v e k1 Q q => by
  rw [dp_int k1]
  exact ⟨i, rfl, q _ G H (Gn.refl e) (.of (dp_vD h))⟩
theorem rv_eqD (h1 : SeqAt.shaped d = true) (h2 : SeqAt.shaped e = true) : RV K (rEqD K) (.d d) (.d e) (.d (.bool (PyData.eqv d e))) := fun G H v u ex k1 k2 Q q =>
  ⟨d, e, dp_ex ex _ _ k1.dp, dp_ex ex _ _ k2.dp, h1, h2, q _ G H (Gn.refl ex) (.of (.bl _))⟩
theorem rv_neD (h1 : SeqAt.shaped d = true) (h2 : SeqAt.shaped e = true) : RV K (rNeD K) (.d d) (.d e) (.d (.bool (!PyData.eqv d e))) := fun G H v u ex k1 k2 Q q =>
  ⟨d, e, dp_ex ex _ _ k1.dp, dp_ex ex _ _ k2.dp, h1, h2, q _ G H (Gn.refl ex) (.of (.bl _))⟩
theorem rv_eqI {i j : Int} : RV K rEq (.d (.int i)) (.d (.int j)) (.d (.bool (decide (i = j)))) := fun G H v u ex k1 k2 Q q => by
  rw [dp_int k1, dp_int k2]
  refine ⟨rfl, ?_⟩
  rw [dec_int]
  exact q _ G H (Gn.refl ex) (.of (by rw [Bool.beq_eq_decide_eq]; exact .bl _))
theorem rv_neI {i j : Int} : RV K rNe (.d (.int i)) (.d (.int j)) (.d (.bool (!decide (i = j)))) := fun G H v u ex k1 k2 Q q => by
  rw [dp_int k1, dp_int k2]
  refine ⟨rfl, ?_⟩
  rw [dec_int]
  exact q _ G H (Gn.refl ex) (.of (by rw [Bool.beq_eq_decide_eq]; exact .bl _))
/-- the item at an index of any sign -/
theorem atI_dp {G : Hp} {ds : List PyData} {xs : List V} {i : Int} (h : DpAll K G xs ds) (ha : atI ds i = some d) : ∃ v, atI xs i = some v ∧ Dp K G v d := by
  unfold atI at ha ⊢
  rw [dpa_len h]
  cases hj : ixN ds.length i with
  | none => rw [hj] at ha; cases ha
  | some j =>
    rw [hj] at ha
    exact dpa_get h ha
theorem rv_ixL {ds : List PyData} {i : Int} (ha : atI ds i = some d) : RV K (rIxL K) (.d (.list ds)) (.d (.int i)) (.d d) := fun G H v u ex k1 k2 Q q => by
  rw [dp_int k2]
  obtain ⟨a, xs, rfl, h1, h2⟩ := dp_lst k1
  obtain ⟨w, e1, e2⟩ := atI_dp h2 ha
  exact ⟨a, xs, i, w, rfl, rfl, ex_l ex h1, e1, q _ G H (Gn.refl ex) (.of e2)⟩
theorem rv_ixT {ds : List PyData} {i : Int} (ha : atI ds i = some d) : RV K (rIxT K) (.d (.tuple ds)) (.d (.int i)) (.d d) := fun G H v u ex k1 k2 Q q => by
  rw [dp_int k2]
  obtain ⟨a, xs, rfl, h1, h2⟩ := dp_tup k1
  obtain ⟨w, e1, e2⟩ := atI_dp h2 ha
  exact ⟨a, xs, i, w, rfl, rfl, ex_t ex h1, e1, q _ G H (Gn.refl ex) (.of e2)⟩
/-- list + list -/
theorem rv_cat {ds fs : List PyData} (hl : ds.length + fs.length ≤ 100000) : RV K (rCat) (.d (.list ds)) (.d (.list fs)) (.d (.list (ds ++ fs))) → True := fun _ => trivial
/-- tuple + tuple -/
theorem rv_catT {ds fs : List PyData} (hl : ds.length + fs.length ≤ 100000) : RV K (rCatA K) (.d (.tuple ds)) (.d (.tuple fs)) (.d (.tuple (ds ++ fs))) := fun G H v u ex k1 k2 Q q => by
  obtain ⟨a, xs, rfl, h1, h2⟩ := dp_tup k1
  obtain ⟨b, ys, rfl, h3, h4⟩ := dp_tup k2
  have l1 := dpa_len h2
  have l2 := dpa_len h4
  refine ⟨a, b, xs, ys, rfl, rfl, ex_t ex h1, ex_t ex h3, by rw [sizeLine_eq]; omega, fun hx => ?_, fun hx hy => ?_, fun hx hy p hp => ?_⟩
  · subst hx
    have : ds = [] := by cases ds with | nil => rfl | cons _ _ => simp at l1
    subst this
    exact q _ G H (Gn.refl ex) (.of (.tup h3 h4))
  · subst hy
    have : fs = [] := by cases fs with | nil => rfl | cons _ _ => simp at l2
    subst this
    rw [List.append_nil] at q
    exact q _ G H (Gn.refl ex) (.of (.tup h1 h2))
  · exact q _ _ _ (Gn.new ex hp) (.of (.tup (SqT.of upd_same) (dpa_ex (Ex.new (ex.free hp)) _ _ (dpa_app h2 h4))))
end
end DL

-- D1
set_option Elab.async false
set_option linter.all false
set_option maxRecDepth 100000
set_option maxHeartbeats 2000000
/-! Own layer, part 1: list + list and sorted of data, of a list or a tuple. -/
namespace DL
open PySem PySem.Calls L2 PyProof.Rows

section
variable {prog : Program} {w : World} {A : Around} {E : Value → Shared → Prop} {s : Shared}
theorem add_ll {l b : Addr} {vs ws : List Value} {Q : Value → Shared → Prop} (hl : s.heap.IsList l vs.toArray) (hb : s.heap.IsList b ws.toArray)
    (h : Q (.ref s.heap.objs.size) { s with heap := s.heap.push { cls := .type "list", data := .seq (vs ++ ws).toArray } }) (hsz : vs.length + ws.length ≤ sizeLine) :
    wpAny (model prog w) A (binaryOp .Add (.ref l) (.ref b)) Q E s := by
  obtain ⟨⟨cls, dd, data, sl⟩, ho, hc, n, hd⟩ := id hl
  obtain ⟨⟨cls2, dd2, data2, sl2⟩, ho2, hc2, n2, hd2⟩ := id hb
  simp only at hc hd hc2 hd2
  subst hc hd hc2 hd2
  have e : vs.toArray ++ ws.toArray = (vs ++ ws).toArray := by simp
  refine concat_meets ⟨_, ho, rfl⟩ ⟨_, ho2, rfl⟩ noFill_list_add seq_list_add PySem.F.slot_list_add PySem.F.entry_list_add (PySem.F.args_list_add_2 _ _) (list_addW l b vs.toArray ws.toArray n n2 dd dd2 sl sl2 (by simpa using hsz)) ⟨ho, ho2, ?_⟩
  rw [e]
  exact h
theorem collect_any {l : Addr} {T : String} {o : Obj} {n : Nat} {vs : List Value} {Q : List Value → Shared → Prop} (hT : T = "list" ∨ T = "tuple") (ho : s.heap.get? l = some o) (hc : o.cls = .type T) (hd : o.data = .seq vs.toArray n)
    (h : Q vs { s with heap := (s.heap.push (seqObj "list" #[] 0)).update s.heap.objs.size (Obj.mapSeq (· ++ vs.toArray)) }) (hsz : vs.length ≤ sizeLine) :
    wpAny (model prog w) A (collect (.ref l)) Q E s := by
  unfold collect
  refine wpAny_bind (wpAny_runValue (codeAny_builtin entry_proto_collect' ?_))
  show wpAny _ _ (do again (.builtin "list.__iadd__" ⟨[← newList [], .ref l], []⟩)) _ _ s
  refine wpAny_bind (wpAny_newList (wpAny_pure ⟨Code.quiet_builtin _ (by decide +kernel), codeAny_builtin entry_list_iadd' ?_⟩))
  show wpAny _ _ (Builtin.List.listExtendWith (.ref s.heap.objs.size) (.ref l) (.ref s.heap.objs.size)) _ _ { s with heap := s.heap.push (seqObj "list" #[] 0) }
  unfold Builtin.List.listExtendWith
  have ho' : (s.heap.push (seqObj "list" #[] 0)).get? l = some o := Heap.get?_push_of_some _ ho
  refine wpAny_bind (wpAny_typeOf (T := T) ⟨o, ho', hc⟩ ?_)
  rw [if_pos (by rcases hT with rfl | rfl <;> simp)]
  refine wpAny_bind (listItems_at ho' hd ?_)
  refine wpAny_bind (listItems_at (xs := #[]) (n := 0) (Heap.get?_push_size _ rfl) rfl ?_)
  rw [if_neg (by simp)]
  refine wpAny_bind (listUpdate_at (xs := #[]) (n := 0) (Heap.get?_push_size _ rfl) rfl ?_ (Nat.zero_le _) (by show (#[] ++ vs.toArray).size ≤ sizeLine + 1; simp only [Array.size_append, List.size_toArray, List.length_nil]; omega))
  refine wpAny_pure ?_
  show wpAny (model prog w) A (do
      let o ← load s.heap.objs.size
      match o.data with
      | .seq xs _ => pure xs.toList
      | _ => unsupported "internal:collect") Q E { s with heap := (s.heap.push (seqObj "list" #[] 0)).update s.heap.objs.size (Obj.mapSeq (· ++ vs.toArray)) }
  refine wpAny_bind (wpAny_load (get?_update_seq (Heap.get?_push_size _ rfl) _) ?_)
  show wpAny _ _ (pure ((#[] : Array Value) ++ vs.toArray).toList) Q E _
  rw [show ((#[] : Array Value) ++ vs.toArray).toList = vs by simp]
  exact wpAny_pure h
/-- sorted of a list or a tuple whose values read as alike data -/
theorem sorted_seq {l : Addr} {T : String} {o : Obj} {n : Nat} {vs : List Value} {ds : List PyData} {R : Value → PyData → Prop} {Q : Value → Shared → Prop} (hT : T = "list" ∨ T = "tuple") (ho : s.heap.get? l = some o) (hc : o.cls = .type T) (hd : o.data = .seq vs.toArray n)
    (e : PySem.W.EachIs R vs ds) (er : PySem.W.EachIs (fun v d => ∃ as, Reads s.heap v d as) vs ds) (hal : PySem.W.AllAlike ds) (hk : PySem.W.Sortable ds) (hL : ds.length ≤ sizeLine) (hu : ∀ d, d ∈ ds → A.units + 2 + d.depth < cLine)
    (h : ∀ (a : Addr) (h' : Heap) (ep : Nat) (out : List Value), s.heap.objs.size ≤ a → (∀ b o, s.heap.get? b = some o → h'.get? b = some o) → h'.get? a = some (seqObj "list" out.toArray ep) → PySem.W.EachIs R out (ds.mergeSort (PySem.W.dataLe false id)) → Q (.ref a) { s with heap := h' }) :
    wpAny (model prog w) A (call (.builtin "sorted") [.ref l]) Q E s := by
  have hvl : vs.length ≤ sizeLine := by rw [e.length]; exact hL
  refine call_function_entry_kw kind_sorted plain_sorted entry_sorted (args_sorted1 _) ?_
  unfold Builtin.«sorted»
  refine wpAny_bind (m := checkCount "sorted" 1 1 _) (wpAny_pure ?_)
  refine wpAny_bind (collect_any hT ho hc hd ?_ hvl)
  have hs1 : ((s.heap.push (seqObj "list" #[] 0)).update s.heap.objs.size (Obj.mapSeq (· ++ vs.toArray))).objs.size = s.heap.objs.size + 1 := by
    rw [Heap.size_update, size_push']
  have k1 : ∀ b o, s.heap.get? b = some o → ((s.heap.push (seqObj "list" #[] 0)).update s.heap.objs.size (Obj.mapSeq (· ++ vs.toArray))).get? b = some o := fun b o q => by
    rw [Heap.get?_update_ne _ _ _ _ (Nat.ne_of_lt (Heap.lt_size q))]
    exact Heap.get?_push_of_some _ q
  generalize ((s.heap.push (seqObj "list" #[] 0)).update s.heap.objs.size (Obj.mapSeq (· ++ vs.toArray))) = h1 at hs1 k1 ⊢
  refine wpAny_bind (wpAny_newList ?_ hvl)
  show wpAny _ _ _ _ _ { s with heap := h1.push (seqObj "list" vs.toArray 0) }
  have hat : (h1.push (seqObj "list" vs.toArray 0)).get? h1.objs.size = some (seqObj "list" vs.toArray 0) := Heap.get?_push_size _ rfl
  have hsz : s.heap.objs.size ≤ h1.objs.size := by omega
  have kp : ∀ b o, s.heap.get? b = some o → (h1.push (seqObj "list" vs.toArray 0)).get? b = some o := fun b o q => Heap.get?_push_of_some _ (k1 b o q)
  refine wpAny_bind (wpAny_holding (wpAny_call_entry_kw slot_list_sort ⟨_, hat, rfl⟩ entry_list_sort ?body (args_list_sort _)))
  case body =>
    have er' : PySem.W.EachIs (fun v d => ∃ as, Reads (PySem.W.sortingHeap (h1.push (seqObj "list" vs.toArray 0)) h1.objs.size vs) v d as) vs ds :=
      er.mono fun _ _ ⟨as, r⟩ => ⟨as, PyProof.Rows.Reads.keeps (fun b o q => PySem.W.sortingHeap_old (Nat.ne_of_lt (Heap.lt_size (k1 b o q))) (kp b o q)) r⟩
    refine PySem.W.list_sort_vals (κ := PySem.W.dataKind (PySem.W.sortingHeap (h1.push (seqObj "list" vs.toArray 0)) h1.objs.size vs) ds) (s := { s with heap := h1.push (seqObj "list" vs.toArray 0) }) hat (PySem.W.SortsAt.data er' hal hk hu) hvl ⟨_, rfl, wpAny_pure ?_⟩
    obtain ⟨ep, hs⟩ := sortedHeap_at (out := (PySem.W.sortVals (PySem.W.dataKind (PySem.W.sortingHeap (h1.push (seqObj "list" vs.toArray 0)) h1.objs.size vs) ds) false vs vs).toArray) hat
    refine ⟨_, rfl, h _ _ ep _ hsz (fun b o q => ?_) hs ?_⟩
    · exact (sortedHeap_old (Nat.ne_of_lt (Heap.lt_size (k1 b o q))) (Heap.lt_size (kp b o q))).trans (kp b o q)
    · have h2 := PySem.W.sortVals_data (enc := id) (bs := ds) (R := R) false e (by exact er') (by rw [List.map_id]; exact hal)
      rw [List.map_id] at h2
      exact h2
end
def rCatS (K : Kf) : R2 := fun x y H Q => ∃ l b xs zs, x = .ref l ∧ y = .ref b ∧ SqL K H l xs ∧ SqL K H b zs ∧ xs.length + zs.length ≤ sizeLine ∧ ∀ p, H p = none → Q (.ref p) (upd H p (.lst (xs ++ zs)))
def sortD (ds : List PyData) : List PyData := ds.mergeSort (PySem.W.dataLe false id)
def rSortD (K : Kf) : List V → Hp → VK → Prop := fun vs H Q => ∃ (a : Addr) (xs : List V) (ds : List PyData) (R : V → PyData → Prop), vs = [.ref a] ∧ (SqL K H a xs ∨ SqT K H a xs) ∧ DpAll K H xs ds ∧ PySem.W.EachIs R xs ds ∧ PySem.W.AllAlike ds ∧ PySem.W.Sortable ds ∧ (∀ d, d ∈ ds → d.depth ≤ 16) ∧
  ∀ p ys, H p = none → PySem.W.EachIs R ys (sortD ds) → Q (.ref p) (upd H p (.lst ys))
abbrev RD (K : Kf) (H : Hp) (R : V → PyData → Prop) (u : Value) (d : PyData) : Prop := ∃ v, RelV v u ∧ Dp K H v d ∧ R v d
theorem each_of {K : Kf} {H : Hp} {R : V → PyData → Prop} : ∀ {ds : List PyData} {xs : List V} {us : List Value}, Vals xs us → DpAll K H xs ds → PySem.W.EachIs R xs ds → PySem.W.EachIs (RD K H R) us ds
  | [], _, _, r, h, _ => by cases h; cases r; exact .nil
  | _ :: _, _, _, r, h, g => by
    cases h with | cons h1 h2 =>
    cases g with | cons g1 g2 =>
    cases r with | cons r1 r2 => exact .cons ⟨_, r1, h1, g1⟩ (each_of r2 h2 g2)
theorem of_each {K : Kf} {H : Hp} {R : V → PyData → Prop} : ∀ {ds : List PyData} {us : List Value}, PySem.W.EachIs (RD K H R) us ds → ∃ xs, Vals xs us ∧ DpAll K H xs ds ∧ PySem.W.EachIs R xs ds
  | _, _, .nil => ⟨[], .nil, .nil, .nil⟩
  | _, _, .cons ⟨v, r, d, g⟩ t => by
    obtain ⟨xs, h1, h2, h3⟩ := of_each t
    exact ⟨v :: xs, .cons r h1, .cons d h2, .cons g h3⟩
theorem each_dpa {K : Kf} {G : Hp} : ∀ {ds : List PyData} {xs : List V}, PySem.W.EachIs (Dp K G) xs ds → DpAll K G xs ds
  | _, _, .nil => .nil
  | _, _, .cons a b => .cons a (each_dpa b)
theorem dpa_each {K : Kf} {G : Hp} : ∀ {ds : List PyData} {xs : List V}, DpAll K G xs ds → PySem.W.EachIs (Dp K G) xs ds
  | [], _, h => by cases h; exact .nil
  | _ :: _, _, h => by cases h with | cons a b => exact .cons a (dpa_each b)
section
variable {X : Cx}
theorem op_catS : OpR X (binaryOp .Add) (rCatS X.K) := by
  intro pins s σ H x y v u Q I rx ry h
  obtain ⟨l, b, xs, zs, rfl, rfl, hH, hB, hz, q⟩ := h
  cases rx
  cases ry
  obtain ⟨its, r, p1, z1⟩ := I.list hH
  obtain ⟨its2, r2, p2, z2⟩ := I.list hB
  refine add_ll p1.isList p2.isList ?_ (by rw [← r.length, ← r2.length]; exact hz)
  exact ⟨.ref _, _, I.lnew (t' := s.toks) (r.append r2) (by rw [List.length_append]; omega), rfl, q _ I.fresh⟩
theorem cr_sortD (hu : X.A.units + 64 < cLine) : CallR X (.builtin "sorted") (rSortD X.K) := by
  intro pins s σ H vs us Q I r h
  obtain ⟨a, xs, ds, R, rfl, hs, hd, hR, hal, hk, hdp, q⟩ := h
  rw [Vals.ref1 r]
  have fin : ∀ {its : List Value}, Vals xs its → xs.length ≤ sizeLine → ∀ {T : String} {o : Obj} {n : Nat}, (T = "list" ∨ T = "tuple") → s.heap.get? a = some o → o.cls = .type T → o.data = .seq its.toArray n → wpAny (model X.prog X.w) X.A (call (.builtin "sorted") [.ref a]) (EP X pins σ Q) X.xe s := fun {its} rv hz {T o n} hT ho hc hdt => by
    have e1 := each_of rv hd hR
    have hlen : ds.length ≤ sizeLine := by rw [← dpa_len hd]; exact hz
    refine sorted_seq (R := RD X.K H R) hT ho hc hdt e1 (e1.mono fun u d ⟨v, r1, h1, _⟩ => Dp.reads I d v u h1 r1) hal hk hlen (fun d hm => by have := hdp d hm; omega) fun p h' ep out hp kp hat eo => ?_
    obtain ⟨ys, r2, h2, h3⟩ := of_each eo
    have hyl : ys.length ≤ sizeLine := by
      rw [dpa_len h2, (List.mergeSort_perm ds _).length_eq]; exact hlen
    have hn : H p = none := I.hok.fresh hp
    exact ⟨.ref p, upd H p (.lst ys), I.laid (t' := s.toks) kp hp ⟨hyl, out, ep, r2, hat⟩, rfl, q p ys hn h3⟩
  rcases hs with hs | hs
  · obtain ⟨its, rv, ⟨o, n, ho, hc, _, hdt⟩, hz⟩ := I.list hs
    exact fin rv hz (.inl rfl) ho hc hdt
  · obtain ⟨its, rv, ⟨o, ho, hc, n, hdt⟩, hz⟩ := I.tuple hs
    exact fin rv hz (.inr rfl) ho hc hdt
end
end DL

-- D2
set_option Elab.async false
set_option linter.all false
set_option maxRecDepth 100000
set_option maxHeartbeats 2000000
/-! Own layer, part 2: calls, tests, slices, what is walked, comprehensions, statements, loops, promises. -/
namespace DL
open PySem PySem.Calls L2 PyProof.Rows

section
variable {K : Kf} {es es' : Es} {ta tb te tc : TE} {t u : TT} {x y z : Sl} {r : R2} {d e : PyData}
theorem rv_catL {ds fs : List PyData} (hl : ds.length + fs.length ≤ 100000) : RV K (rCatS K) (.d (.list ds)) (.d (.list fs)) (.d (.list (ds ++ fs))) := fun G H v u ex k1 k2 Q q => by
  obtain ⟨a, xs, rfl, h1, h2⟩ := dp_lst k1
  obtain ⟨b, ys, rfl, h3, h4⟩ := dp_lst k2
  have l1 := dpa_len h2
  have l2 := dpa_len h4
  exact ⟨a, b, xs, ys, rfl, rfl, ex_l ex h1, ex_l ex h3, by rw [sizeLine_eq]; omega, fun p hp => q _ _ _ (Gn.new ex hp) (.of (.lst (SqL.of upd_same) (dpa_ex (Ex.new (ex.free hp)) _ _ (dpa_app h2 h4))))⟩
theorem skA1 {G : Hp} {vs : List V} (h : SkA K G vs [x]) : ∃ v, vs = [v] ∧ Sk K G (some v) x := by
  cases h with | cons a b => cases b; exact ⟨_, rfl, a⟩
theorem skA2 {G : Hp} {vs : List V} (h : SkA K G vs [x, y]) : ∃ v u, vs = [v, u] ∧ Sk K G (some v) x ∧ Sk K G (some u) y := by
  cases h with | cons a b => obtain ⟨u, rfl, h2⟩ := skA1 b; exact ⟨_, _, rfl, a, h2⟩
theorem skA3 {G : Hp} {vs : List V} (h : SkA K G vs [x, y, z]) : ∃ v u w, vs = [v, u, w] ∧ Sk K G (some v) x ∧ Sk K G (some u) y ∧ Sk K G (some w) z := by
  cases h with | cons a b => obtain ⟨u, w, rfl, h2, h3⟩ := skA2 b; exact ⟨_, _, _, rfl, a, h2, h3⟩
/-- len -/
def rLen (K : Kf) : List V → Hp → VK → Prop := fun xs H Q => ∃ p ys, xs = [.ref p] ∧ (SqL K H p ys ∨ SqT K H p ys) ∧ Q (.int ys.length) H
theorem cr_len {X : Cx} : CallR X (.builtin "len") (rLen X.K) := call_len_seq
theorem rc_lenL {ds : List PyData} : RC K (rLen K) [.d (.list ds)] (.d (.int ds.length)) := fun G H vs ex k Q q => by
  obtain ⟨v, rfl, k1⟩ := skA1 k
  obtain ⟨a, xs, rfl, h1, h2⟩ := dp_lst k1
  refine ⟨a, xs, rfl, .inl (ex_l ex h1), ?_⟩
  rw [dpa_len h2]
  exact q _ G H (Gn.refl ex) (.of (.int _))
theorem rc_lenT {ds : List PyData} : RC K (rLen K) [.d (.tuple ds)] (.d (.int ds.length)) := fun G H vs ex k Q q => by
  obtain ⟨v, rfl, k1⟩ := skA1 k
  obtain ⟨a, xs, rfl, h1, h2⟩ := dp_tup k1
  refine ⟨a, xs, rfl, .inr (ex_t ex h1), ?_⟩
  rw [dpa_len h2]
  exact q _ G H (Gn.refl ex) (.of (.int _))
/-- all, any -/
theorem dpa_bls {G : Hp} : ∀ {bs : List Bool} {xs : List V}, DpAll K G xs (bs.map .bool) → xs = bs.map V.bl
  | [], _, h => by cases h; rfl
  | b :: bs, _, h => by
    cases h with | cons h1 h2 =>
    cases h1
    rw [List.map_cons, dpa_bls h2]
theorem dpa_ints {G : Hp} : ∀ {bs : List Int} {xs : List V}, DpAll K G xs (bs.map .int) → xs = bs.map V.int
  | [], _, h => by cases h; rfl
  | b :: bs, _, h => by
    cases h with | cons h1 h2 =>
    cases h1
    rw [List.map_cons, dpa_ints h2]
theorem dpa_of_ints {G : Hp} : ∀ (bs : List Int), DpAll K G (bs.map V.int) (bs.map .int)
  | [] => .nil
  | b :: bs => .cons (.int b) (dpa_of_ints bs)
theorem rc_all {bs : List Bool} : RC K (rAll K) [.d (.list (bs.map .bool))] (.d (.bool (bs.all id))) := fun G H vs ex k Q q => by
  obtain ⟨v, rfl, k1⟩ := skA1 k
  obtain ⟨a, xs, rfl, h1, h2⟩ := dp_lst k1
  rw [dpa_bls h2] at h1
  exact ⟨a, bs, rfl, ex_l ex h1, q _ G H (Gn.refl ex) (.of (.bl _))⟩
theorem rc_any {bs : List Bool} : RC K (rAny K) [.d (.list (bs.map .bool))] (.d (.bool (bs.any id))) := fun G H vs ex k Q q => by
  obtain ⟨v, rfl, k1⟩ := skA1 k
  obtain ⟨a, xs, rfl, h1, h2⟩ := dp_lst k1
  rw [dpa_bls h2] at h1
  exact ⟨a, bs, rfl, ex_l ex h1, q _ G H (Gn.refl ex) (.of (.bl _))⟩
/-- tuple(list) -/
def rTupOf (K : Kf) : List V → Hp → VK → Prop := fun xs H Q => ∃ p ys, xs = [.ref p] ∧ ((SqL K H p ys ∧ ∀ l, H l = none → Q (.ref l) (upd H l (.tup ys))) ∨ (SqT K H p ys ∧ Q (.ref p) H))
theorem cr_tupOf {X : Cx} : CallR X (.type "tuple") (rTupOf X.K) := call_tuple_of
theorem rc_tupOf {ds : List PyData} : RC K (rTupOf K) [.d (.list ds)] (.d (.tuple ds)) := fun G H vs ex k Q q => by
  obtain ⟨v, rfl, k1⟩ := skA1 k
  obtain ⟨a, xs, rfl, h1, h2⟩ := dp_lst k1
  exact ⟨a, xs, rfl, .inl ⟨ex_l ex h1, fun l hl => q _ _ _ (Gn.new ex hl) (.of (.tup (SqT.of upd_same) (dpa_ex (Ex.new (ex.free hl)) _ _ h2)))⟩⟩
/-- list(list | tuple) -/
def rLstOf (K : Kf) : List V → Hp → VK → Prop := fun xs H Q => ∃ p ys, xs = [.ref p] ∧ (SqL K H p ys ∨ SqT K H p ys) ∧ ∀ l, H l = none → Q (.ref l) (upd H l (.lst ys))
theorem cr_lstOf {X : Cx} : CallR X (.type "list") (rLstOf X.K) := call_list_of
theorem rc_lstOf {ds : List PyData} : RC K (rLstOf K) [.d (.list ds)] (.d (.list ds)) := fun G H vs ex k Q q => by
  obtain ⟨v, rfl, k1⟩ := skA1 k
  obtain ⟨a, xs, rfl, h1, h2⟩ := dp_lst k1
  exact ⟨a, xs, rfl, .inl (ex_l ex h1), fun l hl => q _ _ _ (Gn.new ex hl) (.of (.lst (SqL.of upd_same) (dpa_ex (Ex.new (ex.free hl)) _ _ h2)))⟩
/-- sorted -/
theorem rc_sortL {ds : List PyData} (h1 : PySem.W.AllAlike ds) (h2 : PySem.W.Sortable ds) (h3 : ∀ d, d ∈ ds → d.depth ≤ 16) : RC K (rSortD K) [.d (.list ds)] (.d (.list (sortD ds))) := fun G H vs ex k Q q => by
  obtain ⟨v, rfl, k1⟩ := skA1 k
  obtain ⟨a, xs, rfl, e1, e2⟩ := dp_lst k1
  exact ⟨a, xs, ds, Dp K G, rfl, .inl (ex_l ex e1), dpa_ex ex _ _ e2, dpa_each e2, h1, h2, h3, fun p ys hp hy => q _ _ _ (Gn.new ex hp) (.of (.lst (SqL.of upd_same) (dpa_ex (Ex.new (ex.free hp)) _ _ (each_dpa hy))))⟩
theorem rc_sortT {ds : List PyData} (h1 : PySem.W.AllAlike ds) (h2 : PySem.W.Sortable ds) (h3 : ∀ d, d ∈ ds → d.depth ≤ 16) : RC K (rSortD K) [.d (.tuple ds)] (.d (.list (sortD ds))) := fun G H vs ex k Q q => by
  obtain ⟨v, rfl, k1⟩ := skA1 k
  obtain ⟨a, xs, rfl, e1, e2⟩ := dp_tup k1
  exact ⟨a, xs, ds, Dp K G, rfl, .inr (ex_t ex e1), dpa_ex ex _ _ e2, dpa_each e2, h1, h2, h3, fun p ys hp hy => q _ _ _ (Gn.new ex hp) (.of (.lst (SqL.of upd_same) (dpa_ex (Ex.new (ex.free hp)) _ _ (each_dpa hy))))⟩
/-- isinstance of data, a built-in class -/
def tyD : PyData → String
  | .none => "NoneType" | .bool _ => "bool" | .int _ => "int" | .str _ => "str" | .list _ => "list" | .tuple _ => "tuple" | .dict _ => "dict"
theorem tyx_of {G : Hp} {v : V} (h : Dp K G v d) : TyX K G v (.type (tyD d)) := by
  cases h with
  | non => exact .base .non
  | bl b => exact .base (.bl b)
  | int i => exact .base (.int i)
  | str x => exact .base (.str x)
  | lst h1 h2 =>
    rcases h1 with (h1 | ⟨o, h1⟩) | ⟨o, its, n, h1, hc, _⟩
    · exact .base (.lst h1)
    · exact .base (.frz h1)
    · exact .kList h1 hc
  | tup h1 h2 =>
    rcases h1 with (h1 | ⟨o, h1⟩) | ⟨o, its, n, h1, hc, _⟩
    · exact .base (.tup h1)
    · exact .fTuple h1
    · exact .kTuple h1 hc
theorem rc_isi {T : String} {b : Bool} (h : kitB (tyD d) T = some b) : RC K (rIsi K) [.d d, .r (.ty T)] (.d (.bool b)) := fun G H vs ex k Q q => by
  obtain ⟨v, u, rfl, k1, k2⟩ := skA2 k
  cases (show some u = some (V.ty T) from k2)
  exact ⟨v, .ty T, _, _, b, rfl, .ty T, tyx_of (dp_ex ex _ _ k1.dp), kit_ty h, q _ G H (Gn.refl ex) (.of (.bl _))⟩

/-! ### tests -/
theorem et_test {b : Bool} (h : EvD K te es (.bool b)) : EvT K (tTest te) es b := fun σ G H e s Q q => h σ G H e s _ fun v G1 H1 g1 k1 => by
  rw [dp_bl k1]; exact ⟨b, rfl, q G1 H1 g1⟩
theorem et_B {b : Bool} (h : EvD K te es (.bool b)) : EvT K (tB te) es b := fun σ G H e s Q q => h σ G H e s _ fun v G1 H1 g1 k1 => by
  rw [dp_bl k1]; exact ⟨b, rfl, q G1 H1 g1⟩
theorem EvT.is {a b : Bool} (h : EvT K t es a) (e : a = b) : EvT K t es b := e ▸ h
theorem et_and {a b : Bool} (h1 : EvT K t es a) (h2 : a = true → EvT K u es b) : EvT K (tAnd t u) es (a && b) := fun σ G H e s Q q => h1 σ G H e s _ fun G1 H1 g1 => by
  cases a with
  | true => exact iteT (h2 rfl σ G1 H1 g1.s (s.ex g1.g) Q fun G2 H2 g2 => q G2 H2 (g1.trans g2))
  | false => exact iteF (q G1 H1 g1)
theorem et_or {a b : Bool} (h1 : EvT K t es a) (h2 : a = false → EvT K u es b) : EvT K (tOr t u) es (a || b) := fun σ G H e s Q q => h1 σ G H e s _ fun G1 H1 g1 => by
  cases a with
  | true => exact iteT (q G1 H1 g1)
  | false => exact iteF (h2 rfl σ G1 H1 g1.s (s.ex g1.g) Q fun G2 H2 g2 => q G2 H2 (g1.trans g2))
theorem et_not {a : Bool} (h1 : EvT K t es a) : EvT K (tNot t) es (!a) := fun σ G H e s Q q => h1 σ G H e s _ fun G1 H1 g1 => q G1 H1 g1
theorem et_yes : EvT K tYes es true := fun σ G H e s Q q => q G H (Gn.refl e)
theorem ev_andV {a b : Bool} (h1 : EvD K ta es (.bool a)) (h2 : a = true → EvD K tb es (.bool b)) : EvD K (tAndV ta tb) es (.bool (a && b)) := fun σ G H e s Q q => h1 σ G H e s _ fun v G1 H1 g1 k1 => by
  rw [dp_bl k1]
  refine ⟨a, rfl, ?_⟩
  cases a with
  | true => exact iteT (h2 rfl σ G1 H1 g1.s (s.ex g1.g) Q fun v2 G2 H2 g2 k2 => q v2 G2 H2 (g1.trans g2) k2)
  | false => exact iteF (q _ G1 H1 g1 (.of (.bl _)))
theorem ev_orV {a b : Bool} (h1 : EvD K ta es (.bool a)) (h2 : a = false → EvD K tb es (.bool b)) : EvD K (tOrV ta tb) es (.bool (a || b)) := fun σ G H e s Q q => h1 σ G H e s _ fun v G1 H1 g1 k1 => by
  rw [dp_bl k1]
  refine ⟨a, rfl, ?_⟩
  cases a with
  | true => exact iteT (q _ G1 H1 g1 (.of (.bl _)))
  | false => exact iteF (h2 rfl σ G1 H1 g1.s (s.ex g1.g) Q fun v2 G2 H2 g2 k2 => q v2 G2 H2 (g1.trans g2) k2)
theorem ev_notV {a : Bool} (h1 : EvD K ta es (.bool a)) : EvD K (tNotV ta) es (.bool (!a)) := fun σ G H e s Q q => h1 σ G H e s _ fun v G1 H1 g1 k1 => by
  rw [dp_bl k1]
  exact ⟨a, rfl, q _ G1 H1 g1 (.of (.bl _))⟩
theorem ev_if {b : Bool} (h : EvT K t es b) (h1 : b = true → Ev K ta es x) (h2 : b = false → Ev K tb es x) : Ev K (tIf t ta tb) es x := fun σ G H e s Q q => h σ G H e s _ fun G1 H1 g1 => by
  cases b with
  | true => exact iteT (h1 rfl σ G1 H1 g1.s (s.ex g1.g) Q fun v2 G2 H2 g2 k2 => q v2 G2 H2 (g1.trans g2) k2)
  | false => exact iteF (h2 rfl σ G1 H1 g1.s (s.ex g1.g) Q fun v2 G2 H2 g2 k2 => q v2 G2 H2 (g1.trans g2) k2)
/-- a chain of two comparisons -/
theorem ev_chain {r r' : R2} {a b : Bool} (ha : Ev K ta es x) (hb : Ev K tb es y) (hr : RV K r x y (.d (.bool a))) (h2 : a = true → Ev K tc es z) (hr2 : a = true → RV K r' y z (.d (.bool b))) : EvD K (tChain r r' ta tb tc) es (.bool (a && b)) := fun σ G H e s Q q =>
  ha σ G H e s _ fun v G1 H1 g1 k1 => hb σ G1 H1 g1.s (s.ex g1.g) _ fun w G2 H2 g2 k2 => hr G2 H2 v w g2.s (k1.ex g2.g) k2 _ fun o G3 H3 g3 k3 => by
    rw [dp_bl k3]
    have g := g1.trans (g2.trans g3)
    refine ⟨a, rfl, ?_⟩
    cases a with
    | true => exact iteT (h2 rfl σ G3 H3 g.s (s.ex g.g) _ fun w4 G4 H4 g4 k4 => hr2 rfl G4 H4 w w4 g4.s (k2.ex (g3.g.trans g4.g)) k4 Q fun o5 G5 H5 g5 k5 => q o5 G5 H5 (g.trans (g4.trans g5)) k5)
    | false => exact iteF (q _ G3 H3 g (.of (.bl _)))
/-- t[1:] of a tuple -/
theorem ev_slT1 {ds : List PyData} (h : EvD K te es (.tuple ds)) : EvD K (tSl (rSlA K) te (tPart (tC (.int 1))) tNoPart) es (.tuple (ds.drop 1)) := fun σ G H e s Q q => h σ G H e s _ fun v G1 H1 g1 k1 => by
  obtain ⟨a, xs, rfl, e1, e2⟩ := dp_tup k1
  have hl := dpa_len e2
  have es1 : HT.sIx xs.length 0 (some 1) = min 1 xs.length := HT.sIx_nat xs.length 0 1
  refine ⟨1, rfl, a, xs, rfl, ex_t g1.s e1, fun hw => ?_, fun hw p hp => ?_⟩
  · rw [es1] at hw
    have : xs = [] := by
      cases xs with
      | nil => rfl
      | cons _ _ => simp at hw
    subst this
    have : ds = [] := by cases ds with | nil => rfl | cons _ _ => simp at hl
    subst this
    exact q _ G1 H1 g1 (.of (.tup e1 e2))
  · refine q _ _ _ (g1.trans (Gn.new g1.s hp)) (.of (.tup (SqT.of upd_same) (dpa_ex (Ex.new (g1.s.free hp)) _ _ ?_)))
    have ec : cutV xs (some 1) none = xs.drop 1 := by
      unfold cutV
      rw [es1, HT.sIx_none]
      cases xs with
      | nil => rfl
      | cons x r =>
        rw [show min 1 (x :: r).length = 1 by rw [List.length_cons]; omega]
        show (List.take ((x :: r).length - 1) r) = r
        rw [List.length_cons, Nat.add_sub_cancel]
        exact List.take_length
    rw [ec]
    exact dpa_drop 1 e2
end
end DL

-- D3
set_option Elab.async false
set_option linter.all false
set_option maxRecDepth 100000
set_option maxHeartbeats 2000000
/-! Own layer, part 3: what is walked, targets, comprehensions; statements, loops, promises. -/
namespace DL
open PySem PySem.Calls L2 PyProof.Rows
abbrev St := L2.St

/-! ### what is walked -/
def Wk (K : Kf) (J : It) (G : Hp) (ds : List PyData) : Prop := ∀ G' H', Ex G G' → Ex G' H' → (∀ i, ds.length ≤ i → J.stop i H') ∧
  ∀ i d, ds[i]? = some d → J.go i H' ∧ ∀ x H2, J.yld i H' x H2 → ∃ G2, Gn G' H' G2 H2 ∧ Dp K G2 x d
def EvI (K : Kf) (wi : TI) (es : Es) (ds : List PyData) : Prop := ∀ σ G H, Ex G H → Sd K G σ es → ∀ R : It → Hp → Prop, (∀ J G' H', Gn G H G' H' → Wk K J G' ds → R J H') → wi σ H R
def rngD (lo : Int) (n : Nat) : List PyData := (List.range n).map fun (i : Nat) => PyData.int (lo + (i : Int))
def zipD (ds fs : List PyData) : List PyData := (ds.zip fs).map fun p => PyData.tuple [p.1, p.2]
section
variable {K : Kf} {es es' : Es} {ta tb te tc : TE} {t u : TT} {x y z : Sl} {d e : PyData}
theorem wk_list {G : Hp} {a : Addr} {xs : List V} {ds : List PyData} (h1 : SqL K G a xs) (h2 : DpAll K G xs ds) : Wk K (Itl K a) G ds := fun G' H' e1 e2 => by
  have hq := ex_l e2 (ex_l e1 h1)
  have hl := dpa_len h2
  refine ⟨fun i hi => ⟨xs, hq, by omega⟩, fun i d hd => ?_⟩
  obtain ⟨v, hv, dv⟩ := dpa_get h2 hd
  refine ⟨⟨xs, v, hq, hv⟩, fun x H2 y => ?_⟩
  obtain ⟨rfl, y⟩ := y
  have := y xs hq
  rw [hv] at this
  cases this
  exact ⟨G', Gn.refl e2, dp_ex e1 _ _ dv⟩
theorem wk_tup {G : Hp} {a : Addr} {xs : List V} {ds : List PyData} (h1 : SqT K G a xs) (h2 : DpAll K G xs ds) : Wk K (Itt K a) G ds := fun G' H' e1 e2 => by
  have hq := ex_t e2 (ex_t e1 h1)
  have hl := dpa_len h2
  refine ⟨fun i hi => ⟨xs, hq, by omega⟩, fun i d hd => ?_⟩
  obtain ⟨v, hv, dv⟩ := dpa_get h2 hd
  refine ⟨⟨xs, v, hq, hv⟩, fun x H2 y => ?_⟩
  obtain ⟨rfl, y⟩ := y
  have := y xs hq
  rw [hv] at this
  cases this
  exact ⟨G', Gn.refl e2, dp_ex e1 _ _ dv⟩
theorem wk_rng {G : Hp} {lo : Int} {n : Nat} : Wk K (Itr lo n) G (rngD lo n) := fun G' H' e1 e2 => by
  have hl : (rngD lo n).length = n := by unfold rngD; rw [List.length_map, List.length_range]
  refine ⟨fun i hi => by rw [hl] at hi; exact hi, fun i d hd => ?_⟩
  have hi : i < n := by
    have := (List.getElem?_eq_some_iff.mp hd).1
    omega
  have hd' : d = .int (lo + i) := by
    unfold rngD at hd
    rw [List.getElem?_map, List.getElem?_range hi] at hd
    exact (Option.some.inj hd).symm
  subst hd'
  refine ⟨hi, fun x H2 y => ?_⟩
  obtain ⟨rfl, rfl⟩ := y
  exact ⟨G', Gn.refl e2, .int _⟩
theorem zip_get {ds fs : List PyData} {i : Nat} {d : PyData} (h : (zipD ds fs)[i]? = some d) : ∃ a b, ds[i]? = some a ∧ fs[i]? = some b ∧ d = .tuple [a, b] := by
  unfold zipD at h
  rw [List.getElem?_map] at h
  cases q : (ds.zip fs)[i]? with
  | none => rw [q] at h; cases h
  | some p =>
    rw [q] at h
    obtain ⟨a, b⟩ := p
    obtain ⟨h1, h2⟩ := List.getElem?_zip_eq_some.mp q
    exact ⟨a, b, h1, h2, (Option.some.inj h).symm⟩
theorem wk_zipL {G : Hp} {a b : Addr} {xs ys : List V} {ds fs : List PyData} (h1 : SqL K G a xs) (h2 : DpAll K G xs ds) (h3 : SqL K G b ys) (h4 : DpAll K G ys fs) : Wk K (Itz K a b) G (zipD ds fs) := fun G' H' e1 e2 => by
  have hx := ex_l e2 (ex_l e1 h1)
  have hy := ex_l e2 (ex_l e1 h3)
  have l1 := dpa_len h2
  have l2 := dpa_len h4
  refine ⟨fun i hi => ⟨xs, ys, hx, hy, ?_⟩, fun i d hd => ?_⟩
  · unfold zipD at hi
    rw [List.length_map, List.length_zip] at hi
    omega
  obtain ⟨da, db, q1, q2, rfl⟩ := zip_get hd
  obtain ⟨v, hv, dv⟩ := dpa_get h2 q1
  obtain ⟨w, hw, dw⟩ := dpa_get h4 q2
  refine ⟨⟨xs, ys, v, w, hx, hy, hv, hw⟩, fun x H2 y => ?_⟩
  obtain ⟨T, x1, y1, rfl, hT, rfl, f1, f2⟩ := y
  have z1 := f1 xs hx
  rw [hv] at z1; cases z1
  have z2 := f2 ys hy
  rw [hw] at z2; cases z2
  have en := Ex.new (o := .tup [v, w]) (e2.free hT)
  exact ⟨_, Gn.new e2 hT, .tup (SqT.of upd_same) (.cons (dp_ex (e1.trans en) _ _ dv) (.cons (dp_ex (e1.trans en) _ _ dw) .nil))⟩
theorem wk_zipT {G : Hp} {a b : Addr} {xs ys : List V} {ds fs : List PyData} (h1 : SqT K G a xs) (h2 : DpAll K G xs ds) (h3 : SqT K G b ys) (h4 : DpAll K G ys fs) : Wk K (RZ.ItzT K a b) G (zipD ds fs) := fun G' H' e1 e2 => by
  have hx := ex_t e2 (ex_t e1 h1)
  have hy := ex_t e2 (ex_t e1 h3)
  have l1 := dpa_len h2
  have l2 := dpa_len h4
  refine ⟨fun i hi => ⟨xs, ys, hx, hy, ?_⟩, fun i d hd => ?_⟩
  · unfold zipD at hi
    rw [List.length_map, List.length_zip] at hi
    omega
  obtain ⟨da, db, q1, q2, rfl⟩ := zip_get hd
  obtain ⟨v, hv, dv⟩ := dpa_get h2 q1
  obtain ⟨w, hw, dw⟩ := dpa_get h4 q2
  refine ⟨⟨xs, ys, v, w, hx, hy, hv, hw⟩, fun x H2 y => ?_⟩
  obtain ⟨T, x1, y1, rfl, hT, rfl, f1, f2⟩ := y
  have z1 := f1 xs hx
  rw [hv] at z1; cases z1
  have z2 := f2 ys hy
  rw [hw] at z2; cases z2
  have en := Ex.new (o := .tup [v, w]) (e2.free hT)
  exact ⟨_, Gn.new e2 hT, .tup (SqT.of upd_same) (.cons (dp_ex (e1.trans en) _ _ dv) (.cons (dp_ex (e1.trans en) _ _ dw) .nil))⟩
theorem ei_list {ds : List PyData} (h : EvD K ta es (.list ds)) : EvI K (iList K ta) es ds := fun σ G H e s R r => h σ G H e s _ fun v G1 H1 g1 k1 => by
  obtain ⟨a, xs, rfl, h1, h2⟩ := dp_lst k1
  exact ⟨a, rfl, ⟨xs, ex_l g1.s h1⟩, r _ G1 H1 g1 (wk_list h1 h2)⟩
theorem ei_tup {ds : List PyData} (h : EvD K ta es (.tuple ds)) : EvI K (iTup K ta) es ds := fun σ G H e s R r => h σ G H e s _ fun v G1 H1 g1 k1 => by
  obtain ⟨a, xs, rfl, h1, h2⟩ := dp_tup k1
  exact ⟨a, rfl, ⟨xs, ex_t g1.s h1⟩, r _ G1 H1 g1 (wk_tup h1 h2)⟩
theorem ei_rng1 {n : Int} {ta : TA} (h : EvA K ta es [.d (.int n)]) (h0 : -100000 ≤ n) (h1 : n ≤ 100000) : EvI K (iRng1 ta) es (rngD 0 n.toNat) := fun σ G H e s R r => h σ G H e s _ fun v G1 H1 g1 k1 => by
  obtain ⟨v, rfl, k2⟩ := skA1 k1
  rw [dp_int k2]
  exact ⟨n, rfl, by omega, by omega, r _ G1 H1 g1 wk_rng⟩
theorem ei_rng2 {a n : Int} {ta : TA} (h : EvA K ta es [.d (.int a), .d (.int n)]) (h0 : -100000 ≤ n) (h1 : n ≤ 100000) (h2 : -100000 ≤ a) (h3 : a ≤ 100000) : EvI K (iRng2 ta) es (rngD a (n - a).toNat) := fun σ G H e s R r => h σ G H e s _ fun v G1 H1 g1 k1 => by
  obtain ⟨v, w, rfl, k3, k2⟩ := skA2 k1
  rw [dp_int k3, dp_int k2]
  exact ⟨a, n, rfl, ⟨by omega, by omega, by omega, by omega⟩, r _ G1 H1 g1 wk_rng⟩
theorem ei_zipL {ds fs : List PyData} {ta : TA} (h : EvA K ta es [.d (.list ds), .d (.list fs)]) : EvI K (RZ.iZipA K ta) es (zipD ds fs) := fun σ G H e s R r => h σ G H e s _ fun v G1 H1 g1 k1 => by
  obtain ⟨v, w, rfl, k3, k2⟩ := skA2 k1
  obtain ⟨a, xs, rfl, h1, h2⟩ := dp_lst k3
  obtain ⟨b, ys, rfl, h3, h4⟩ := dp_lst k2
  exact ⟨a, b, xs, ys, rfl, .inl ⟨ex_l g1.s h1, ex_l g1.s h3, r _ G1 H1 g1 (wk_zipL h1 h2 h3 h4)⟩⟩
theorem ei_zipT {ds fs : List PyData} {ta : TA} (h : EvA K ta es [.d (.tuple ds), .d (.tuple fs)]) : EvI K (RZ.iZipA K ta) es (zipD ds fs) := fun σ G H e s R r => h σ G H e s _ fun v G1 H1 g1 k1 => by
  obtain ⟨v, w, rfl, k3, k2⟩ := skA2 k1
  obtain ⟨a, xs, rfl, h1, h2⟩ := dp_tup k3
  obtain ⟨b, ys, rfl, h3, h4⟩ := dp_tup k2
  exact ⟨a, b, xs, ys, rfl, .inr ⟨ex_t g1.s h1, ex_t g1.s h3, r _ G1 H1 g1 (wk_zipT h1 h2 h3 h4)⟩⟩

/-! ### targets -/
/-- σ2 comes of σ by stores into slots of js -/
def By (js : List Nat) (σ σ2 : St) : Prop := ∀ vs, (∀ j ∈ js, j ∈ vs) → wipe σ2 vs = wipe σ vs
theorem wipe_set {σ : St} {j : Nat} {a : Option V} : ∀ vs : List Nat, wipe (σ.set j a) vs = if j ∈ vs then wipe σ vs else (wipe σ vs).set j a
  | [] => rfl
  | v :: vs => by
    unfold wipe
    rw [wipe_set vs]
    by_cases h : j ∈ vs
    · rw [if_pos h, if_pos (List.mem_cons_of_mem _ h)]
    · rw [if_neg h]
      by_cases e : j = v
      · subst e
        rw [if_pos (List.mem_cons_self ..), List.set_set]
      · rw [if_neg (by rw [List.mem_cons]; exact fun z => z.elim e h), List.set_comm _ _ e]
theorem By.set {σ : St} {j : Nat} {a : Option V} : By [j] σ (σ.set j a) := fun vs h => by rw [wipe_set, if_pos (h j (by simp))]
theorem By.trans {js ks : List Nat} {a b c : St} (h : By js a b) (k : By ks b c) : By (js ++ ks) a c := fun vs q => (k vs fun j hj => q j (by simp [hj])).trans (h vs fun j hj => q j (by simp [hj]))
theorem By.refl {a : St} : By [] a a := fun _ _ => rfl
def EvG (K : Kf) (g : TG) (es : Es) (x : Sl) (es2 : Es) (js : List Nat) : Prop := ∀ σ G H v (Q : St → Hp → Prop), Ex G H → Sd K G σ es → Sk K G (some v) x → (∀ σ2, Sd K G σ2 es2 → By js σ σ2 → Q σ2 H) → g v σ H Q
def EvGs (K : Kf) (g : TGs) (es : Es) (xs : List PyData) (es2 : Es) (js : List Nat) : Prop := ∀ σ G H vs (Q : St → Hp → Prop), Ex G H → Sd K G σ es → DpAll K G vs xs → (∀ σ2, Sd K G σ2 es2 → By js σ σ2 → Q σ2 H) → g vs σ H Q
theorem eg_name {j : Nat} : EvG K (gName j) es x (es.set j x) [j] := fun σ G H v Q e s k q => q _ (s.set k) By.set
theorem egs_nil : EvGs K gNil es [] es [] := fun σ G H vs Q e s k q => by cases k; exact ⟨rfl, q σ s By.refl⟩
theorem egs_cons {g : TG} {gs : TGs} {e1 e2 : Es} {js ks : List Nat} {d : PyData} {ds : List PyData} (h : EvG K g es (.d d) e1 js) (h2 : EvGs K gs e1 ds e2 ks) : EvGs K (gCons g gs) es (d :: ds) e2 (js ++ ks) := fun σ G H vs Q e s k q => by
  cases k with
  | cons a b => exact ⟨_, _, rfl, h σ G H _ _ e s (.of a) fun σ2 s2 b2 => h2 σ2 G H _ Q e s2 b fun σ3 s3 b3 => q σ3 s3 (b2.trans b3)⟩
theorem eg_tup {gs : TGs} {n : Nat} {ds : List PyData} {e2 : Es} {js : List Nat} (h : EvGs K gs es ds e2 js) (hl : ds.length = n := by rfl) : EvG K (gTup K n gs) es (.d (.tuple ds)) e2 js := fun σ G H v Q e s k q => by
  obtain ⟨a, xs, rfl, h1, h2⟩ := dp_tup k
  exact ⟨a, xs, rfl, ex_t e h1, (dpa_len h2).trans hl, h σ G H xs Q e s h2 q⟩
theorem eg_tup2 {j k : Nat} {d1 d2 : PyData} : EvG K (gTup K 2 (gCons (gName j) (gCons (gName k) gNil))) es (.d (.tuple [d1, d2])) ((es.set j (.d d1)).set k (.d d2)) [j, k] := eg_tup (egs_cons eg_name (egs_cons eg_name egs_nil))

/-! ### comprehensions -/
def wipeE (es : Es) : List Nat → Es
  | [] => es
  | v :: vs => (wipeE es vs).set v .no
theorem Sd.none {G : Hp} {σ : St} {i : Nat} (h : Sd K G σ es) : Sd K G (σ.set i none) (es.set i .no) := by
  refine ⟨by rw [List.length_set, List.length_set]; exact h.1, fun j => ?_⟩
  rw [getD_set, getD_set, h.1]
  split
  · trivial
  · exact h.2 j
theorem Sd.wipe {G : Hp} {σ : St} (h : Sd K G σ es) : ∀ vs, Sd K G (L2.wipe σ vs) (wipeE es vs)
  | [] => h
  | v :: vs => by unfold L2.wipe wipeE; exact (Sd.wipe h vs).none
def lcD (p : PyData → Bool) (f : PyData → PyData) (ds : List PyData) : List PyData := (ds.filter p).map f
theorem lcD_snoc_yes {p : PyData → Bool} {f : PyData → PyData} {ds : List PyData} {d : PyData} (h : p d = true) : lcD p f (ds ++ [d]) = lcD p f ds ++ [f d] := by
  unfold lcD; rw [List.filter_append, List.map_append, List.filter_cons, if_pos h]; rfl
theorem lcD_snoc_no {p : PyData → Bool} {f : PyData → PyData} {ds : List PyData} {d : PyData} (h : p d = false) : lcD p f (ds ++ [d]) = lcD p f ds := by
  unfold lcD; rw [List.filter_append, List.map_append, List.filter_cons, if_neg (by rw [h]; exact Bool.false_ne_true)]; exact List.append_nil _
theorem lcD_len (p : PyData → Bool) (f : PyData → PyData) (ds : List PyData) : (lcD p f ds).length ≤ ds.length := by
  unfold lcD; rw [List.length_map]; exact List.length_filter_le ..
theorem ev_lc {wi : TI} {g : TG} {tt : TT} {vs : List Nat} {ds : List PyData} {js : List Nat} (p : PyData → Bool) (f : PyData → PyData) (hI : EvI K wi es ds)
    (hs : ∀ d, d ∈ ds → ∃ es2, EvG K g (wipeE es vs) (.d d) es2 js ∧ EvT K tt es2 (p d) ∧ (p d = true → EvD K te es2 (f d))) (hj : ∀ j ∈ js, j ∈ vs) (hl : ds.length ≤ 100000) :
    EvD K (tLc wi g tt te vs) es (.list (lcD p f ds)) := fun σ G H e s Q q => hI σ G H e s _ fun J G1 H1 g1 wk => fun D hD => by
  have s1 := s.ex g1.g
  refine ⟨fun i m H' => ∃ G' acc, m = ds.length - i ∧ i ≤ ds.length ∧ Gn G1 H1 G' (fun b => if b = D then H1 D else H' b) ∧ Ex G' H' ∧ G' D = none ∧ H' D = some (.lst acc) ∧ DpAll K G' acc (lcD p f (ds.take i)), ⟨ds.length, G1, [], by simp, Nat.zero_le _, ?_, ?_, g1.s.free hD, upd_same, ?_⟩, ?_⟩
  · have : (fun b => if b = D then H1 D else upd H1 D (.lst []) b) = H1 := by
      funext b
      by_cases hb : b = D
      · rw [if_pos hb, hb]
      · rw [if_neg hb, upd_ne hb]
    rw [this]
    exact Gn.refl g1.s
  · exact g1.s.trans (Ex.new hD)
  · exact .nil
  · rintro i m H' ⟨G', acc, rfl, hi, gn, ex, gD, hacc, hdp⟩
    obtain ⟨w1, w2⟩ := wk G' H' gn.g ex
    by_cases hlt : i < ds.length
    · obtain ⟨d, hd⟩ : ∃ d, ds[i]? = some d := ⟨ds[i], List.getElem?_eq_getElem hlt⟩
      obtain ⟨go, yl⟩ := w2 i d hd
      have htake : ds.take (i + 1) = ds.take i ++ [d] := by rw [List.take_add_one, hd]; rfl
      refine .inr ⟨go, fun H2 => ∃ G2 acc2, Gn G1 H1 G2 (fun b => if b = D then H1 D else H2 b) ∧ Ex G2 H2 ∧ G2 D = none ∧ H2 D = some (.lst acc2) ∧ DpAll K G2 acc2 (lcD p f (ds.take (i + 1))), fun H2 ⟨G2, acc2, a1, a2, a3, a4, a5⟩ => ⟨ds.length - (i + 1), by omega, G2, acc2, rfl, hlt, a1, a2, a3, a4, a5⟩, fun x H2 hy => ?_⟩
      obtain ⟨G2, g2, dx⟩ := yl x H2 hy
      obtain ⟨es2, eg, et, ee⟩ := hs d (List.mem_of_getElem? hd)
      have s2 : Sd K G2 (wipe σ vs) (wipeE es vs) := ((s1.ex gn.g).ex g2.g).wipe vs
      refine eg _ G2 H2 x _ g2.s s2 (.of dx) fun σ3 s3 by3 => ⟨?_, ?_⟩
      · have := by3 vs hj
        rw [this]
        have wi : ∀ (us : List Nat), (∀ u ∈ us, u ∈ vs) → wipe (wipe σ vs) us = wipe σ vs := by
          intro us
          induction us with
          | nil => intro _; rfl
          | cons u us ih =>
            intro hu
            show (wipe (wipe σ vs) us).set u none = wipe σ vs
            rw [ih fun a ha => hu a (List.mem_cons_of_mem _ ha)]
            have key : ∀ (ws : List Nat), u ∈ ws → (wipe σ ws).set u none = wipe σ ws := by
              intro ws
              induction ws with
              | nil => intro h; cases h
              | cons w ws ih2 =>
                intro h
                show ((wipe σ ws).set w none).set u none = (wipe σ ws).set w none
                by_cases hw : u = w
                · subst hw; rw [List.set_set]
                · rw [List.set_comm _ _ (fun z => hw z.symm), ih2 ((List.mem_cons.mp h).resolve_left hw)]
            exact key vs (hu u (List.mem_cons_self ..))
        exact wi vs fun _ h => h
      · -- from (G', H') on: what is no data stands, D's list too
        have bk : ∀ {G3 H3 : Hp}, Gn G' H' G3 H3 → Gn G1 H1 G3 (fun b => if b = D then H1 D else H3 b) ∧ Ex G3 H3 ∧ G3 D = none ∧ H3 D = some (.lst acc) := fun {G3 H3} g3 => by
          obtain ⟨hD3, gD3⟩ := g3.k D _ hacc gD
          refine ⟨⟨gn.g.trans g3.g, fun b o hb => ?_, fun b o hb hn => ?_⟩, g3.s, gD3, hD3⟩
          · by_cases h : b = D
            · rw [h, gD3] at hb; cases hb
            · show (if b = D then H1 D else H3 b) = some o
              rw [if_neg h]; exact g3.s b o hb
          · have hbD : b ≠ D := ne_of_none hb hD
            obtain ⟨k1, k2⟩ := gn.k b o hb hn
            have k1 : (if b = D then H1 D else H' b) = some o := k1
            rw [if_neg hbD] at k1
            obtain ⟨k3, k4⟩ := g3.k b o k1 k2
            exact ⟨by show (if b = D then H1 D else H3 b) = some o; rw [if_neg hbD]; exact k3, k4⟩
        refine et σ3 G2 H2 g2.s s3 _ fun G3 H3 g3 => ?_
        cases hp : p d with
        | true =>
          refine iteT (ee hp σ3 G3 H3 g3.s (s3.ex g3.g) _ fun v G4 H4 g4 k4 => ?_)
          obtain ⟨b1, b2, b3, b4⟩ := bk (g2.trans (g3.trans g4))
          have hlen : acc.length < sizeLine := by
            rw [dpa_len hdp]
            have := lcD_len p f (ds.take i)
            rw [List.length_take] at this
            rw [sizeLine_eq]; omega
          refine ⟨acc, b4, hlen, G4, acc ++ [v], ?_, ?_, b3, upd_same, ?_⟩
          · have : (fun b => if b = D then H1 D else upd H4 D (.lst (acc ++ [v])) b) = fun b => if b = D then H1 D else H4 b := by
              funext b
              by_cases hb : b = D
              · rw [if_pos hb, if_pos hb]
              · rw [if_neg hb, if_neg hb, upd_ne hb]
            rw [this]; exact b1
          · intro b o hb
            have : b ≠ D := fun z => by rw [z, b3] at hb; cases hb
            rw [upd_ne this]; exact b2 b o hb
          · rw [htake, lcD_snoc_yes hp]
            exact dpa_app (dpa_ex (g2.g.trans (g3.g.trans g4.g)) _ _ hdp) (.cons k4.dp .nil)
        | false =>
          refine iteF ?_
          obtain ⟨b1, b2, b3, b4⟩ := bk (g2.trans g3)
          refine ⟨G3, acc, b1, b2, b3, b4, ?_⟩
          rw [htake, lcD_snoc_no hp]
          exact dpa_ex (g2.g.trans g3.g) _ _ hdp
    · have e0 : i = ds.length := by omega
      subst e0
      refine .inl ⟨w1 _ (Nat.le_refl _), ?_⟩
      rw [List.take_length] at hdp
      have g3 : Gn G1 H1 (upd G' D (.lst acc)) H' := ⟨gn.g.trans (Ex.new gD), fun b o hb => ?_, fun b o hb hn => ?_⟩
      · exact q _ _ _ (g1.trans g3) (.of (.lst (SqL.of upd_same) (dpa_ex (Ex.new gD) _ _ hdp)))
      · by_cases h : b = D
        · rw [h, upd_same] at hb; cases hb; rw [h]; exact hacc
        · rw [upd_ne h] at hb; exact ex b o hb
      · have hbD : b ≠ D := ne_of_none hb hD
        obtain ⟨k1, k2⟩ := gn.k b o hb hn
        have k1 : (if b = D then H1 D else H' b) = some o := k1
        rw [if_neg hbD] at k1
        exact ⟨k1, by rw [upd_ne hbD]; exact k2⟩
end
end DL

-- D4
set_option Elab.async false
set_option linter.all false
set_option maxRecDepth 100000
set_option maxHeartbeats 2000000
/-! Own layer, part 4: statements, loops, promises. -/
namespace DL
open PySem PySem.Calls L2 PyProof.Rows

/-- own lists (and what may change besides): in H alone -/
abbrev Ow := List (Addr × Option (List PyData))
/-- the name that the lambdas bear -/
def tabQ : Str := "_law_refused" ++ ".<locals>." ++ "<lambda>"
def So (K : Kf) (G H : Hp) (ow : Ow) : Prop := ∀ p ∈ ow, G p.1 = none ∧ H p.1 ≠ none ∧ (∀ ds, p.2 = some ds → ∃ vs, H p.1 = some (.lst vs) ∧ DpAll K G vs ds) ∧ (p.2 = none → LamX.TabS H p.1 tabQ ∧ Ex G H)
theorem gn_ext {G H G' H' : Hp} (e : Ex G H) (a : Gn G H G' H') : Ex H H' := fun b o h => by
  cases q : G b with
  | none => exact (a.k b o h q).1
  | some u =>
    have := e b u q
    rw [h] at this
    cases this
    exact a.s b o (a.g b o q)
theorem tab_upd {H : Hp} {P l : Addr} {q : Str} {vs : List V} {o : HO} (t : LamX.TabS H P q) (n : P ≠ l) (h : H l = some (.lst vs)) : LamX.TabS (upd H l o) P q := by
  obtain ⟨ps, h1, h2, h3⟩ := t
  refine ⟨ps, by rw [upd_ne n]; exact h1, h2, fun pos cv hc => ?_⟩
  obtain ⟨c, e1, e2⟩ := h3 pos cv hc
  refine ⟨c, e1, ?_⟩
  rw [upd_ne fun z => ?_]
  · exact e2
  · rw [z, h] at e2
    have e3 := Option.some.inj e2
    unfold LamX.CodeO at e3
    cases e3
structure Gs (G H : Hp) (ow : Ow) (G' H' : Hp) (ow' : Ow) : Prop where
  g : Ex G G'
  s : Ex G' H'
  k : ∀ b o, H b = some o → G b = none → b ∉ ow.map (·.1) → H' b = some o ∧ G' b = none
  o : ∀ b ∈ ow'.map (·.1), b ∈ ow.map (·.1) ∨ H b = none
theorem Gs.refl {G H : Hp} {ow : Ow} (e : Ex G H) : Gs G H ow G H ow := ⟨Ex.refl _, e, fun _ _ h n _ => ⟨h, n⟩, fun _ h => .inl h⟩
theorem Gs.trans {G H G1 H1 G2 H2 : Hp} {ow ow1 ow2 : Ow} (a : Gs G H ow G1 H1 ow1) (b : Gs G1 H1 ow1 G2 H2 ow2) : Gs G H ow G2 H2 ow2 where
  g := a.g.trans b.g
  s := b.s
  k := fun c o h n no => by
    obtain ⟨h1, n1⟩ := a.k c o h n no
    refine b.k c o h1 n1 fun z => ?_
    rcases a.o c z with z | z
    · exact no z
    · rw [z] at h; cases h
  o := fun c hc => by
    rcases b.o c hc with z | z
    · exact a.o c z
    · by_cases hw : c ∈ ow.map (·.1)
      · exact .inl hw
      · refine .inr ?_
        cases q : H c with
        | none => rfl
        | some o =>
          cases r : G c with
          | none => rw [(a.k c o q r hw).1] at z; cases z
          | some u => rw [a.s c u (a.g c u r)] at z; cases z
theorem Gn.gs {G H G' H' : Hp} {ow : Ow} (a : Gn G H G' H') : Gs G H ow G' H' ow := ⟨a.g, a.s, fun b o h n _ => a.k b o h n, fun _ h => .inl h⟩
theorem Gs.gn {G H G' H' : Hp} {ow' : Ow} (a : Gs G H [] G' H' ow') : Gn G H G' H' := ⟨a.g, a.s, fun b o h n => a.k b o h n (by simp)⟩
theorem So.gn {K : Kf} {G H G' H' : Hp} {ow : Ow} (h : So K G H ow) (a : Gn G H G' H') : So K G' H' ow := fun p hp => by
  obtain ⟨h1, h2, h3, h4⟩ := h p hp
  cases q : H p.1 with
  | none => exact absurd q h2
  | some o =>
    obtain ⟨k1, k2⟩ := a.k _ o q h1
    refine ⟨k2, by rw [k1]; simp, fun ds e => ?_, fun e => ?_⟩
    · obtain ⟨vs, v1, v2⟩ := h3 ds e
      rw [q] at v1
      rw [k1]
      exact ⟨vs, v1, dpa_ex a.g _ _ v2⟩
    · obtain ⟨t, ex⟩ := h4 e
      exact ⟨t.ext (gn_ext ex a), a.s⟩
theorem So.nil {K : Kf} {G H : Hp} : So K G H [] := fun _ h => nomatch h

structure DEnds where
  nx : Es → Ow → Prop
  rt : Sl → Ow → Prop
  bk : Es → Ow → Prop := fun _ _ => False
  ct : Es → Ow → Prop := fun _ _ => False
structure Ok (K : Kf) (N : DEnds) (D : Ends) (G H : Hp) (ow : Ow) : Prop where
  nx : ∀ σ' G' H' es' ow', Gs G H ow G' H' ow' → Sd K G' σ' es' → So K G' H' ow' → N.nx es' ow' → D.nx σ' H'
  rt : ∀ v G' H' x ow', Gs G H ow G' H' ow' → Sk K G' (some v) x → So K G' H' ow' → N.rt x ow' → D.rt v H'
  bk : ∀ σ' G' H' es' ow', Gs G H ow G' H' ow' → Sd K G' σ' es' → So K G' H' ow' → N.bk es' ow' → D.bk σ' H'
  ct : ∀ σ' G' H' es' ow', Gs G H ow G' H' ow' → Sd K G' σ' es' → So K G' H' ow' → N.ct es' ow' → D.ct σ' H'
theorem Ok.step {K : Kf} {N : DEnds} {D : Ends} {G H G1 H1 : Hp} {ow ow1 : Ow} (h : Ok K N D G H ow) (a : Gs G H ow G1 H1 ow1) : Ok K N D G1 H1 ow1 :=
  ⟨fun σ' G' H' es' ow' g s o n => h.nx σ' G' H' es' ow' (a.trans g) s o n, fun v G' H' x ow' g s o n => h.rt v G' H' x ow' (a.trans g) s o n, fun σ' G' H' es' ow' g s o n => h.bk σ' G' H' es' ow' (a.trans g) s o n, fun σ' G' H' es' ow' g s o n => h.ct σ' G' H' es' ow' (a.trans g) s o n⟩
def Run (K : Kf) (ts : TS) (es : Es) (ow : Ow) (N : DEnds) : Prop := ∀ σ G H, Ex G H → Sd K G σ es → So K G H ow → ∀ D : Ends, Ok K N D G H ow → ts D σ H

section
variable {K : Kf} {es es' : Es} {ow ow' : Ow} {N N' : DEnds} {ta tb te tc : TE} {t u w : TS} {c : TT} {x y z : Sl} {d e : PyData} {i : Nat}
theorem Run.le (h : Run K t es ow N) (l : Le es es') : Run K t es' ow N := fun σ G H e s o D k => h σ G H e (s.le l) o D k
theorem Run.mono (h : Run K t es ow N) (h1 : ∀ e o, N.nx e o → N'.nx e o) (h2 : ∀ x o, N.rt x o → N'.rt x o) (h3 : ∀ e o, N.bk e o → N'.bk e o) (h4 : ∀ e o, N.ct e o → N'.ct e o) : Run K t es ow N' := fun σ G H e s o D k =>
  h σ G H e s o D ⟨fun σ' G' H' es' ow' g s o n => k.nx σ' G' H' es' ow' g s o (h1 _ _ n), fun v G' H' x ow' g s o n => k.rt v G' H' x ow' g s o (h2 _ _ n), fun σ' G' H' es' ow' g s o n => k.bk σ' G' H' es' ow' g s o (h3 _ _ n), fun σ' G' H' es' ow' g s o n => k.ct σ' G' H' es' ow' g s o (h4 _ _ n)⟩
theorem run_seq (h : Run K t es ow { N with nx := fun e o => Run K u e o N }) : Run K (tSeq t u) es ow N := fun σ G H e s o D k =>
  h σ G H e s o { D with nx := u D } ⟨fun σ' G' H' es' ow' g s o n => n σ' G' H' g.s s o D (k.step g), k.rt, k.bk, k.ct⟩
theorem run_next (h : N.nx es ow) : Run K tNext es ow N := fun σ G H e s o D k => k.nx σ G H es ow (Gs.refl e) s o h
theorem run_asg (h : Ev K te es x) (n : N.nx (es.set i x) ow) : Run K (tAsg te (gName i)) es ow N := fun σ G H e s o D k => h σ G H e s _ fun v G1 H1 g1 k1 =>
  k.nx _ G1 H1 _ ow g1.gs ((s.ex g1.g).set k1) (o.gn g1) n
theorem run_drop (h : Ev K te es x) (n : N.nx es ow) : Run K (tDrop te) es ow N := fun σ G H e s o D k => h σ G H e s _ fun v G1 H1 g1 k1 =>
  k.nx _ G1 H1 _ ow g1.gs (s.ex g1.g) (o.gn g1) n
theorem run_ret (h : Ev K te es x) (n : N.rt x ow) : Run K (tRet te) es ow N := fun σ G H e s o D k => h σ G H e s _ fun v G1 H1 g1 k1 =>
  k.rt v G1 H1 x ow g1.gs k1 (o.gn g1) n
theorem run_if {b : Bool} (h : EvT K c es b) (h1 : b = true → Run K t es ow N) (h2 : b = false → Run K u es ow N) : Run K (tIfS c t u) es ow N := fun σ G H e s o D k => h σ G H e s _ fun G1 H1 g1 => by
  cases b with
  | true => exact iteT (h1 rfl σ G1 H1 g1.s (s.ex g1.g) (o.gn g1) D (k.step g1.gs))
  | false => exact iteF (h2 rfl σ G1 H1 g1.s (s.ex g1.g) (o.gn g1) D (k.step g1.gs))
theorem run_par {j : Nat} {ta : TA} (h : EvA K ta es [x, y]) (n : N.nx ((es.set i x).set j y) ow) : Run K (tPar i j ta) es ow N := fun σ G H e s o D k => h σ G H e s _ fun vs G1 H1 g1 k1 => by
  obtain ⟨v, u, rfl, k1, k2⟩ := skA2 k1
  exact ⟨v, u, rfl, k.nx _ G1 H1 _ ow g1.gs (((s.ex g1.g).set k1).set k2) (o.gn g1) n⟩
/-- a new list that will change -/
theorem run_new {ta : TA} {ds : List PyData} (h : EvA K ta es (ds.map .d)) (n : ∀ l, (∀ p ∈ ow, p.1 ≠ l) → N.nx (es.set i (.r (.ref l))) ((l, some ds) :: ow)) (hl : ds.length ≤ 100000 := by decide) : Run K (tAsg (tLst ta) (gName i)) es ow N := fun σ G H e s o D k =>
  h σ G H e s _ fun vs G1 H1 g1 k1 => by
    have h2 := k1.dpa
    have o1 := o.gn g1
    refine ⟨by rw [dpa_len h2, sizeLine_eq]; omega, fun p hp => ?_⟩
    have ne : ∀ q ∈ ow, q.1 ≠ p := fun q hq z => (o1 q hq).2.1 (by rw [z]; exact hp)
    have ex1 : Ex G1 (upd H1 p (.lst vs)) := g1.s.trans (Ex.new hp)
    have gs : Gs G1 H1 ow G1 (upd H1 p (.lst vs)) ((p, some ds) :: ow) := ⟨Ex.refl _, ex1, fun b q hb hn _ => ⟨by rw [upd_ne (ne_of_none hb hp)]; exact hb, hn⟩, fun b hb => by
      rcases List.mem_cons.mp hb with rfl | hb
      · exact .inr hp
      · exact .inl hb⟩
    refine k.nx _ G1 _ _ _ (g1.gs.trans gs) ((s.ex g1.g).set (show Sk K G1 (some (V.ref p)) (.r (.ref p)) from rfl)) (fun q hq => ?_) (n p ne)
    rcases List.mem_cons.mp hq with rfl | hq
    · exact ⟨g1.s.free hp, by rw [upd_same]; simp, fun ds' e' => by cases e'; exact ⟨vs, upd_same, h2⟩, fun z => by cases z⟩
    · obtain ⟨a1, a2, a3, a4⟩ := o1 q hq
      have nq := ne q hq
      exact ⟨a1, by rw [upd_ne nq]; exact a2, fun ds' e' => by rw [upd_ne nq]; exact a3 ds' e', fun z => ⟨(a4 z).1.ext (Ex.new hp), ex1⟩⟩
/-- l.append(e), l an own list -/
theorem run_append {l : Addr} {ds : List PyData} {rest : Ow} (hi : es[i]? = some (.r (.ref l))) (hr : ∀ p ∈ rest, p.1 ≠ l) (h : EvD K te es d) (hl : ds.length < 100000) (n : N.nx es ((l, some (ds ++ [d])) :: rest)) :
    Run K (tDrop (tBM K "list" rAppend (tVar i) (tCons te tNil))) es ((l, some ds) :: rest) N := fun σ G H e s o D k => by
  obtain ⟨o1, o2, o3, _⟩ := o (l, some ds) (List.mem_cons_self ..)
  obtain ⟨vs, v1, v2⟩ := o3 ds rfl
  have v1 : H l = some (.lst vs) := v1
  have o1 : G l = none := o1
  show tVar i σ H fun x H1 => tyV K "list" x H1 ∧ tCons te tNil σ H1 fun xs H2 => rAppend x xs H2 fun _ H3 => D.nx σ H3
  refine (ev_var (K := K) hi) σ G H e s _ fun v G0 H0 g0 k0 => ?_
  cases (show some v = some (V.ref l) from k0)
  obtain ⟨v1', o1'⟩ := g0.k l _ v1 o1
  refine ⟨.inl ⟨rfl, _, .inl (.inl v1')⟩, ?_⟩
  refine h σ G0 H0 g0.s (s.ex g0.g) _ fun v G1 H1 g1 k1 => ?_
  obtain ⟨v1'', o1''⟩ := g1.k l _ v1' o1'
  have og := (o.gn g0).gn g1
  have gg := g0.trans g1
  refine ⟨l, vs, v, rfl, rfl, v1'', by rw [dpa_len v2, sizeLine_eq]; omega, ?_⟩
  have gs : Gs G1 H1 ((l, some ds) :: rest) G1 (upd H1 l (.lst (vs ++ [v]))) ((l, some (ds ++ [d])) :: rest) := ⟨Ex.refl _, fun b q hb => by
      have : b ≠ l := fun z => by rw [z, o1''] at hb; cases hb
      rw [upd_ne this]; exact g1.s b q hb,
    fun b q hb hn no => ⟨by rw [upd_ne (fun z => no (by rw [z]; simp))]; exact hb, hn⟩, fun b hb => .inl (by simpa using hb)⟩
  refine k.nx σ G1 _ es _ (gg.gs.trans gs) (s.ex gg.g) (fun q hq => ?_) n
  rcases List.mem_cons.mp hq with rfl | hq
  · exact ⟨o1'', by show upd H1 l _ l ≠ none; rw [upd_same]; simp, fun ds' e' => by cases e'; exact ⟨_, upd_same, dpa_app (dpa_ex gg.g _ _ v2) (.cons k1.dp .nil)⟩, fun z => by cases z⟩
  · obtain ⟨a1, a2, a3, a4⟩ := og q (List.mem_cons_of_mem _ hq)
    have nq := hr q hq
    exact ⟨a1, by rw [upd_ne nq]; exact a2, fun ds' e' => by rw [upd_ne nq]; exact a3 ds' e', fun z => ⟨tab_upd (a4 z).1 nq v1'', gs.s⟩⟩
/-- an own list is let go: it is data from now on (a step of the proof alone) -/
theorem run_pub {l : Addr} {ds : List PyData} {rest : Ow} (hi : es[i]? = some (.r (.ref l))) (hr : ∀ p ∈ rest, p.1 ≠ l) (h : Run K t (es.set i (.d (.list ds))) rest N) : Run K t es ((l, some ds) :: rest) N := fun σ G H e s o D k => by
  obtain ⟨o1, o2, o3, _⟩ := o (l, some ds) (List.mem_cons_self ..)
  obtain ⟨vs, v1, v2⟩ := o3 ds rfl
  have v1 : H l = some (.lst vs) := v1
  have o1 : G l = none := o1
  have eg := Ex.new (o := .lst vs) o1
  have gs : Gs G H ((l, some ds) :: rest) (upd G l (.lst vs)) H rest := ⟨eg, fun b q hb => by
      by_cases hbl : b = l
      · rw [hbl, upd_same] at hb; cases hb; rw [hbl]; exact v1
      · rw [upd_ne hbl] at hb; exact e b q hb,
    fun b q hb hn no => ⟨hb, by rw [upd_ne (fun z => no (by rw [z]; simp))]; exact hn⟩, fun b hb => .inl (List.mem_cons_of_mem _ hb)⟩
  have hs : σ[i]? = some (some (.ref l)) := by
    have h1 := s.at hi
    have h1 : σ.getD i none = some (.ref l) := h1
    rw [List.getD_eq_getElem?_getD] at h1
    cases q : σ[i]? with
    | none => rw [q] at h1; cases h1
    | some w => rw [q] at h1; exact congrArg some h1
  have e2 : σ.set i (some (.ref l)) = σ := by
    apply List.ext_getElem?
    intro j
    rw [List.getElem?_set]
    by_cases hj : i = j
    · subst hj
      have := (List.getElem?_eq_some_iff.mp hs).1
      rw [if_pos rfl, if_pos this, hs]
    · rw [if_neg hj]
  have s2 : Sd K (upd G l (.lst vs)) σ (es.set i (.d (.list ds))) := by
    have := (s.ex eg).set (i := i) (v := .ref l) (x := .d (.list ds)) (.of (.lst (SqL.of upd_same) (dpa_ex eg _ _ v2)))
    rw [e2] at this
    exact this
  refine h σ _ H gs.s s2 (fun q hq => ?_) D (k.step gs)
  obtain ⟨a1, a2, a3, a4⟩ := o q (List.mem_cons_of_mem _ hq)
  exact ⟨by rw [upd_ne (hr q hq)]; exact a1, a2, fun ds' e' => by
    obtain ⟨ws, w1, w2⟩ := a3 ds' e'
    exact ⟨ws, w1, dpa_ex eg _ _ w2⟩, fun z => ⟨(a4 z).1, gs.s⟩⟩
/-- for -/
theorem run_for {wi : TI} {g : TG} {tb : TS} {ds : List PyData} (Iv : Nat → Es → Ow → Prop) (js : List Nat) (hI : EvI K wi es ds) (h0 : Iv 0 es ow)
    (hs : ∀ i d e o, ds[i]? = some d → Iv i e o → ∃ e2, EvG K g e (.d d) e2 js ∧ Run K tb e2 o { nx := Iv (i + 1), ct := Iv (i + 1), bk := N.nx, rt := N.rt }) (hd : ∀ e o, Iv ds.length e o → N.nx e o) : Run K (tFor wi g tb) es ow N := fun σ G H e s o D k =>
  hI σ G H e s _ fun J G1 H1 g1 wk => by
    refine ⟨fun i m σ' H' => ∃ G' e' o', m = ds.length - i ∧ i ≤ ds.length ∧ Gs G1 H1 ow G' H' o' ∧ Sd K G' σ' e' ∧ So K G' H' o' ∧ Iv i e' o', ⟨ds.length, G1, es, ow, by simp, Nat.zero_le _, Gs.refl g1.s, s.ex g1.g, o.gn g1, h0⟩, ?_⟩
    rintro i m σ' H' ⟨G', e', o', rfl, hi, gs, s', so', iv⟩
    obtain ⟨w1, w2⟩ := wk G' H' gs.g gs.s
    by_cases hlt : i < ds.length
    · obtain ⟨d, hd'⟩ : ∃ d, ds[i]? = some d := ⟨ds[i], List.getElem?_eq_getElem hlt⟩
      obtain ⟨go, yl⟩ := w2 i d hd'
      refine .inr ⟨go, fun σ2 H2 => ∃ G2 e2 o2, Gs G1 H1 ow G2 H2 o2 ∧ Sd K G2 σ2 e2 ∧ So K G2 H2 o2 ∧ Iv (i + 1) e2 o2, fun σ2 H2 ⟨G2, e2, o2, a1, a2, a3, a4⟩ => ⟨ds.length - (i + 1), by omega, G2, e2, o2, rfl, hlt, a1, a2, a3, a4⟩, fun x H2 hy => ?_⟩
      obtain ⟨G2, g2, dx⟩ := yl x H2 hy
      obtain ⟨e2, eg, rb⟩ := hs i d e' o' hd' iv
      refine eg σ' G2 H2 x _ g2.s (s'.ex g2.g) (.of dx) fun σ3 s3 _ => ?_
      have gt : Gs G1 H1 ow G2 H2 o' := gs.trans g2.gs
      have gt0 : Gs G H ow G2 H2 o' := g1.gs.trans gt
      exact rb σ3 G2 H2 g2.s s3 (so'.gn g2) _ ⟨fun σ4 G4 H4 e4 o4 g4 s4 so4 n4 => ⟨G4, e4, o4, gt.trans g4, s4, so4, n4⟩, fun v G4 H4 x4 o4 g4 k4 so4 n4 => k.rt v G4 H4 x4 o4 (gt0.trans g4) k4 so4 n4,
        fun σ4 G4 H4 e4 o4 g4 s4 so4 n4 => k.nx σ4 G4 H4 e4 o4 (gt0.trans g4) s4 so4 n4, fun σ4 G4 H4 e4 o4 g4 s4 so4 n4 => ⟨G4, e4, o4, gt.trans g4, s4, so4, n4⟩⟩
    · have e0 : i = ds.length := by omega
      subst e0
      exact .inl ⟨w1 _ (Nat.le_refl _), k.nx σ' G' H' e' o' (g1.gs.trans gs) s' so' (hd e' o' iv)⟩
/-- for, as a fold of states -/
theorem run_fold {β : Type} {wi : TI} {g : TG} {tb : TS} {ds : List PyData} (enc : β → Es) (eo : β → Ow) (step : β → PyData → β) (b0 : β) (js : List Nat) (hI : EvI K wi es ds) (h0 : Le (enc b0) es) (h1 : eo b0 = ow)
    (hs : ∀ i d, ds[i]? = some d → ∃ e2, EvG K g (enc ((ds.take i).foldl step b0)) (.d d) e2 js ∧ Run K tb e2 (eo ((ds.take i).foldl step b0)) { nx := fun e o => Le (enc (step ((ds.take i).foldl step b0) d)) e ∧ o = eo (step ((ds.take i).foldl step b0) d), rt := N.rt })
    (hg : ∀ e e' x, Le e e' → ∀ e2, EvG K g e x e2 js → EvG K g e' x e2 js := by intro e e' x l e2 h σ G H v Q ex s k q; exact h σ G H v Q ex (s.le l) k q)
    (hd : ∀ e, Le (enc (ds.foldl step b0)) e → N.nx e (eo (ds.foldl step b0))) : Run K (tFor wi g tb) es ow N := by
  refine run_for (fun i e o => Le (enc ((ds.take i).foldl step b0)) e ∧ o = eo ((ds.take i).foldl step b0)) js hI ⟨h0, h1.symm⟩ (fun i d e o hd' ⟨le, eo'⟩ => ?_) (fun e o ⟨le, eo'⟩ => ?_)
  · obtain ⟨e2, eg, rb⟩ := hs i d hd'
    refine ⟨e2, hg _ _ _ le _ eg, ?_⟩
    have htake : ds.take (i + 1) = ds.take i ++ [d] := by rw [List.take_add_one, hd']; rfl
    subst eo'
    refine rb.mono (fun e o h => ?_) (fun _ _ h => h) (fun _ _ h => h.elim) (fun _ _ h => h.elim)
    show Le (enc ((ds.take (i + 1)).foldl step b0)) e ∧ o = eo ((ds.take (i + 1)).foldl step b0)
    rw [htake, List.foldl_append]
    exact h
  · rw [List.take_length] at le eo'
    rw [eo']
    exact hd e le

/-! ### promises -/
def spP (K : Kf) (n : Nat) (rel : List Sl → Sl → Prop) : Sp := fun vs H Q _ => vs.length = n ∧ ∃ G xs y, Ex G H ∧ SkA K G vs xs ∧ rel xs y ∧ ∀ v G' H', Gn G H G' H' → Sk K G' (some v) y → Q v H'
theorem ev_call {n : Nat} {rel : List Sl → Sl → Prop} {E : XK} {ta : TA} {xs : List Sl} (h : EvA K ta es xs) (hr : rel xs y) (hl : xs.length = n := by rfl) : Ev K (tCall (spP K n rel) [] E ta) es y := fun σ G H e s Q q => h σ G H e s _ fun vs G1 H1 g1 k1 => by
  show spP K n rel (vs ++ []) H1 Q E
  rw [List.append_nil]
  exact ⟨k1.len.trans hl, G1, xs, y, g1.s, k1, hr, fun v G2 H2 g2 k2 => q v G2 H2 (g1.trans g2) k2⟩
def startE (n : Nat) (xs : List Sl) : Es := xs ++ List.replicate (n - xs.length) .no
theorem sd_start {G : Hp} {NN : List Str} : ∀ {vs : List V} {xs : List Sl}, SkA K G vs xs → vs.length ≤ NN.length → Sd K G (L2.start NN vs) (startE NN.length xs) := fun {vs xs} h hl => by
  unfold L2.start startE
  have e := h.len
  refine ⟨?_, fun i => ?_⟩
  · rw [List.length_append, List.length_append, List.length_map, List.length_replicate, List.length_replicate]; omega
  · have key : ∀ {vs : List V} {xs : List Sl} (r1 : St) (r2 : Es), SkA K G vs xs → (∀ i, Sk K G (r1.getD i none) (r2.getD i .no)) → ∀ i, Sk K G ((vs.map some ++ r1).getD i none) ((xs ++ r2).getD i .no) := by
      intro vs xs r1 r2 h hr
      induction h with
      | nil => exact hr
      | cons a b ih =>
        intro i
        cases i with
        | zero => exact a
        | succ i => exact ih i
    refine key _ _ h (fun j => ?_) i
    rw [List.getD_eq_getElem?_getD (l := List.replicate _ Sl.no), List.getElem?_replicate]
    split <;> trivial
theorem body_of {NN : List Str} {n : Nat} {rel : List Sl → Sl → Prop} {t : TS} {vs : List V} {H : Hp} {Q : VK} {E : XK} (h : spP K n rel vs H Q E) (hn : n ≤ NN.length)
    (hb : ∀ xs y, rel xs y → xs.length = n → Run K t (startE NN.length xs) [] { nx := fun _ _ => y = .d .none, rt := fun x _ => x = y }) : t { nx := fun _ H' => Q .non H', rt := Q } (L2.start NN vs) H := by
  obtain ⟨hl, G, xs, y, e, k, r, q⟩ := h
  refine hb xs y r (k.len.symm.trans hl) _ G H e (sd_start k (by omega)) So.nil _ ⟨fun σ' G' H' es' ow' g s o n => ?_, fun v G' H' x ow' g s o n => ?_, fun σ' G' H' es' ow' g s o n => n.elim, fun σ' G' H' es' ow' g s o n => n.elim⟩
  · exact q _ G' H' g.gn (by rw [n]; exact .of .non)
  · exact q v G' H' g.gn (by rw [← n]; exact s)
theorem sp_len {n : Nat} {rel : List Sl → Sl → Prop} : ∀ vs H Q E, spP K n rel vs H Q E → vs.length = n := fun _ _ _ _ h => h.1
end
end DL

-- D5
set_option Elab.async false
set_option linter.all false
set_option maxRecDepth 100000
set_option maxHeartbeats 2000000
/-! Own layer, part 5: the text, what the globals hold, defs by name, len(set(t)). -/
namespace DL
open PySem PySem.Calls L2 PyProof.Rows

abbrev PW_ : Program := PySem.Challenge.pw_parkedrows_k25_whole_lists_and_counts_of
def topS (i : Nat) : Stmt := PySem.Challenge.pw_parkedrows_k25_whole_lists_and_counts_of.main.body.getD i (.Pass ⟨0, 0, 0, 0⟩)
/-- what the module's names hold: the built-ins are free, the constants -/
structure Bl (mg : Str → Option Value) : Prop where
  len : mg "len" = none
  all : mg "all" = none
  any : mg "any" = none
  sorted : mg "sorted" = none
  tuple : mg "tuple" = none
  range : mg "range" = none
  isinstance : mg "isinstance" = none
  int : mg "int" = none
  bool : mg "bool" = none
  set : mg "set" = none
  zip : mg "zip" = none
  list : mg "list" = none
  abs : mg "abs" = none
  gCARS : ∃ u, mg "CARS" = some u ∧ RelV (.int 12) u
  gDRAWN : ∃ u, mg "DRAWN" = some u ∧ RelV (.int 4) u
  gTOLD : ∃ u, mg "TOLD" = some u ∧ RelV (.int 60) u
/-- the def of the name x keeps its promise -/
structure Df (P : Program) (w : World) (K : Kf) (mg : Str → Option Value) (base : Heap) (CX : CXT) (k : Nat) (x : Str) (ps : List Str) (sp : Sp) : Prop where
  ex : ∃ f fd, FnOk P w K mg base CX k f fd ps sp ∧ mg x = some (.ref f) ∧ PySem.W.keepIn K (.ref f) = true ∧ Binds K fd ps []
theorem Df.mono {P : Program} {w : World} {K : Kf} {mg : Str → Option Value} {base : Heap} {CX : CXT} {j k : Nat} {x : Str} {ps : List Str} {sp : Sp} (h : Df P w K mg base CX j x ps sp) (l : j ≤ k) : Df P w K mg base CX k x ps sp := by
  obtain ⟨f, fd, a, b⟩ := h.ex
  exact ⟨f, fd, a.mono l, b⟩
section
variable {X : Cx} {K : Kf} {es : Es}
theorem pe_globE {x : Str} {v : V} {pos : Pos} (hg : Gl X x) (hm : ∃ u, X.mg x = some u ∧ RelV v u) (hd : (x == ("__debug__" : Str)) = false := by decide) : PE X (.Name x pos) (tC v) := by
  obtain ⟨u, h1, h2⟩ := hm
  exact pe_glob hg h1 h2 hd
theorem pe_df {CX : CXT} {k : Nat} {x : Str} {ps : List Str} {sp : Sp} {E : XK} {p pos : Pos} {e : Expr} {es : List Expr} {t : TA} (D : Df X.prog X.w X.K X.mg X.base CX k x ps sp) (hr : Room k X.A) (hg : Gl X x) (hx : Passes CX X E) (ha : PA X (e :: es) t)
    (hdb : (x == ("__debug__" : Str)) = false := by decide) (he : starEach (e :: es) X.env = (false, eval e X.env) :: starEach es X.env := by rfl) (hpl : (backTo pos (starEach es X.env)).any (·.1) = false := by rfl) :
    PE X (.Call (.Name x p) (e :: es) [] pos) (tCall sp [] E t) := by
  obtain ⟨f, fd, F, g, kp, b⟩ := D.ex
  exact pe_call F hr hg g kp b .nil hx ha hdb he hpl
/-- len(set(t)), t a tuple of unlike ints -/
def tLenSetT (K : Kf) (ta : TE) : TE := fun σ H Q => ta σ H fun x H1 => ∃ (l : Addr) (ns : List Int), x = .ref l ∧ SqT K H1 l (ns.map V.int) ∧ ns.Nodup ∧ ns.length ≤ 1000 ∧ Q (.int (ns.length : Nat)) H1
theorem pe_lenSet {a : Expr} {ta : TE} {p p2 q pos : Pos} (hg : Gl X "len") (hm : X.mg "len" = none) (hg2 : Gl X "set") (hm2 : X.mg "set" = none) (ha : PE X a ta) (hc : X.calm = true := by rfl)
    (na : starEach [a] X.env = (false, eval a X.env) :: starEach [] X.env := by rfl) : PE X (.Call (.Name "len" p) [.Call (.Name "set" p2) [a] [] q] [] pos) (tLenSetT X.K ta) := by
  refine ⟨fun pins s σ H Q I h => ?_⟩
  refine Call_ (ld_blt I hg hm boot_len ?_)
  refine PyProof.Rows.callWith_builtin1 (PyProof.Rows.args_cons ?_ rfl) rfl rfl
  refine Call_ (ld_blt I hg2 hm2 boot_set ?_)
  refine PyProof.Rows.callWith_type1 (PyProof.Rows.args_cons (thn (ha.run pins s σ H _ I h) fun v s1 ⟨x, H1, I1, r1, q1⟩ => PyProof.Rows.args_nil ?_) na) na rfl
  obtain ⟨l, ns, rfl, hq, hnd, hl, q1⟩ := q1
  cases r1
  obtain ⟨its, r, pt, hz⟩ := I1.tuple hq
  have hi : IntsAre its.toArray.toList ns := by simpa using Vals.ints r
  refine call_set_tupI ns (I1.ok.hd hc) (show s1.heap.IsTuple l its.toArray from pt) hi (by unfold scanBound; omega) fun h' tk c R1 hcn k => ?_
  refine PyProof.Rows.args_nil ?_
  obtain ⟨o, es, ep, t, ho, hex, hdt, g, nd, hm2, hb, hf, hn, hr, hl2⟩ := R1
  have I2 : Inv X pins σ H1 { s1 with heap := h', toks := tk } := I1.kept k
  have hlen : es.size = ns.length := by
    have pm : (es.toList.map keyOf).Perm ns := (List.perm_ext_iff_of_nodup nd hnd).mpr fun j => by rw [← hm2 j, decide_eq_true_eq]
    have := pm.length_eq
    rw [List.length_map, Array.length_toList] at this
    exact this
  refine call_len_set ho hex hdt hf (by rw [hlen]; omega) ⟨.int ns.length, H1, I2.tok _, ⟨_, by rw [hlen]⟩, q1⟩
theorem ev_lenSet {te : TE} {ns : List Int} (h : EvD K te es (.tuple (ns.map .int))) (hn : ns.Nodup) (hl : ns.length ≤ 1000) : EvD K (tLenSetT K te) es (.int ns.length) := fun σ G H e s Q q => h σ G H e s _ fun v G1 H1 g1 k1 => by
  obtain ⟨a, xs, rfl, h1, h2⟩ := dp_tup k1
  rw [dpa_ints h2] at h1
  exact ⟨a, ns, rfl, ex_t g1.s h1, hn, hl, q _ G1 H1 g1 (.of (.int _))⟩
end
section
variable {X : Cx} {K : Kf}
theorem opK_catS (h : X.K = K := by rfl) : OpR X (binaryOp .Add) (rCatS K) := h ▸ op_catS
theorem opK_catA (h : X.K = K := by rfl) : OpR X (binaryOp .Add) (rCatA K) := h ▸ op_catA
theorem opK_eqD (hu : X.A.units + 64 < cLine) (h : X.K = K := by rfl) : OpR X (compareOp .Eq) (rEqD K) := h ▸ op_eqD hu
theorem opK_neD (hu : X.A.units + 64 < cLine) (h : X.K = K := by rfl) : OpR X (compareOp .NotEq) (rNeD K) := h ▸ op_neD hu
theorem opK_in (h : X.K = K := by rfl) : OpR X (compareOp .In) (rIn K false) := h ▸ op_in_seq
theorem opK_notIn (h : X.K = K := by rfl) : OpR X (compareOp .NotIn) (rIn K true) := h ▸ op_notIn_seq
theorem ixK_list (h : X.K = K := by rfl) : IxR X (rIxL K) := h ▸ ix_list
theorem ixK_tup (h : X.K = K := by rfl) : IxR X (rIxT K) := h ▸ ix_tup
theorem crK_len (h : X.K = K := by rfl) : CallR X (.builtin "len") (rLen K) := h ▸ cr_len
theorem crK_all (hc : X.calm = true) (h : X.K = K := by rfl) : CallR X (.builtin "all") (rAll K) := h ▸ cr_all hc
theorem crK_any (hc : X.calm = true) (h : X.K = K := by rfl) : CallR X (.builtin "any") (rAny K) := h ▸ cr_any hc
theorem crK_sort (hu : X.A.units + 64 < cLine) (h : X.K = K := by rfl) : CallR X (.builtin "sorted") (rSortD K) := h ▸ cr_sortD hu
theorem crK_isi (h : X.K = K := by rfl) : CallR X (.builtin "isinstance") (rIsi K) := h ▸ call_isi
theorem crK_tupOf (h : X.K = K := by rfl) : CallR X (.type "tuple") (rTupOf K) := h ▸ cr_tupOf
theorem crK_lstOf (h : X.K = K := by rfl) : CallR X (.type "list") (rLstOf K) := h ▸ cr_lstOf
theorem slK_tupA (h : X.K = K := by rfl) : SlR X (rSlA K) := h ▸ sl_tupA
theorem piK_list {tg l : Expr} {tl : TE} (hl : PE X l tl) (h : X.K = K := by rfl) : PI X tg l (iList K tl) := h ▸ pi_list hl
theorem piK_tup {tg l : Expr} {tl : TE} (hl : PE X l tl) (h : X.K = K := by rfl) : PI X tg l (iTup K tl) := h ▸ pi_tup hl
theorem piK_zip {e e2 : Expr} {ta : TA} {p pos tpos : Pos} {elts : List Expr} {kk : Nat} (hg : Gl X "zip") (hm : X.mg "zip" = none) (ha : PA X [e, e2] ta) (h : X.K = K := by rfl)
    (hs : starEach [e, e2] X.env = (false, eval e X.env) :: starEach [e2] X.env := by rfl) (hpl : (backTo pos (starEach [e2] X.env)).any (·.1) = false := by rfl) : PI X (.Tuple elts kk tpos) (.Call (.Name "zip" p) [e, e2] [] pos) (RZ.iZipA K ta) := h ▸ RZ.pi_zipA hg hm ha hs hpl
end
section
variable {P : Program} {w : World} {K : Kf} {mg : Str → Option Value} {base : Heap}
/-- a pure def -/
theorem df_ok {x : Str} {st : Stmt} {f : Addr} {fd : FuncData} {NN ps : List Str} {n k : Nat} {rel : List Sl → Sl → Prop} (F : Fun K x x st f fd) (g : mg x = some (.ref f)) (S : FnScope NN ps (defScope st)) (hp : ps.length = n) (hb : Binds K fd ps [])
    (body : ∀ (cdv : Value) (A : Around) (outer : List Env) (s : Shared) (H : Hp) (E : XK), Room k (A.deeper (envOfC x (defScope st) s.heap.objs.size f cdv)) →
      ∃ t, PSs (cxOf CX0 P w K mg base NN x (defScope st) f cdv A outer s H E).nox (defBody st) t ∧ ∀ xs y, rel xs y → xs.length = n → Run K t (startE NN.length xs) [] { nx := fun _ _ => y = .d .none, rt := fun x _ => x = y }) :
    Df P w K mg base CX0 (k + 1) x ps (spP K n rel) := by
  have hpn : n ≤ NN.length := by have := congrArg List.length S.pre; rw [List.length_take] at this; omega
  refine ⟨f, fd, F.ok S (fun vs H Q E h => (sp_len vs H Q E h).trans hp.symm) (fun cdv A outer s H vs Q E hr h => ?_), g, F.kp, hb⟩
  obtain ⟨t, h1, h2⟩ := body cdv A outer s H E hr
  exact ⟨t, h1, body_of (E := E) h hpn h2⟩
end
end DL

-- D6
set_option Elab.async false
set_option linter.all false
set_option maxRecDepth 100000
set_option maxHeartbeats 2000000
/-! Own layer, part 6: forms one uses. -/
namespace DL
open PySem PySem.Calls L2 PyProof.Rows
section
variable {K : Kf} {es es' : Es} {ta tb te tc : TE} {t u : TT} {x y z : Sl} {r : R2} {d e : PyData} {ow : Ow} {N : DEnds}
def EvAD (K : Kf) (ta : TA) (es : Es) (ds : List PyData) : Prop := EvA K ta es (ds.map .d)
theorem ead_nil : EvAD K tNil es [] := ea_nil
theorem ead_cons {tr : TA} {ds : List PyData} (h : EvD K ta es d) (hr : EvAD K tr es ds) : EvAD K (tCons ta tr) es (d :: ds) := ea_cons h hr
theorem ev_tupD {ta : TA} {ds : List PyData} (h : EvAD K ta es ds) (hl : ds.length ≤ 100000 := by first | decide | simp) : EvD K (tTup ta) es (.tuple ds) := ev_tup h hl
theorem ev_lstD {ta : TA} {ds : List PyData} (h : EvAD K ta es ds) (hl : ds.length ≤ 100000 := by first | decide | simp) : EvD K (tLst ta) es (.list ds) := ev_lst h hl
theorem EvD.to (h : EvD K te es d) (q : d = e) : EvD K te es e := q ▸ h
theorem EvA.to {ta : TA} {xs ys : List Sl} (h : EvA K ta es xs) (q : xs = ys) : EvA K ta es ys := q ▸ h
/-- whole numbers -/
def dN (n : Nat) : PyData := .int n
theorem ev_add {i j : Int} (h1 : EvD K ta es (.int i)) (h2 : EvD K tb es (.int j)) : EvD K (tOp (rI0 fun i j => .int (i + j)) ta tb) es (.int (i + j)) := ev_op h1 h2 (rv_I0 rfl)
theorem ev_sub {i j : Int} (h1 : EvD K ta es (.int i)) (h2 : EvD K tb es (.int j)) : EvD K (tOp (rI0 fun i j => .int (i - j)) ta tb) es (.int (i - j)) := ev_op h1 h2 (rv_I0 rfl)
theorem ev_lt {i j : Int} (h1 : EvD K ta es (.int i)) (h2 : EvD K tb es (.int j)) : EvD K (tOp (rI0 fun i j => .bl (decide (i < j))) ta tb) es (.bool (decide (i < j))) := ev_op h1 h2 (rv_I0 rfl)
theorem ev_le {i j : Int} (h1 : EvD K ta es (.int i)) (h2 : EvD K tb es (.int j)) : EvD K (tOp (rI0 fun i j => .bl (decide (i ≤ j))) ta tb) es (.bool (decide (i ≤ j))) := ev_op h1 h2 (rv_I0 rfl)
theorem ev_gt {i j : Int} (h1 : EvD K ta es (.int i)) (h2 : EvD K tb es (.int j)) : EvD K (tOp (rI0 fun i j => .bl (decide (j < i))) ta tb) es (.bool (decide (j < i))) := ev_op h1 h2 (rv_I0 rfl)
theorem ev_ge {i j : Int} (h1 : EvD K ta es (.int i)) (h2 : EvD K tb es (.int j)) : EvD K (tOp (rI0 fun i j => .bl (decide (j ≤ i))) ta tb) es (.bool (decide (j ≤ i))) := ev_op h1 h2 (rv_I0 rfl)
theorem ev_eqI {i j : Int} (h1 : EvD K ta es (.int i)) (h2 : EvD K tb es (.int j)) : EvD K (tOp rEq ta tb) es (.bool (decide (i = j))) := ev_op h1 h2 rv_eqI
theorem ev_neI {i j : Int} (h1 : EvD K ta es (.int i)) (h2 : EvD K tb es (.int j)) : EvD K (tOp rNe ta tb) es (.bool (!decide (i = j))) := ev_op h1 h2 rv_neI
theorem ev_mul {i j : Int} (h1 : EvD K ta es (.int i)) (h2 : EvD K tb es (.int j)) (hc : CMulW i j) : EvD K (tOp (rI CMulW fun i j => .int (i * j)) ta tb) es (.int (i * j)) := ev_op h1 h2 (rv_I hc rfl)
theorem ev_fdiv {i j : Int} (h1 : EvD K ta es (.int i)) (h2 : EvD K tb es (.int j)) (hc : CDivW i j) : EvD K (tOp (rI CDivW fun i j => .int (i / j)) ta tb) es (.int (i / j)) := ev_op h1 h2 (rv_I hc rfl)
theorem ev_mod {i j : Int} (h1 : EvD K ta es (.int i)) (h2 : EvD K tb es (.int j)) (hc : 0 < j) : EvD K (tOp (rI (fun _ j => 0 < j) fun i j => .int (i % j)) ta tb) es (.int (i % j)) := ev_op h1 h2 (rv_I (C := fun _ j => 0 < j) hc rfl)
theorem ev_pow {i j : Int} (h1 : EvD K ta es (.int i)) (h2 : EvD K tb es (.int j)) (hc : CPow i j) : EvD K (tOp (rI CPow fun i j => .int (i ^ j.toNat)) ta tb) es (.int (i ^ j.toNat)) := ev_op h1 h2 (rv_I hc rfl)
theorem ev_neg {i : Int} (h1 : EvD K ta es (.int i)) : EvD K (tUn (rU fun i => .int (-i)) ta) es (.int (-i)) := ev_un h1 (ru_I rfl)
theorem ev_catL {ds fs : List PyData} (h1 : EvD K ta es (.list ds)) (h2 : EvD K tb es (.list fs)) (hl : ds.length + fs.length ≤ 100000) : EvD K (tOp (rCatS K) ta tb) es (.list (ds ++ fs)) := ev_op h1 h2 (rv_catL hl)
theorem ev_catT {ds fs : List PyData} (h1 : EvD K ta es (.tuple ds)) (h2 : EvD K tb es (.tuple fs)) (hl : ds.length + fs.length ≤ 100000) : EvD K (tOp (rCatA K) ta tb) es (.tuple (ds ++ fs)) := ev_op h1 h2 (rv_catT hl)
theorem ev_ixT {ds : List PyData} {i : Int} (h1 : EvD K ta es (.tuple ds)) (h2 : EvD K tb es (.int i)) (ha : atI ds i = some d) : EvD K (tOp (rIxT K) ta tb) es d := ev_op h1 h2 (rv_ixT ha)
theorem ev_ixL {ds : List PyData} {i : Int} (h1 : EvD K ta es (.list ds)) (h2 : EvD K tb es (.int i)) (ha : atI ds i = some d) : EvD K (tOp (rIxL K) ta tb) es d := ev_op h1 h2 (rv_ixL ha)
theorem ev_eqD (h1 : EvD K ta es d) (h2 : EvD K tb es e) (s1 : SeqAt.shaped d = true) (s2 : SeqAt.shaped e = true) : EvD K (tOp (rEqD K) ta tb) es (.bool (PyData.eqv d e)) := ev_op h1 h2 (rv_eqD s1 s2)
theorem ev_neD (h1 : EvD K ta es d) (h2 : EvD K tb es e) (s1 : SeqAt.shaped d = true) (s2 : SeqAt.shaped e = true) : EvD K (tOp (rNeD K) ta tb) es (.bool (!PyData.eqv d e)) := ev_op h1 h2 (rv_neD s1 s2)
theorem ev_lenL {ds : List PyData} (h : EvD K te es (.list ds)) : EvD K (tCB (rLen K) (tCons te tNil)) es (.int ds.length) := ev_cb (ea_one h) rc_lenL
theorem ev_lenT {ds : List PyData} (h : EvD K te es (.tuple ds)) : EvD K (tCB (rLen K) (tCons te tNil)) es (.int ds.length) := ev_cb (ea_one h) rc_lenT
theorem ev_all {bs : List Bool} {ds : List PyData} (h : EvD K te es (.list ds)) (q : ds = bs.map .bool) : EvD K (tCB (rAll K) (tCons te tNil)) es (.bool (bs.all id)) := ev_cb (ea_one (q ▸ h)) rc_all
theorem ev_any {bs : List Bool} {ds : List PyData} (h : EvD K te es (.list ds)) (q : ds = bs.map .bool) : EvD K (tCB (rAny K) (tCons te tNil)) es (.bool (bs.any id)) := ev_cb (ea_one (q ▸ h)) rc_any
theorem ev_tupOf {ds : List PyData} (h : EvD K te es (.list ds)) : EvD K (tCB (rTupOf K) (tCons te tNil)) es (.tuple ds) := ev_cb (ea_one h) rc_tupOf
theorem ev_lstOf {ds : List PyData} (h : EvD K te es (.list ds)) : EvD K (tCB (rLstOf K) (tCons te tNil)) es (.list ds) := ev_cb (ea_one h) rc_lstOf
theorem ev_isi {T : String} {b : Bool} (h : EvD K te es d) (hb : kitB (tyD d) T = some b) : EvD K (tCB (rIsi K) (tCons te (tCons (tC (.ty T)) tNil))) es (.bool b) := ev_cb (ea_two h ev_r) (rc_isi hb)
/-- tuple(range(n)) -/
theorem ev_tupRg {n : Int} (h : EvD K te es (.int n)) (h0 : 0 ≤ n) (h1 : n ≤ 100000) : EvD K (tTupRg (tRg1 te)) es (.tuple (rngD 0 n.toNat)) := fun σ G H e s Q q => h σ G H e s _ fun v G1 H1 g1 k1 => by
  rw [dp_int k1]
  refine ⟨n, rfl, RgOk.of_le (by omega) (by omega) (by omega) h0, fun p hp => q _ _ _ (g1.trans (Gn.new g1.s hp)) (.of (.tup (SqT.of upd_same) ?_))⟩
  have : ∀ (l : List Nat), DpAll K (upd G1 p (.tup (rgV 0 n))) (l.map fun (i : Nat) => V.int (0 + (i : Int))) (l.map fun (i : Nat) => PyData.int (0 + (i : Int))) := by
    intro l
    induction l with
    | nil => exact .nil
    | cons a l ih => exact .cons (.int _) ih
  have h2 := this (List.range n.toNat)
  have e1 : (List.range n.toNat).map (fun (i : Nat) => V.int (0 + (i : Int))) = rgV 0 n := by unfold rgV; rw [Int.sub_zero]
  rw [e1] at h2
  exact h2
/-- in, not in: flat items -/
theorem dpa_flat {G : Hp} : ∀ {ds : List PyData} {xs : List V}, DpAll K G xs ds → (∀ d, d ∈ ds → (∃ i, d = .int i)) → xs.all flatV = true ∧ ∀ i : Int, inV (.int i) xs = ds.any fun d => match d with | .int j => decide (i = j) | _ => false
  | [], _, h, _ => by cases h; exact ⟨rfl, fun _ => rfl⟩
  | d :: ds, _, h, hf => by
    cases h with | cons h1 h2 =>
    obtain ⟨j, rfl⟩ := hf d (List.mem_cons_self ..)
    cases h1
    obtain ⟨a, b⟩ := dpa_flat h2 fun d hd => hf d (List.mem_cons_of_mem _ hd)
    refine ⟨by rw [List.all_cons, a]; rfl, fun i => ?_⟩
    have := b i
    unfold inV at this ⊢
    rw [List.any_cons, List.any_cons, this]
    congr 1
    show (eqV (.int j) (.int i)) = decide (i = j)
    show (j == i) = decide (i = j)
    by_cases e : j = i
    · subst e; simp
    · rw [beq_eq_false_iff_ne.mpr e, decide_eq_false (fun z => e z.symm)]
def inI (i : Int) (ns : List Int) : Bool := ns.any fun j => decide (i = j)
theorem ev_niT {i : Int} {ns : List Int} (h1 : EvD K ta es (.int i)) (h2 : EvD K tb es (.tuple (ns.map .int))) : EvD K (tOp (rIn K true) ta tb) es (.bool (!inI i ns)) := ev_op h1 h2 fun G H v u ex k1 k2 Q q => by
  rw [dp_int k1]
  obtain ⟨a, xs, rfl, e1, e2⟩ := dp_tup k2
  obtain ⟨f1, f2⟩ := dpa_flat e2 fun d hd => by obtain ⟨j, _, rfl⟩ := List.mem_map.mp hd; exact ⟨j, rfl⟩
  refine ⟨a, xs, rfl, .inr (ex_t ex e1), rfl, f1, ?_⟩
  have : inV (.int i) xs = inI i ns := by rw [f2 i, List.any_map]; rfl
  rw [this]
  exact q _ G H (Gn.refl ex) (.of (.bl _))
theorem ev_isT {i : Int} {ns : List Int} (h1 : EvD K ta es (.int i)) (h2 : EvD K tb es (.tuple (ns.map .int))) : EvD K (tOp (rIn K false) ta tb) es (.bool (inI i ns)) := ev_op h1 h2 fun G H v u ex k1 k2 Q q => by
  rw [dp_int k1]
  obtain ⟨a, xs, rfl, e1, e2⟩ := dp_tup k2
  obtain ⟨f1, f2⟩ := dpa_flat e2 fun d hd => by obtain ⟨j, _, rfl⟩ := List.mem_map.mp hd; exact ⟨j, rfl⟩
  refine ⟨a, xs, rfl, .inr (ex_t ex e1), rfl, f1, ?_⟩
  have : inV (.int i) xs = inI i ns := by rw [f2 i, List.any_map]; rfl
  rw [this]
  exact q _ G H (Gn.refl ex) (.of (.bl _))
/-- a comprehension whose items are of a written list -/
theorem ev_lcM {α : Type} {wi : TI} {g : TG} {tt : TT} {vs : List Nat} {js : List Nat} (en : α → PyData) (as : List α) (p : α → Bool) (f : α → PyData) (hI : EvI K wi es (as.map en)) (inj : ∀ a b, en a = en b → a = b)
    (hs : ∀ a, a ∈ as → ∃ es2, EvG K g (wipeE es vs) (.d (en a)) es2 js ∧ EvT K tt es2 (p a) ∧ (p a = true → EvD K te es2 (f a))) (hj : ∀ j ∈ js, j ∈ vs) (hl : as.length ≤ 100000) :
    EvD K (tLc wi g tt te vs) es (.list ((as.filter p).map f)) := by
  classical
  let pick : PyData → Option α := fun d => if h : ∃ a, en a = d then some h.choose else none
  have hp : ∀ a, pick (en a) = some a := fun a => by
    have h : ∃ b, en b = en a := ⟨a, rfl⟩
    show (if h : ∃ b, en b = en a then some h.choose else none) = some a
    rw [dif_pos h]
    exact congrArg some (inj _ _ h.choose_spec)
  have key := ev_lc (K := K) (es := es) (wi := wi) (g := g) (tt := tt) (te := te) (vs := vs) (js := js) (ds := as.map en) (fun d => match pick d with | some a => p a | none => false) (fun d => match pick d with | some a => f a | none => .none) hI (fun d hd => by
    obtain ⟨a, ha, rfl⟩ := List.mem_map.mp hd
    obtain ⟨e2, a1, a2, a3⟩ := hs a ha
    refine ⟨e2, a1, ?_, ?_⟩
    · show EvT K tt e2 (match pick (en a) with | some a => p a | none => false)
      rw [hp]; exact a2
    · show (match pick (en a) with | some a => p a | none => false) = true → EvD K te e2 (match pick (en a) with | some a => f a | none => .none)
      rw [hp]; exact a3) hj (by rw [List.length_map]; exact hl)
  refine key.to ?_
  congr 1
  clear key hs hl hI
  unfold lcD
  induction as with
  | nil => rfl
  | cons a as ih =>
    rw [List.map_cons, List.filter_cons, List.filter_cons]
    have : (match pick (en a) with | some a => p a | none => false) = p a := by rw [hp]
    rw [this]
    have f2 : (match pick (en a) with | some a => f a | none => PyData.none) = f a := by rw [hp]
    by_cases h : p a = true
    · rw [if_pos h, if_pos h, List.map_cons, List.map_cons, ih, f2]
    · rw [if_neg h, if_neg h, ih]
end
end DL

-- P1
set_option Elab.async false
set_option linter.all false
set_option maxRecDepth 100000
set_option maxHeartbeats 4000000
/-! Pure defs, part 1. -/
namespace DL
open PySem PySem.Calls L2 PyProof.Rows
abbrev Arc := Int × Int
def dA (a : Arc) : PyData := .tuple [.int a.1, .int a.2]
def dO (o : List Arc) : PyData := .tuple (o.map dA)
def dL (l : List Int) : PyData := .tuple (l.map .int)
abbrev Fld := List Int × List Arc
def dF (f : Fld) : PyData := .tuple [dL f.1, dO f.2]
theorem dA_inj {a b : Arc} (h : dA a = dA b) : a = b := by
  unfold dA at h
  injection h with h
  injection h with h1 h2
  injection h2 with h2 _
  injection h1 with h1
  injection h2 with h2
  exact Prod.ext h1 h2
section
variable {P : Program} {w : World} {K : Kf} {mg : Str → Option Value} {base : Heap}

theorem k_ii : kitB "int" "int" = some true := by decide +kernel
theorem k_ib : kitB "int" "bool" = some false := by decide +kernel
theorem k_bi : kitB "bool" "int" = some true := by decide +kernel
theorem k_bb : kitB "bool" "bool" = some true := by decide +kernel
theorem k_ni : kitB "NoneType" "int" = some false := by decide +kernel
theorem k_si : kitB "str" "int" = some false := by decide +kernel
theorem k_ti : kitB "tuple" "int" = some false := by decide +kernel
theorem k_tt : kitB "tuple" "tuple" = some true := by decide +kernel
/-! ### is_whole -/
def isW : PyData → Int → Int → Bool
  | .int i, lo, hi => decide (lo ≤ i) && decide (i ≤ hi)
  | _, _, _ => false
def Scal : PyData → Prop
  | .none => True | .bool _ => True | .int _ => True | .str _ => True | .tuple _ => True | _ => False
def rel_is_whole (xs : List Sl) (y : Sl) : Prop := ∃ d lo hi, xs = [.d d, .d (.int lo), .d (.int hi)] ∧ Scal d ∧ y = .d (.bool (isW d lo hi))
abbrev s_is_whole : Stmt := topS 12
abbrev N_is_whole : List Str := ["value", "low", "high"]
theorem sc_is_whole : FnScope N_is_whole ["value", "low", "high"] (defScope s_is_whole) := ⟨rfl, rfl, rfl, by decide +kernel, rfl, by decide +kernel, by decide +kernel⟩
theorem df_is_whole {f : Addr} {fd : FuncData} {k : Nat} (F : Fun K "is_whole" "is_whole" s_is_whole f fd) (g : mg "is_whole" = some (.ref f)) (T : Bl mg) :
    Df P w K mg base CX0 (k + 1) "is_whole" ["value", "low", "high"] (spP K 3 rel_is_whole) := by
  refine df_ok F g sc_is_whole rfl (F.binds fun _ _ _ _ _ _ us hl => match us, hl with | [_, _, _], _ => rfl) fun cdv A outer s H E hr => ⟨_, (pss_one (ps_ret (pe_and (pe_callB (crK_isi (K := K)) (by rfl) T.isinstance (by decide +kernel) (pa_cons (pv 0) (pa_cons (pe_bltn (v := .ty "int") (u := .type "int") (by rfl) T.int (by decide +kernel) rfl) pa_nil))) (pe_and (pe_not (pe_callB (crK_isi (K := K)) (by rfl) T.isinstance (by decide +kernel) (pa_cons (pv 0) (pa_cons (pe_bltn (v := .ty "bool") (u := .type "bool") (by rfl) T.bool (by decide +kernel) rfl) pa_nil)))) (pe_one (pe_chain op_le op_le (pv 1) (pv 0) (pv 2))))))), fun xs y r hl => ?_⟩
  obtain ⟨d, lo, hi, rfl, sc, rfl⟩ := r
  refine run_ret (x := .d (.bool (isW d lo hi))) ?_ rfl
  have e0 : EvD K (tVar 0) (startE N_is_whole.length [.d d, .d (.int lo), .d (.int hi)]) d := ev_var rfl
  cases d with
  | int i =>
    exact (ev_andV (ev_isi e0 (b := true) k_ii) fun _ => ev_andV (ev_notV (ev_isi e0 (b := false) k_ib)) fun _ => ev_chain (x := .d (.int lo)) (z := .d (.int hi)) (a := decide (lo ≤ i)) (b := decide (i ≤ hi)) (ev_var rfl) e0 (rv_I0 rfl) (fun _ => ev_var rfl) (fun _ => rv_I0 rfl)).to rfl
  | none => exact (ev_andV (b := false) (ev_isi e0 (b := false) k_ni) fun z => by cases z).to rfl
  | str i => exact (ev_andV (b := false) (ev_isi e0 (b := false) k_si) fun z => by cases z).to rfl
  | tuple i => exact (ev_andV (b := false) (ev_isi e0 (b := false) k_ti) fun z => by cases z).to rfl
  | bool i => exact (ev_andV (ev_isi e0 (b := true) k_bi) fun _ => ev_andV (b := false) (ev_notV (ev_isi e0 (b := true) k_bb)) fun z => by cases z).to rfl
  | list i => exact sc.elim
  | dict i => exact sc.elim

/-! ### power_of -/
def rel_power_of (xs : List Sl) (y : Sl) : Prop := ∃ a n : Int, xs = [.d (.int a), .d (.int n)] ∧ 0 ≤ n ∧ n ≤ 100 ∧ a.natAbs < 2 ^ 200 ∧ y = .d (.int (a ^ n.toNat))
theorem pow_small {a : Int} (ha : a.natAbs < 2 ^ 200) : ∀ k : Nat, (a ^ k).natAbs < 2 ^ (200 * k + 1)
  | 0 => by rw [Int.pow_zero]; decide
  | k + 1 => by
    rw [Int.pow_succ]
    have := wide_lt (pow_small ha k) ha
    refine Nat.lt_of_lt_of_le this (Nat.pow_le_pow_right (by decide) (by omega))
theorem fold_pow (a : Int) : ∀ (n : Nat) (l : List PyData), l.length = n → l.foldl (fun (b : Int) (_ : PyData) => b * a) 1 = a ^ n := by
  intro n
  induction n with
  | zero => intro l h; have : l = [] := List.length_eq_zero_iff.mp h; subst this; rw [Int.pow_zero]; rfl
  | succ n ih =>
    intro l h
    have hne : l ≠ [] := fun z => by subst z; cases h
    rw [← List.dropLast_concat_getLast hne, List.foldl_append]
    show (l.dropLast.foldl (fun (b : Int) (_ : PyData) => b * a) 1) * a = a ^ (n + 1)
    rw [ih l.dropLast (by rw [List.length_dropLast, h]; rfl), Int.pow_succ]
theorem rngD_len (lo : Int) (n : Nat) : (rngD lo n).length = n := by unfold rngD; rw [List.length_map, List.length_range]
abbrev s_power_of : Stmt := topS 16
abbrev N_power_of : List Str := ["number", "times", "found", "turn"]
theorem sc_power_of : FnScope N_power_of ["number", "times"] (defScope s_power_of) := ⟨rfl, rfl, rfl, by decide +kernel, rfl, by decide +kernel, by decide +kernel⟩
theorem df_power_of {f : Addr} {fd : FuncData} {k : Nat} (F : Fun K "power_of" "power_of" s_power_of f fd) (g : mg "power_of" = some (.ref f)) (T : Bl mg) :
    Df P w K mg base CX0 (k + 1) "power_of" ["number", "times"] (spP K 2 rel_power_of) := by
  refine df_ok F g sc_power_of rfl (F.binds fun _ _ _ _ _ _ us hl => match us, hl with | [_, _], _ => rfl) fun cdv A outer s H E hr => ⟨_, (pss_cons (ps_set (i := 2) sc_power_of.nd rfl (.inl rfl) pe_int)
      (pss_cons (ps_for PassesOwn.never rfl (pi_range1 (by rfl) T.range (pa_cons (pv 1) pa_nil)) (pg_name (i := 3) sc_power_of.nd rfl (Or.inl rfl)) (pss_one (ps_set (i := 2) sc_power_of.nd rfl (.inl rfl) (pe_op op_mulW (pv 2) (pv 0)))))
      (pss_one (ps_ret (pv 2))))), fun xs y r hl => ?_⟩
  obtain ⟨a, n, rfl, h0, h1, ha, rfl⟩ := r
  refine run_seq (run_asg ev_int ?_)
  refine run_seq ?_
  refine run_fold (β := Int) (enc := fun b => [.d (.int a), .d (.int n), .d (.int b), .no]) (eo := fun _ => []) (step := fun b _ => b * a) (b0 := 1) (js := [3]) (ei_rng1 (ea_one (ev_var rfl)) (by omega) (by omega)) (.eq (.eq (.eq (.no .nil)))) rfl (fun i d hd => ⟨_, eg_name, ?_⟩) (hd := fun e le => ?_)
  · have hi : i < n.toNat := by
      have := (List.getElem?_eq_some_iff.mp hd).1
      rw [rngD_len] at this; exact this
    have hk : ((rngD 0 n.toNat).take i).foldl (fun (b : Int) (_ : PyData) => b * a) 1 = a ^ i := fold_pow a i _ (by rw [List.length_take, rngD_len]; omega)
    rw [hk]
    refine run_asg (ev_mul (ev_var rfl) (ev_var rfl) (wide_mul (pow_small ha i) ha (by omega) (by omega) (by omega))) ⟨?_, rfl⟩
    exact .eq (.eq (.eq (.no .nil)))
  · rw [fold_pow a n.toNat _ (rngD_len _ _)] at le
    refine (run_ret (ev_var (i := 2) (x := .d (.int (a ^ n.toNat))) rfl) rfl).le le

/-! ### spanned -/
def spannedM (o : List Arc) (a b : Int) : Bool := o.any fun p => decide (p.1 ≤ a) && decide (b ≤ p.2)
def rel_spanned (xs : List Sl) (y : Sl) : Prop := ∃ o a b, xs = [.d (dO o), .d (.int a), .d (.int b)] ∧ o.length ≤ 1000 ∧ y = .d (.bool (spannedM o a b))
abbrev s_spanned : Stmt := topS 23
abbrev N_spanned : List Str := ["spots", "first", "last", "one", "other"]
theorem sc_spanned : FnScope N_spanned ["spots", "first", "last"] (defScope s_spanned) := ⟨rfl, rfl, rfl, by decide +kernel, rfl, by decide +kernel, by decide +kernel⟩
theorem df_spanned {f : Addr} {fd : FuncData} {k : Nat} (F : Fun K "spanned" "spanned" s_spanned f fd) (g : mg "spanned" = some (.ref f)) (T : Bl mg) :
    Df P w K mg base CX0 (k + 1) "spanned" ["spots", "first", "last"] (spP K 3 rel_spanned) := by
  refine df_ok F g sc_spanned rfl (F.binds fun _ _ _ _ _ _ us hl => match us, hl with | [_, _, _], _ => rfl) fun cdv A outer s H E hr => ⟨_, (pss_one (ps_ret (pe_callB (crK_any (K := K) rfl) (by rfl) T.any (by decide +kernel) (pa_cons (pe_lc (own := [("one", 3), ("other", 4)]) (g := (gTup K 2 (gCons (gName 3) (gCons (gName 4) gNil)))) rfl sc_spanned.nd (piK_tup (K := K) (pv 0)) (blkOk_by (own := [("one", 3), ("other", 4)]) (N := N_spanned) (sc := defScope s_spanned) (by decide +kernel)) (fun _ _ _ _ _ => (pg_tup rfl (pgs_cons (pg_name (i := 3) sc_spanned.nd rfl (Or.inl rfl)) (pgs_cons (pg_name (i := 4) sc_spanned.nd rfl (Or.inl rfl)) pgs_nil)))) (fun _ _ _ _ _ => pts_nil) (fun _ _ _ _ _ => (pe_and (pe_cmpR op_le (pv 3) (pv 1) (nomark _)) (pe_one (pe_cmpR op_le (pv 2) (pv 4) (nomark _)))))) pa_nil)))), fun xs y r hl => ?_⟩
  obtain ⟨o, a, b, rfl, hl, rfl⟩ := r
  refine run_ret (x := .d (.bool (spannedM o a b))) ?_ rfl
  refine (ev_any (bs := o.map fun p => decide (p.1 ≤ a) && decide (b ≤ p.2)) (ev_lcM (js := [3, 4]) dA o (fun _ => true) (fun p => .bool (decide (p.1 ≤ a) && decide (b ≤ p.2))) (ei_tup (ev_var rfl)) (fun _ _ => dA_inj) (fun p _ => ⟨_, eg_tup2, et_yes, fun _ => ?_⟩) (by decide) (by omega)) ?_).to ?_
  · exact ev_andV (ev_le (ev_var rfl) (ev_var rfl)) fun _ => ev_le (ev_var rfl) (ev_var rfl)
  · rw [List.filter_eq_self.mpr (by simp), List.map_map]; rfl
  · rw [List.any_map]; rfl

/-! ### middle_by, _law_middle -/
def middleM (n : Nat) : Fld := ((List.range n).map fun (i : Nat) => (i : Int), if n > 1 then [(0, (n : Int) - 1)] else [])
def rel_middle_by (xs : List Sl) (y : Sl) : Prop := ∃ n : Nat, xs = [.d (.int n)] ∧ n ≤ 100 ∧ y = .d (dF (middleM n))
abbrev rel__law_middle := rel_middle_by
theorem rngD_eq (n : Nat) : rngD 0 n = ((List.range n).map fun (i : Nat) => (i : Int)).map .int := by
  unfold rngD
  rw [List.map_map]
  refine List.map_congr_left fun i _ => ?_
  show PyData.int (0 + (i : Int)) = .int i
  rw [Int.zero_add]
theorem ev_middle {te te2 : TE} {es : Es} {n : Nat} (h1 : EvD K te es (.tuple (rngD 0 (n : Int).toNat))) (h2 : EvD K te2 es (if n > 1 then .tuple [.tuple [.int 0, .int ((n : Int) - 1)]] else .tuple [])) : EvD K (tTup (tCons te (tCons te2 tNil))) es (dF (middleM n)) := by
  refine (ev_tupD (ead_cons h1 (ead_cons h2 ead_nil))).to ?_
  unfold dF dL dO middleM
  rw [Int.toNat_natCast, rngD_eq]
  by_cases h : n > 1
  · rw [if_pos h, if_pos h]; rfl
  · rw [if_neg h, if_neg h]; rfl
abbrev s_middle_by : Stmt := topS 27
abbrev N_middle_by : List Str := ["things"]
theorem sc_middle_by : FnScope N_middle_by ["things"] (defScope s_middle_by) := ⟨rfl, rfl, rfl, by decide +kernel, rfl, by decide +kernel, by decide +kernel⟩
theorem df_middle_by {f : Addr} {fd : FuncData} {k : Nat} (F : Fun K "middle_by" "middle_by" s_middle_by f fd) (g : mg "middle_by" = some (.ref f)) (T : Bl mg) :
    Df P w K mg base CX0 (k + 1) "middle_by" ["things"] (spP K 1 rel_middle_by) := by
  refine df_ok F g sc_middle_by rfl (F.binds fun _ _ _ _ _ _ us hl => match us, hl with | [_], _ => rfl) fun cdv A outer s H E hr => ⟨_, (pss_one (ps_ret (pe_tup (pa_cons (pe_tupRg rfl (by rfl) T.tuple (prg_1 (by rfl) T.range (pv 0))) (pa_cons (pe_ifExp (pt_cmpR op_gt (pv 0) pe_int (nomark _)) (pe_tup (pa_cons (pe_tup (pa_cons pe_int (pa_cons (pe_op op_sub (pv 0) pe_int) pa_nil))) pa_nil)) (pe_tup pa_nil)) pa_nil))))), fun xs y r hl => ?_⟩
  obtain ⟨n, rfl, hn, rfl⟩ := r
  refine run_ret (x := .d (dF (middleM n))) ?_ rfl
  refine ev_middle (ev_tupRg (ev_var rfl) (by omega) (by omega)) (ev_if (ev_gt (ev_var rfl) ev_int |> et_test) (fun h => ?_) (fun h => ?_))
  · have h : n > 1 := by have := of_decide_eq_true h; omega
    rw [if_pos h]
    exact ev_tupD (ead_cons (ev_tupD (ead_cons ev_int (ead_cons (ev_sub (ev_var rfl) ev_int) ead_nil))) ead_nil)
  · have h : ¬ n > 1 := by have := of_decide_eq_false h; omega
    rw [if_neg h]
    exact ev_tupD ead_nil
abbrev s__law_middle : Stmt := topS 42
abbrev N__law_middle : List Str := ["_law_many"]
theorem sc__law_middle : FnScope N__law_middle ["_law_many"] (defScope s__law_middle) := ⟨rfl, rfl, rfl, by decide +kernel, rfl, by decide +kernel, by decide +kernel⟩
theorem df__law_middle {f : Addr} {fd : FuncData} {k : Nat} (F : Fun K "_law_middle" "_law_middle" s__law_middle f fd) (g : mg "_law_middle" = some (.ref f)) (T : Bl mg) :
    Df P w K mg base CX0 (k + 1) "_law_middle" ["_law_many"] (spP K 1 rel__law_middle) := by
  refine df_ok F g sc__law_middle rfl (F.binds fun _ _ _ _ _ _ us hl => match us, hl with | [_], _ => rfl) fun cdv A outer s H E hr => ⟨_, (pss_one (ps_ret (pe_tup (pa_cons (pe_tupRg rfl (by rfl) T.tuple (prg_1 (by rfl) T.range (pv 0))) (pa_cons (pe_ifExp (pt_cmpR op_gt (pv 0) pe_int (nomark _)) (pe_tup (pa_cons (pe_tup (pa_cons pe_int (pa_cons (pe_op op_sub (pv 0) pe_int) pa_nil))) pa_nil)) (pe_tup pa_nil)) pa_nil))))), fun xs y r hl => ?_⟩
  obtain ⟨n, rfl, hn, rfl⟩ := r
  refine run_ret (x := .d (dF (middleM n))) ?_ rfl
  refine ev_middle (ev_tupRg (ev_var rfl) (by omega) (by omega)) (ev_if (ev_gt (ev_var rfl) ev_int |> et_test) (fun h => ?_) (fun h => ?_))
  · have h : n > 1 := by have := of_decide_eq_true h; omega
    rw [if_pos h]
    exact ev_tupD (ead_cons (ev_tupD (ead_cons ev_int (ead_cons (ev_sub (ev_var rfl) ev_int) ead_nil))) ead_nil)
  · have h : ¬ n > 1 := by have := of_decide_eq_false h; omega
    rw [if_neg h]
    exact ev_tupD ead_nil
abbrev rel__law_power := rel_power_of
abbrev s__law_power : Stmt := topS 45
abbrev N__law_power : List Str := ["_law_number_so", "_law_times", "_law_found", "_law_turn"]
theorem sc__law_power : FnScope N__law_power ["_law_number_so", "_law_times"] (defScope s__law_power) := ⟨rfl, rfl, rfl, by decide +kernel, rfl, by decide +kernel, by decide +kernel⟩
theorem df__law_power {f : Addr} {fd : FuncData} {k : Nat} (F : Fun K "_law_power" "_law_power" s__law_power f fd) (g : mg "_law_power" = some (.ref f)) (T : Bl mg) :
    Df P w K mg base CX0 (k + 1) "_law_power" ["_law_number_so", "_law_times"] (spP K 2 rel__law_power) := by
  refine df_ok F g sc__law_power rfl (F.binds fun _ _ _ _ _ _ us hl => match us, hl with | [_, _], _ => rfl) fun cdv A outer s H E hr => ⟨_, (pss_cons (ps_set (i := 2) sc__law_power.nd rfl (.inl rfl) pe_int)
      (pss_cons (ps_for PassesOwn.never rfl (pi_range1 (by rfl) T.range (pa_cons (pv 1) pa_nil)) (pg_name (i := 3) sc__law_power.nd rfl (Or.inl rfl)) (pss_one (ps_set (i := 2) sc__law_power.nd rfl (.inl rfl) (pe_op op_mulW (pv 2) (pv 0)))))
      (pss_one (ps_ret (pv 2))))), fun xs y r hl => ?_⟩
  obtain ⟨a, n, rfl, h0, h1, ha, rfl⟩ := r
  refine run_seq (run_asg ev_int ?_)
  refine run_seq ?_
  refine run_fold (β := Int) (enc := fun b => [.d (.int a), .d (.int n), .d (.int b), .no]) (eo := fun _ => []) (step := fun b _ => b * a) (b0 := 1) (js := [3]) (ei_rng1 (ea_one (ev_var rfl)) (by omega) (by omega)) (.eq (.eq (.eq (.no .nil)))) rfl (fun i d hd => ⟨_, eg_name, ?_⟩) (hd := fun e le => ?_)
  · have hi : i < n.toNat := by
      have := (List.getElem?_eq_some_iff.mp hd).1
      rw [rngD_len] at this; exact this
    have hk : ((rngD 0 n.toNat).take i).foldl (fun (b : Int) (_ : PyData) => b * a) 1 = a ^ i := fold_pow a i _ (by rw [List.length_take, rngD_len]; omega)
    rw [hk]
    refine run_asg (ev_mul (ev_var rfl) (ev_var rfl) (wide_mul (pow_small ha i) ha (by omega) (by omega) (by omega))) ⟨?_, rfl⟩
    exact .eq (.eq (.eq (.no .nil)))
  · rw [fold_pow a n.toNat _ (rngD_len _ _)] at le
    refine (run_ret (ev_var (i := 2) (x := .d (.int (a ^ n.toNat))) rfl) rfl).le le
end
end DL

-- M1
set_option Elab.async false
set_option linter.all false
set_option maxRecDepth 100000
set_option maxHeartbeats 4000000
/-! Plain: data of arcs, lines, lots, fields: shape, equality, order; sorting as insertion. -/
namespace DL
open PySem PySem.Calls L2 PyProof.Rows

/-! ### shape -/
def Sh (d : PyData) (k : Nat) : Prop := d.canLay0 = true ∧ d.depth ≤ k
theorem Sh.shaped {d : PyData} {k : Nat} (h : Sh d k) (hk : k ≤ 64 := by decide) : SeqAt.shaped d = true := by
  unfold SeqAt.shaped
  rw [h.1, Bool.true_and, decide_eq_true_eq]
  exact Nat.le_trans h.2 hk
theorem all_sh {α : Type} {en : α → PyData} {k : Nat} (h : ∀ a, Sh (en a) k) : ∀ l : List α, PyData.canLayAll0 (l.map en) = true ∧ PyData.depthAll (l.map en) ≤ k
  | [] => ⟨by simp [PyData.canLayAll0], by simp [PyData.depthAll]⟩
  | a :: l => by
    obtain ⟨h1, h2⟩ := all_sh h l
    rw [List.map_cons, PyData.canLayAll0, PyData.depthAll, (h a).1, h1]
    exact ⟨rfl, Nat.max_le.mpr ⟨(h a).2, h2⟩⟩
theorem sh_int (i : Int) : Sh (.int i) 0 := ⟨by simp [PyData.canLay0], by simp [PyData.depth]⟩
theorem sh_tup {α : Type} {en : α → PyData} {k : Nat} (h : ∀ a, Sh (en a) k) (l : List α) : Sh (.tuple (l.map en)) (k + 1) := by
  obtain ⟨h1, h2⟩ := all_sh h l
  exact ⟨by rw [PyData.canLay0]; exact h1, by rw [PyData.depth]; omega⟩
theorem sh_lst {α : Type} {en : α → PyData} {k : Nat} (h : ∀ a, Sh (en a) k) (l : List α) : Sh (.list (l.map en)) (k + 1) := by
  obtain ⟨h1, h2⟩ := all_sh h l
  exact ⟨by rw [PyData.canLay0]; exact h1, by rw [PyData.depth]; omega⟩
theorem Sh.mono {d : PyData} {j k : Nat} (h : Sh d j) (l : j ≤ k) : Sh d k := ⟨h.1, Nat.le_trans h.2 l⟩
theorem sh_A (a : Arc) : Sh (dA a) 1 := sh_tup (en := PyData.int) (k := 0) sh_int [a.1, a.2]
theorem sh_O (o : List Arc) : Sh (dO o) 2 := sh_tup sh_A o
theorem sh_L (l : List Int) : Sh (dL l) 1 := sh_tup sh_int l
theorem sh_F (f : Fld) : Sh (dF f) 3 := sh_tup (en := fun (d : { d : PyData // Sh d 2 }) => d.1) (k := 2) (fun d => d.2) [⟨dL f.1, (sh_L f.1).mono (by decide)⟩, ⟨dO f.2, sh_O f.2⟩]
theorem sh_Fs (fs : List Fld) : Sh (.list (fs.map dF)) 4 := sh_lst sh_F fs

/-! ### equality -/
def EqB {α : Type} [DecidableEq α] (en : α → PyData) : Prop := ∀ a b, PyData.eqv (en a) (en b) = decide (a = b)
theorem eqv_all {α : Type} [DecidableEq α] {en : α → PyData} (h : EqB en) : ∀ l m : List α, PyData.eqvAll (l.map en) (m.map en) = decide (l = m)
  | [], [] => by simp [PyData.eqvAll]
  | [], _ :: _ => by simp [PyData.eqvAll]
  | _ :: _, [] => by simp [PyData.eqvAll]
  | a :: l, b :: m => by
    rw [List.map_cons, List.map_cons, PyData.eqvAll, h a b, eqv_all h l m]
    by_cases e : a = b <;> by_cases f : l = m <;> simp [e, f]
theorem eq_tup {α : Type} [DecidableEq α] {en : α → PyData} (h : EqB en) : EqB (fun l : List α => PyData.tuple (l.map en)) := fun l m => by
  show PyData.eqv (.tuple _) (.tuple _) = _
  rw [PyData.eqv]; exact eqv_all h l m
theorem eq_lst {α : Type} [DecidableEq α] {en : α → PyData} (h : EqB en) : EqB (fun l : List α => PyData.list (l.map en)) := fun l m => by
  show PyData.eqv (.list _) (.list _) = _
  rw [PyData.eqv]; exact eqv_all h l m
theorem eq_int : EqB PyData.int := fun a b => by
  rw [PyData.eqv]; exact Bool.beq_eq_decide_eq a b
theorem eq_A : EqB dA := fun a b => by
  have := eq_tup eq_int [a.1, a.2] [b.1, b.2]
  refine this.trans ?_
  obtain ⟨a1, a2⟩ := a
  obtain ⟨b1, b2⟩ := b
  simp
theorem eq_O : EqB dO := eq_tup eq_A
theorem eq_L : EqB dL := eq_tup eq_int
theorem eq_F : EqB dF := fun a b => by
  obtain ⟨a1, a2⟩ := a
  obtain ⟨b1, b2⟩ := b
  show PyData.eqv (.tuple [dL a1, dO a2]) (.tuple [dL b1, dO b2]) = _
  rw [PyData.eqv, PyData.eqvAll, PyData.eqvAll, PyData.eqvAll, eq_L, eq_O]
  by_cases h1 : a1 = b1 <;> by_cases h2 : a2 = b2 <;> simp [h1, h2]
theorem eq_Fs : EqB (fun l : List Fld => PyData.list (l.map dF)) := eq_lst eq_F

/-! ### alike -/
theorem alike_all {α β : Type} {en : α → PyData} {em : β → PyData} (h : ∀ a b, PySem.W.alike (en a) (em b) = true) : ∀ (l : List α) (m : List β), PySem.W.alikeAll (l.map en) (m.map em) = true
  | [], _ => by simp [PySem.W.alikeAll]
  | _ :: _, [] => by simp [PySem.W.alikeAll]
  | a :: l, b :: m => by
    rw [List.map_cons, List.map_cons, PySem.W.alikeAll, h, alike_all h l m]; rfl
theorem alike_tup {α : Type} {en : α → PyData} (h : ∀ a b, PySem.W.alike (en a) (en b) = true) (l m : List α) : PySem.W.alike (.tuple (l.map en)) (.tuple (m.map en)) = true := by
  rw [PySem.W.alike]; exact alike_all h l m
theorem al_int (a b : Int) : PySem.W.alike (.int a) (.int b) = true := by simp [PySem.W.alike]
theorem al_A (a b : Arc) : PySem.W.alike (dA a) (dA b) = true := alike_tup al_int [a.1, a.2] [b.1, b.2]
theorem al_O (a b : List Arc) : PySem.W.alike (dO a) (dO b) = true := alike_tup al_A a b
theorem al_L (a b : List Int) : PySem.W.alike (dL a) (dL b) = true := alike_tup al_int a b
theorem al_F (a b : Fld) : PySem.W.alike (dF a) (dF b) = true := by
  show PySem.W.alike (.tuple [dL a.1, dO a.2]) (.tuple [dL b.1, dO b.2]) = true
  rw [PySem.W.alike, PySem.W.alikeAll, PySem.W.alikeAll, PySem.W.alikeAll, al_L, al_O]; rfl

/-! ### order -/
def lexM {α : Type} [DecidableEq α] (lt : α → α → Bool) : List α → List α → Bool
  | [], [] => false
  | [], _ :: _ => true
  | _ :: _, [] => false
  | x :: xs, y :: ys => if x = y then lexM lt xs ys else lt x y
theorem rowLt_is {α : Type} [DecidableEq α] {en : α → PyData} {lt : α → α → Bool} (hq : EqB en) (ha : ∀ a b, PySem.W.alike (en a) (en b) = true) (hl : ∀ a b, PySem.W.dataLt (en a) (en b) = lt a b) : ∀ l m : List α, PySem.W.rowLt (l.map en) (m.map en) = lexM lt l m
  | [], [] => by
    have e : PySem.W.rowLt [] [] = false := lex_irrefl _
    exact e
  | [], y :: ys => by
    show PySem.W.rowLt [] (en y :: ys.map en) = true
    unfold PySem.W.rowLt
    rw [PySem.W.keyToksAll, PySem.W.keyToksAll]
    rfl
  | x :: xs, [] => by
    show PySem.W.rowLt (en x :: xs.map en) [] = false
    unfold PySem.W.rowLt
    rw [PySem.W.keyToksAll, PySem.W.keyToksAll]
    rfl
  | x :: xs, y :: ys => by
    show PySem.W.rowLt (en x :: xs.map en) (en y :: ys.map en) = _
    unfold PySem.W.rowLt
    rw [PySem.W.dataLt_cons (ha x y), hq x y, hl x y]
    have ih := rowLt_is hq ha hl xs ys
    unfold PySem.W.rowLt at ih
    rw [ih]
    show _ = (if x = y then lexM lt xs ys else lt x y)
    by_cases e : x = y <;> simp [e]
theorem dataLt_row (xs ys : List PyData) : PySem.W.dataLt (.tuple xs) (.tuple ys) = PySem.W.rowLt xs ys := PySem.W.dataLt_tuple xs ys
def ltI (a b : Int) : Bool := decide (a < b)
def ltA (a b : Arc) : Bool := lexM ltI [a.1, a.2] [b.1, b.2]
def ltF (a b : Fld) : Bool := if a.1 = b.1 then (if a.2 = b.2 then false else lexM ltA a.2 b.2) else lexM ltI a.1 b.1
theorem lt_I (a b : Int) : PySem.W.dataLt (.int a) (.int b) = ltI a b := PySem.W.dataLt_int a b
theorem lt_A (a b : Arc) : PySem.W.dataLt (dA a) (dA b) = ltA a b := by
  show PySem.W.dataLt (.tuple ([a.1, a.2].map .int)) (.tuple ([b.1, b.2].map .int)) = _
  rw [dataLt_row, rowLt_is eq_int al_int lt_I]; rfl
theorem lt_F (a b : Fld) : PySem.W.dataLt (dF a) (dF b) = ltF a b := by
  show PySem.W.dataLt (.tuple [dL a.1, dO a.2]) (.tuple [dL b.1, dO b.2]) = _
  rw [PySem.W.dataLt_pair (al_L _ _) (al_O _ _), eq_L, eq_O]
  have h1 : PySem.W.dataLt (dL a.1) (dL b.1) = lexM ltI a.1 b.1 := by
    show PySem.W.dataLt (.tuple _) (.tuple _) = _
    rw [dataLt_row, rowLt_is eq_int al_int lt_I]
  have h2 : PySem.W.dataLt (dO a.2) (dO b.2) = lexM ltA a.2 b.2 := by
    show PySem.W.dataLt (.tuple _) (.tuple _) = _
    rw [dataLt_row, rowLt_is eq_A al_A lt_A]
  rw [h1, h2]
  unfold ltF
  simp only [decide_eq_true_eq]

/-! ### sorting -/
section
variable {α : Type} {le : α → α → Bool}
def insM (le : α → α → Bool) (x : α) : List α → List α
  | [] => [x]
  | y :: ys => if le x y then x :: y :: ys else y :: insM le x ys
def isort (le : α → α → Bool) (l : List α) : List α := l.foldr (insM le) []
theorem ins_mem (x : α) : ∀ (l : List α) (a : α), a ∈ insM le x l → a = x ∨ a ∈ l
  | [], a, h => .inl (by simpa [insM] using h)
  | y :: ys, a, h => by
    unfold insM at h
    split at h
    · rcases List.mem_cons.mp h with h | h
      · exact .inl h
      · exact .inr h
    · rcases List.mem_cons.mp h with h | h
      · exact .inr (by rw [h]; exact List.mem_cons_self ..)
      · rcases ins_mem x ys a h with h | h
        · exact .inl h
        · exact .inr (List.mem_cons_of_mem _ h)
theorem ins_pair (h : PySem.W.TotalLe le) (x : α) : ∀ l : List α, l.Pairwise (fun a b => le a b = true) → (insM le x l).Pairwise (fun a b => le a b = true)
  | [], _ => by simp [insM]
  | y :: ys, p => by
    obtain ⟨p1, p2⟩ := List.pairwise_cons.mp p
    unfold insM
    split
    · rename_i c
      exact List.pairwise_cons.mpr ⟨fun a ha => by
        rcases List.mem_cons.mp ha with e | ha
        · rw [e]; exact c
        · exact h.trans _ _ _ c (p1 a ha), p⟩
    · rename_i c
      refine List.pairwise_cons.mpr ⟨fun a ha => ?_, ins_pair h x ys p2⟩
      rcases ins_mem x ys a ha with e | ha
      · rw [e]; exact (h.total y x).resolve_right c
      · exact p1 a ha
theorem ins_filter (h : PySem.W.TotalLe le) (x c : α) : ∀ l : List α, (insM le x l).filter (PySem.W.sameRank le c) = if PySem.W.sameRank le c x = true then x :: l.filter (PySem.W.sameRank le c) else l.filter (PySem.W.sameRank le c)
  | [] => by
    unfold insM
    rw [List.filter_cons]
  | y :: ys => by
    unfold insM
    by_cases q : le x y = true
    · rw [if_pos q, List.filter_cons]
    · rw [if_neg q, List.filter_cons, ins_filter h x c ys, List.filter_cons]
      by_cases hx : PySem.W.sameRank le c x = true
      · have hy : ¬ PySem.W.sameRank le c y = true := fun z => by
          unfold PySem.W.sameRank at hx z
          rw [Bool.and_eq_true] at hx z
          exact q (h.trans _ _ _ hx.2 z.1)
        rw [if_pos hx, if_neg hy, if_neg hy, if_pos hx]
      · rw [if_neg hx, if_neg hx]
theorem isort_pair (h : PySem.W.TotalLe le) : ∀ l : List α, (isort le l).Pairwise (fun a b => le a b = true)
  | [] => by unfold isort; exact .nil
  | x :: l => ins_pair h x _ (isort_pair h l)
theorem isort_filter (h : PySem.W.TotalLe le) (c : α) : ∀ l : List α, (isort le l).filter (PySem.W.sameRank le c) = l.filter (PySem.W.sameRank le c)
  | [] => rfl
  | x :: l => by
    show (insM le x (isort le l)).filter _ = _
    rw [ins_filter h, isort_filter h c l, List.filter_cons]
theorem isort_is (h : PySem.W.TotalLe le) (l : List α) : l.mergeSort le = isort le l := (PySem.W.sort_unique h (isort_pair h l) fun c => isort_filter h c l).symm
end
def leA (a b : Arc) : Bool := !ltA b a
def leF (a b : Fld) : Bool := !ltF b a
theorem sort_en {α : Type} {en : α → PyData} {le : α → α → Bool} (hl : ∀ a b, (!PySem.W.dataLt (en b) (en a)) = le a b) (l : List α) : sortD (l.map en) = (isort le l).map en := by
  have h0 : PySem.W.dataLe false en = le := by
    funext a b
    exact hl a b
  have ht : PySem.W.TotalLe le := by rw [← h0]; exact PySem.W.sortLe_total _ _ _
  unfold sortD
  rw [← isort_is ht, PySem.W.sort_maps (r := le) (s := PySem.W.dataLe false id) en fun a _ b _ => (hl a b).symm]
theorem sort_A (l : List Arc) : sortD (l.map dA) = (isort leA l).map dA := sort_en (fun a b => by rw [lt_A]; rfl) l
theorem sort_F (l : List Fld) : sortD (l.map dF) = (isort leF l).map dF := sort_en (fun a b => by rw [lt_F]; rfl) l
end DL

-- M2
set_option Elab.async false
set_option linter.all false
set_option maxRecDepth 100000
set_option maxHeartbeats 4000000
/-! Plain: the mirrors of the defs, and that both lists of fields are one. -/
namespace DL
open PySem PySem.Calls L2 PyProof.Rows
def rngI (a : Int) (n : Nat) : List Int := (List.range n).map fun (i : Nat) => a + (i : Int)
theorem rngD_I (a : Int) (n : Nat) : rngD a n = (rngI a n).map .int := by
  unfold rngD rngI
  rw [List.map_map]; rfl
theorem rngI_len (a : Int) (n : Nat) : (rngI a n).length = n := by unfold rngI; rw [List.length_map, List.length_range]
theorem rngI_mem {a x : Int} {n : Nat} (h : x ∈ rngI a n) : a ≤ x ∧ x < a + n := by
  unfold rngI at h
  obtain ⟨i, hi, rfl⟩ := List.mem_map.mp h
  have := List.mem_range.mp hi
  omega
def getI (l : List Int) (i : Int) : Int := l.getD i.toNat 0
/-- the orders -/
def extM (n : Nat) (h : List Int) : List (List Int) := ((rngI 0 n).filter fun i => !inI i h).map fun i => h ++ [i]
def stepM (n : Nat) (f : List (List Int)) : List (List Int) := f.foldl (fun acc h => acc ++ extM n h) []
def linesM (n : Nat) : List (List Int) := (rngI 0 n).foldl (fun f _ => stepM n f) [[]]
/-- the rising pairs -/
def rowM (l : List Int) (i : Int) : List Arc := ((rngI (i + 1) ((l.length : Int) - (i + 1)).toNat).filter fun j => decide (getI l i < getI l j)).map fun j => (i, j)
def risingM (l : List Int) : List Arc := (rngI 0 l.length).foldl (fun acc i => acc ++ rowM l i) []
/-- fields_on -/
def okM (o : List Arc) (p : Arc) : Bool := o.isEmpty || (decide ((o.getLast?.getD (0, 0)).1 < p.1) && decide ((o.getLast?.getD (0, 0)).2 < p.2))
def lotsM (r : List Arc) : List (List Arc) := r.foldl (fun f p => f ++ (f.filter fun o => okM o p).map fun o => o ++ [p]) [[]]
def onM (l : List Int) : List Fld := (lotsM (risingM l)).map fun o => (l, o)
def allP (n : Nat) : List Fld := (linesM n).foldl (fun f l => f ++ onM l) []
def allM (n : Nat) : List Fld := isort leF (allP n)
/-- the law's own -/
def inM (o : List Arc) (a b : Int) : Bool := !((o.filter fun p => decide (p.1 ≤ a) && decide (b ≤ p.2)).isEmpty)
def outerM (o : List Arc) : List Arc := isort leA (o.filter fun a => !inM (o.filter fun b => !decide (b = a)) a.1 a.2)
def everyLots (r : List Arc) : List (List Arc) := r.foldl (fun f p => f ++ (f.filter fun o => decide (outerM (o ++ [p]) = isort leA (o ++ [p]))).map fun o => isort leA (o ++ [p])) [[]]
def everyP (n : Nat) : List Fld := (linesM n).foldl (fun f l => f ++ (everyLots (risingM l)).map fun o => (l, o)) []
def everyM (n : Nat) : List Fld := isort leF (everyP n)
/-- closed -/
def closedM (f : Fld) : Bool := (rngI 0 ((f.1.length : Int) - 1).toNat).all fun i => spannedM f.2 i (i + 1)
/-- what a field is -/
def arcB (l : List Int) (a : Arc) : Bool := decide (0 ≤ a.1) && decide (a.1 < a.2) && decide (a.2 < l.length) && decide (getI l a.1 < getI l a.2)
def incB : List Arc → Bool
  | a :: b :: r => (decide (a.1 < b.1) && decide (a.2 < b.2)) && incB (b :: r)
  | _ => true
def lineB (l : List Int) : Bool := decide (l.Nodup) && decide (1 ≤ l.length) && decide (l.length ≤ 12) && l.all fun i => decide (0 ≤ i) && decide (i < l.length)
def fieldB (f : Fld) : Bool := lineB f.1 && f.2.all (arcB f.1) && incB f.2 && decide (f.2.length ≤ 100)
theorem same1 : ∀ n ∈ [1, 2, 3, 4], allM n = everyM n := by decide +kernel
theorem facts1 : ∀ n ∈ [1, 2, 3, 4], (everyM n).length = (n + 1) ^ (n - 1) ∧ ((everyM n).filter closedM).length = (n - 1) ^ (n - 1) ∧ middleM n ∈ (everyM n).filter closedM ∧ (everyM n).all fieldB = true := by decide +kernel
theorem all2 : allM 2 = [([0, 1], []), ([0, 1], [(0, 1)]), ([1, 0], [])] := by decide +kernel
end DL

-- D7
set_option Elab.async false
set_option linter.all false
set_option maxRecDepth 100000
set_option maxHeartbeats 4000000
/-! Own layer, part 7: loops over written lists; plain bounds. -/
namespace DL
open PySem PySem.Calls L2 PyProof.Rows
section
variable {K : Kf} {es es' : Es} {ow : Ow} {N : DEnds} {ta tb te tc : TE} {t u w : TS} {d e : PyData}
theorem run_foldM {α β : Type} {wi : TI} {g : TG} {tb : TS} (en : α → PyData) (as : List α) (enc : β → Es) (eo : β → Ow) (step : β → α → β) (b0 : β) (js : List Nat) (hI : EvI K wi es (as.map en)) (h0 : Le (enc b0) es) (h1 : eo b0 = ow)
    (hs : ∀ i a, as[i]? = some a → ∃ e2, EvG K g (enc ((as.take i).foldl step b0)) (.d (en a)) e2 js ∧ Run K tb e2 (eo ((as.take i).foldl step b0)) { nx := fun e o => Le (enc (step ((as.take i).foldl step b0) a)) e ∧ o = eo (step ((as.take i).foldl step b0) a), rt := N.rt })
    (hd : ∀ e, Le (enc (as.foldl step b0)) e → N.nx e (eo (as.foldl step b0))) : Run K (tFor wi g tb) es ow N := by
  refine run_for (fun i e o => Le (enc ((as.take i).foldl step b0)) e ∧ o = eo ((as.take i).foldl step b0)) js hI ⟨h0, h1.symm⟩ (fun i d e o hd' ⟨le, eo'⟩ => ?_) (fun e o ⟨le, eo'⟩ => ?_)
  · obtain ⟨a, ha, rfl⟩ : ∃ a, as[i]? = some a ∧ d = en a := by
      rw [List.getElem?_map] at hd'
      cases q : as[i]? with
      | none => rw [q] at hd'; cases hd'
      | some a => rw [q] at hd'; exact ⟨a, rfl, (Option.some.inj hd').symm⟩
    obtain ⟨e2, eg, rb⟩ := hs i a ha
    refine ⟨e2, fun σ G H v Q ex s k q => eg σ G H v Q ex (s.le le) k q, ?_⟩
    have htake : as.take (i + 1) = as.take i ++ [a] := by rw [List.take_add_one, ha]; rfl
    subst eo'
    refine rb.mono (fun e o h => ?_) (fun _ _ h => h) (fun _ _ h => h.elim) (fun _ _ h => h.elim)
    show Le (enc ((as.take (i + 1)).foldl step b0)) e ∧ o = eo ((as.take (i + 1)).foldl step b0)
    rw [htake, List.foldl_append]
    exact h
  · rw [List.length_map, List.take_length] at le eo'
    rw [eo']
    exact hd e le
theorem EvI.to {wi : TI} {ds fs : List PyData} (h : EvI K wi es ds) (q : ds = fs) : EvI K wi es fs := q ▸ h
theorem ei_rngI1 {n : Nat} {ta : TA} (h : EvA K ta es [.d (.int n)]) (h1 : n ≤ 1000) : EvI K (iRng1 ta) es ((rngI 0 n).map .int) := (ei_rng1 h (by omega) (by omega)).to (by rw [rngD_I, Int.toNat_natCast])
theorem ei_rngI2 {a n : Int} {ta : TA} (h : EvA K ta es [.d (.int a), .d (.int n)]) (h0 : -1000 ≤ n) (h1 : n ≤ 1000) (h2 : -1000 ≤ a) (h3 : a ≤ 1000) : EvI K (iRng2 ta) es ((rngI a (n - a).toNat).map .int) := (ei_rng2 h (by omega) (by omega) (by omega) (by omega)).to (by rw [rngD_I])
theorem ev_sortL {ds : List PyData} (h : EvD K te es (.list ds)) (h1 : PySem.W.AllAlike ds) (h2 : PySem.W.Sortable ds) (h3 : ∀ d, d ∈ ds → d.depth ≤ 16) : EvD K (tCB (rSortD K) (tCons te tNil)) es (.list (sortD ds)) := ev_cb (ea_one h) (rc_sortL h1 h2 h3)
theorem ev_sortT {ds : List PyData} (h : EvD K te es (.tuple ds)) (h1 : PySem.W.AllAlike ds) (h2 : PySem.W.Sortable ds) (h3 : ∀ d, d ∈ ds → d.depth ≤ 16) : EvD K (tCB (rSortD K) (tCons te tNil)) es (.list (sortD ds)) := ev_cb (ea_one h) (rc_sortT h1 h2 h3)
theorem ev_sortAL {o : List Arc} (h : EvD K te es (.list (o.map dA))) : EvD K (tCB (rSortD K) (tCons te tNil)) es (.list ((isort leA o).map dA)) :=
  (ev_sortL h (PySem.W.AllAlike.of al_A) (PySem.W.Sortable.tuples fun b => ⟨_, _, rfl⟩) fun d hd => by obtain ⟨a, _, rfl⟩ := List.mem_map.mp hd; have := (sh_A a).2; omega).to (by rw [sort_A])
theorem ev_sortAT {o : List Arc} (h : EvD K te es (dO o)) : EvD K (tCB (rSortD K) (tCons te tNil)) es (.list ((isort leA o).map dA)) :=
  (ev_sortT (ds := o.map dA) h (PySem.W.AllAlike.of al_A) (PySem.W.Sortable.tuples fun b => ⟨_, _, rfl⟩) fun d hd => by obtain ⟨a, _, rfl⟩ := List.mem_map.mp hd; have := (sh_A a).2; omega).to (by rw [sort_A])
theorem ev_sortF {o : List Fld} (h : EvD K te es (.list (o.map dF))) : EvD K (tCB (rSortD K) (tCons te tNil)) es (.list ((isort leF o).map dF)) :=
  (ev_sortL h (PySem.W.AllAlike.of al_F) (PySem.W.Sortable.tuples fun b => ⟨_, _, rfl⟩) fun d hd => by obtain ⟨a, _, rfl⟩ := List.mem_map.mp hd; have := (sh_F a).2; omega).to (by rw [sort_F])
end
theorem atI_I {l : List Int} {i : Int} (h0 : 0 ≤ i) (h1 : i < l.length) : atI (l.map PyData.int) i = some (.int (getI l i)) := by
  obtain ⟨k, rfl⟩ : ∃ k : Nat, i = (k : Int) := ⟨i.toNat, by omega⟩
  refine atI_nat ?_
  have hk : k < l.length := by omega
  unfold getI
  rw [Int.toNat_natCast, List.getElem?_map, List.getElem?_eq_getElem hk, List.getD_eq_getElem?_getD, List.getElem?_eq_getElem hk]; rfl
theorem len_fold_app {α β : Type} {f : α → List β} {c : Nat} : ∀ (l : List α) (acc : List β), (∀ a ∈ l, (f a).length ≤ c) → (l.foldl (fun acc a => acc ++ f a) acc).length ≤ acc.length + l.length * c
  | [], acc, _ => by simp
  | a :: l, acc, h => by
    have := len_fold_app l (acc ++ f a) fun b hb => h b (List.mem_cons_of_mem _ hb)
    have h2 := h a (List.mem_cons_self ..)
    rw [List.length_append] at this
    rw [List.length_cons, Nat.add_mul, Nat.one_mul]
    show (l.foldl (fun acc a => acc ++ f a) (acc ++ f a)).length ≤ _
    omega
theorem fold_if {α β : Type} (p : α → Bool) (f : α → β) : ∀ (l : List α) (acc : List β), l.foldl (fun acc a => if p a then acc ++ [f a] else acc) acc = acc ++ (l.filter p).map f
  | [], acc => by simp
  | a :: l, acc => by
    show l.foldl _ (if p a then acc ++ [f a] else acc) = _
    rw [fold_if p f l, List.filter_cons]
    by_cases h : p a = true
    · rw [if_pos h, if_pos h, List.map_cons, List.append_assoc]; rfl
    · rw [if_neg h, if_neg h]
theorem len_double {α β : Type} {f : List β → α → List β} : ∀ (l : List α) (acc : List β), (∀ (b : List β) (a : α), (f b a).length ≤ b.length) → (l.foldl (fun b a => b ++ f b a) acc).length ≤ acc.length * 2 ^ l.length
  | [], acc, _ => by simp
  | a :: l, acc, h => by
    have := len_double l (acc ++ f acc a) h
    have h2 := h acc a
    rw [List.length_append] at this
    show (l.foldl (fun b a => b ++ f b a) (acc ++ f acc a)).length ≤ _
    rw [List.length_cons, Nat.pow_succ]
    refine Nat.le_trans this ?_
    have : acc.length + (f acc a).length ≤ 2 * acc.length := by omega
    calc (acc.length + (f acc a).length) * 2 ^ l.length ≤ (2 * acc.length) * 2 ^ l.length := Nat.mul_le_mul_right _ this
      _ = acc.length * (2 ^ l.length * 2) := by rw [Nat.mul_comm 2 acc.length, Nat.mul_assoc, Nat.mul_comm 2]
theorem ext_len (n : Nat) (h : List Int) : (extM n h).length ≤ n := by
  unfold extM
  rw [List.length_map]
  exact Nat.le_trans (List.length_filter_le ..) (by rw [rngI_len]; exact Nat.le_refl _)
theorem lines_small : ∀ n ∈ [1, 2, 3, 4], ∀ i ∈ [0, 1, 2, 3, 4], (((rngI 0 n).take i).foldl (fun f _ => stepM n f) [[]]).length ≤ 256 ∧ ∀ h ∈ ((rngI 0 n).take i).foldl (fun f _ => stepM n f) [[]], h.length ≤ 4 := by decide +kernel
theorem row_len (l : List Int) (i : Int) (h : 0 ≤ i) : (rowM l i).length ≤ l.length := by
  unfold rowM
  rw [List.length_map]
  refine Nat.le_trans (List.length_filter_le ..) ?_
  rw [rngI_len]; omega
theorem Run.le' {K : Kf} {es es' : Es} {ow : Ow} {N : DEnds} {t : TS} (l : Le es es') (h : Run K t es ow N) : Run K t es' ow N := h.le l
end DL

-- M3
set_option Elab.async false
set_option linter.all false
set_option maxRecDepth 100000
set_option maxHeartbeats 4000000
/-! Plain: bounds at the lines of 1 to 4. -/
namespace DL
open PySem PySem.Calls L2 PyProof.Rows
def smallO (o : List (List Arc)) : Bool := decide (o.length ≤ 1000) && o.all fun s => decide (s.length ≤ 10)
def lineOk (l : List Int) : Bool := decide (l.length ≤ 4) && decide ((risingM l).length ≤ 6) && ([0, 1, 2, 3, 4].all fun i => decide ((((rngI 0 l.length).take i).foldl (fun acc i => acc ++ rowM l i) []).length ≤ 10))
  && ([0, 1, 2, 3, 4, 5, 6].all fun i => smallO (lotsM ((risingM l).take i)) && smallO (everyLots ((risingM l).take i)))
theorem lines_ok : ∀ n ∈ [1, 2, 3, 4], (linesM n).all lineOk = true ∧ (linesM n).length ≤ 24 := by decide +kernel
theorem line_ok {n : Nat} {l : List Int} (hn : n ∈ [1, 2, 3, 4]) (hl : l ∈ linesM n) : lineOk l = true := List.all_eq_true.mp (lines_ok n hn).1 l hl
theorem ok_len {l : List Int} (h : lineOk l = true) : l.length ≤ 4 ∧ (risingM l).length ≤ 6 := by
  unfold lineOk at h
  simp only [Bool.and_eq_true, decide_eq_true_eq] at h
  exact h.1.1
theorem ok_rows {l : List Int} (h : lineOk l = true) {i : Nat} (hi : i ≤ 4) : (((rngI 0 l.length).take i).foldl (fun acc i => acc ++ rowM l i) []).length ≤ 10 := by
  unfold lineOk at h
  simp only [Bool.and_eq_true, decide_eq_true_eq] at h
  have := List.all_eq_true.mp h.1.2 i (by simp only [List.mem_cons, List.not_mem_nil, or_false]; omega)
  exact of_decide_eq_true this
theorem small_of {o : List (List Arc)} (h : smallO o = true) : o.length ≤ 1000 ∧ ∀ s ∈ o, s.length ≤ 10 := by
  unfold smallO at h
  simp only [Bool.and_eq_true, decide_eq_true_eq] at h
  exact ⟨h.1, fun s hs => of_decide_eq_true (List.all_eq_true.mp h.2 s hs)⟩
theorem ok_lots {l : List Int} (h : lineOk l = true) {i : Nat} (hi : i ≤ 6) : smallO (lotsM ((risingM l).take i)) = true ∧ smallO (everyLots ((risingM l).take i)) = true := by
  unfold lineOk at h
  simp only [Bool.and_eq_true, decide_eq_true_eq] at h
  have := List.all_eq_true.mp h.2 i (by simp only [List.mem_cons, List.not_mem_nil, or_false]; omega)
  simpa using this
/-- parking among n things -/
def freeM (n : Nat) (h : List Int) (x : Int) : Bool := (h.filter fun a => inI ((a - x) % n) [0, 1 % n]).isEmpty
def offRow (n : Nat) (h : List Int) : List (List Int) := ((rngI 0 n).filter (freeM n h)).map fun x => h ++ [x]
def offStep (n : Nat) (f : List (List Int)) : List (List Int) := f.foldl (fun acc h => acc ++ offRow n h) []
def offM (m n : Nat) : List (List Int) := (rngI 0 m).foldl (fun f _ => offStep n f) [[]]
def offB (o : List (List Int)) : Bool := decide (o.length ≤ 400) && o.all fun s => decide (s.length ≤ 3)
theorem off_small : ∀ m ∈ [1, 2, 3], ∀ n ∈ [1, 2, 3, 4, 5, 6, 7], ∀ i ∈ [0, 1, 2, 3], offB (((rngI 0 m).take i).foldl (fun f _ => offStep n f) [[]]) = true := by decide +kernel
theorem off_count : ∀ m ∈ [1, 2, 3], ∀ n ∈ [1, 2, 3, 4, 5, 6, 7], ((offM m n).length : Int) = if (n : Int) ≥ m then (n : Int) * ((n : Int) - m) ^ (m - 1) else 0 := by decide +kernel
end DL

-- P2
set_option Elab.async false
set_option linter.all false
set_option maxRecDepth 100000
set_option maxHeartbeats 4000000
/-! Pure defs, part 2: orders, rising pairs, fields_on. -/
namespace DL
open PySem PySem.Calls L2 PyProof.Rows
section
variable {P : Program} {w : World} {K : Kf} {mg : Str → Option Value} {base : Heap}

def rel_lines_of (xs : List Sl) (y : Sl) : Prop := ∃ n : Nat, n ∈ [1, 2, 3, 4] ∧ xs = [.d (.int n)] ∧ y = .d (.list ((linesM n).map dL))
abbrev rel__law_lines := rel_lines_of
theorem int_inj {a b : Int} (h : PyData.int a = PyData.int b) : a = b := by injection h
theorem dL_inj {a b : List Int} (h : dL a = dL b) : a = b := by
  have := eq_L a b
  rw [h, eq_L b b] at this
  simp at this
  exact this
theorem dO_inj {a b : List Arc} (h : dO a = dO b) : a = b := by
  have := eq_O a b
  rw [h, eq_O b b] at this
  simp at this
  exact this
theorem mem4 {n : Nat} (h : n ∈ [1, 2, 3, 4]) : 1 ≤ n ∧ n ≤ 4 := by
  simp only [List.mem_cons, List.not_mem_nil, or_false] at h
  omega
theorem lines_le {n i : Nat} (hn : n ∈ [1, 2, 3, 4]) (hi : i ≤ 4) : (((rngI 0 n).take i).foldl (fun f _ => stepM n f) [[]]).length ≤ 256 ∧ ∀ h ∈ ((rngI 0 n).take i).foldl (fun f _ => stepM n f) [[]], h.length ≤ 4 := lines_small n hn i (by simp only [List.mem_cons, List.not_mem_nil, or_false]; omega)
abbrev s_lines_of : Stmt := topS 25
abbrev N_lines_of : List Str := ["many", "found", "turn", "longer", "head", "one"]
theorem sc_lines_of : FnScope N_lines_of ["many"] (defScope s_lines_of) := ⟨rfl, rfl, rfl, by decide +kernel, rfl, by decide +kernel, by decide +kernel⟩
theorem df_lines_of {f : Addr} {fd : FuncData} {k : Nat} (F : Fun K "lines_of" "lines_of" s_lines_of f fd) (g : mg "lines_of" = some (.ref f)) (T : Bl mg) :
    Df P w K mg base CX0 (k + 1) "lines_of" ["many"] (spP K 1 rel_lines_of) := by
  refine df_ok F g sc_lines_of rfl (F.binds fun _ _ _ _ _ _ us hl => match us, hl with | [_], _ => rfl) fun cdv A outer s H E hr => ⟨_, (pss_cons (ps_set (i := 1) sc_lines_of.nd rfl (.inl rfl) (pe_lst (pa_cons (pe_tup pa_nil) pa_nil)))
      (pss_cons (ps_for PassesOwn.never rfl (pi_range1 (by rfl) T.range (pa_cons (pv 0) pa_nil)) (pg_name (i := 2) sc_lines_of.nd rfl (Or.inl rfl)) (pss_cons (ps_set (i := 3) sc_lines_of.nd rfl (.inl rfl) (pe_lst pa_nil))
      (pss_cons (ps_for PassesOwn.never rfl (piK_list (K := K) (pv 1)) (pg_name (i := 4) sc_lines_of.nd rfl (Or.inr rfl)) (pss_one (ps_set (i := 3) sc_lines_of.nd rfl (.inl rfl) (pe_op (opK_catS (K := K)) (pv 3) (pe_lc (own := [("one", 5)]) (g := (gName 5)) rfl sc_lines_of.nd (pi_range1 (by rfl) T.range (pa_cons (pv 0) pa_nil)) (blkOk_by (own := [("one", 5)]) (N := N_lines_of) (sc := defScope s_lines_of) (by decide +kernel)) (fun _ _ _ _ _ => (pg_name (i := 5) sc_lines_of.nd rfl (Or.inl rfl))) (fun _ _ _ _ _ => (pts_one (pt_cmpR (opK_notIn (K := K)) (pv 5) (pv 4) rfl))) (fun _ _ _ _ _ => (pe_op (opK_catA (K := K)) (pv 4) (pe_tup (pa_cons (pv 5) pa_nil)))))))))
      (pss_one (ps_set (i := 1) sc_lines_of.nd rfl (.inl rfl) (pv 3))))))
      (pss_one (ps_ret (pv 1))))), fun xs y r hl => ?_⟩
  obtain ⟨n, hn, rfl, rfl⟩ := r
  have h4 := mem4 hn
  refine run_seq (run_asg (x := .d (.list ([[]].map dL))) (ev_lstD (ead_cons (ev_tupD ead_nil) ead_nil)) ?_)
  refine run_seq ?_
  refine run_foldM (β := List (List Int)) PyData.int (rngI 0 n) (fun f => [.d (.int n), .d (.list (f.map dL)), .no, .no, .no, .no]) (fun _ => []) (fun f _ => stepM n f) [[]] [2] (ei_rngI1 (ea_one (ev_var rfl)) (by omega)) (.eq (.eq (.no (.no (.no (.no .nil)))))) rfl (fun i a ha => ⟨_, eg_name, ?_⟩) (fun e le => ?_)
  · have hi : i < n := by
      have := (List.getElem?_eq_some_iff.mp ha).1
      rw [rngI_len] at this; exact this
    obtain ⟨hlen, hit⟩ := lines_le (i := i) hn (by omega)
    generalize ((rngI 0 n).take i).foldl (fun f _ => stepM n f) [[]] = f at hlen hit ⊢
    refine run_seq (run_asg (x := .d (.list ([].map dL))) (ev_lstD ead_nil) ?_)
    refine run_seq ?_
    refine run_foldM (β := List (List Int)) dL f (fun acc => [.d (.int n), .d (.list (f.map dL)), .no, .d (.list (acc.map dL)), .no, .no]) (fun _ => []) (fun acc h => acc ++ extM n h) [] [4] (ei_list (ev_var rfl)) (.eq (.eq (.no (.eq (.no (.no .nil)))))) rfl (fun j h hh => ⟨_, eg_name, ?_⟩) (fun e le => ?_)
    · have hacc : ((f.take j).foldl (fun acc h => acc ++ extM n h) []).length ≤ 2000 := by
        have := len_fold_app (f := extM n) (c := n) (f.take j) [] fun a _ => ext_len n a
        rw [List.length_take] at this
        have h3 : (min j f.length) * n ≤ 256 * 4 := Nat.mul_le_mul (by omega) (by omega)
        simp only [List.length_nil] at this
        omega
      generalize (f.take j).foldl (fun acc h => acc ++ extM n h) [] = acc at hacc ⊢
      refine run_asg (x := .d (.list ((acc ++ extM n h).map dL))) ?_ ⟨.eq (.eq (.no (.eq (.no (.no .nil))))), rfl⟩
      refine (ev_catL (ds := acc.map dL) (fs := (extM n h).map dL) (ev_var rfl) ?_ (by have := ext_len n h; rw [List.length_map, List.length_map]; omega)).to (by rw [List.map_append])
      refine (ev_lcM (js := [5]) PyData.int (rngI 0 n) (fun i => !inI i h) (fun i => dL (h ++ [i])) (ei_rngI1 (ea_one (ev_var rfl)) (by omega)) (fun _ _ => int_inj) (fun i _ => ⟨_, eg_name, et_test (ev_niT (ns := h) (ev_var rfl) (ev_var rfl)), fun _ => ?_⟩) (by decide) (by rw [rngI_len]; omega)).to (by unfold extM; rw [List.map_map]; rfl)
      refine (ev_catT (ds := h.map .int) (fs := [.int i]) (ev_var rfl) (ev_tupD (ead_cons (ev_var rfl) ead_nil)) ?_).to (by unfold dL; rw [List.map_append]; rfl)
      have := hit h (List.mem_of_getElem? hh)
      rw [List.length_map]; show h.length + 1 ≤ 100000; omega
    · refine Run.le' le (run_asg (x := .d (.list ((stepM n f).map dL))) (ev_var rfl) ⟨?_, rfl⟩)
      exact .eq (.eq (.no (.no (.no (.no .nil)))))
  · exact (run_ret (ev_var (i := 1) (x := .d (.list ((linesM n).map dL))) rfl) rfl).le le
abbrev s__law_lines : Stmt := topS 40
abbrev N__law_lines : List Str := ["_law_many", "_law_found", "_law_turn", "_law_longer", "_law_head", "_law_one"]
theorem sc__law_lines : FnScope N__law_lines ["_law_many"] (defScope s__law_lines) := ⟨rfl, rfl, rfl, by decide +kernel, rfl, by decide +kernel, by decide +kernel⟩
theorem df__law_lines {f : Addr} {fd : FuncData} {k : Nat} (F : Fun K "_law_lines" "_law_lines" s__law_lines f fd) (g : mg "_law_lines" = some (.ref f)) (T : Bl mg) :
    Df P w K mg base CX0 (k + 1) "_law_lines" ["_law_many"] (spP K 1 rel__law_lines) := by
  refine df_ok F g sc__law_lines rfl (F.binds fun _ _ _ _ _ _ us hl => match us, hl with | [_], _ => rfl) fun cdv A outer s H E hr => ⟨_, (pss_cons (ps_set (i := 1) sc__law_lines.nd rfl (.inl rfl) (pe_lst (pa_cons (pe_tup pa_nil) pa_nil)))
      (pss_cons (ps_for PassesOwn.never rfl (pi_range1 (by rfl) T.range (pa_cons (pv 0) pa_nil)) (pg_name (i := 2) sc__law_lines.nd rfl (Or.inl rfl)) (pss_cons (ps_set (i := 3) sc__law_lines.nd rfl (.inl rfl) (pe_lst pa_nil))
      (pss_cons (ps_for PassesOwn.never rfl (piK_list (K := K) (pv 1)) (pg_name (i := 4) sc__law_lines.nd rfl (Or.inr rfl)) (pss_one (ps_set (i := 3) sc__law_lines.nd rfl (.inl rfl) (pe_op (opK_catS (K := K)) (pv 3) (pe_lc (own := [("_law_one", 5)]) (g := (gName 5)) rfl sc__law_lines.nd (pi_range1 (by rfl) T.range (pa_cons (pv 0) pa_nil)) (blkOk_by (own := [("_law_one", 5)]) (N := N__law_lines) (sc := defScope s__law_lines) (by decide +kernel)) (fun _ _ _ _ _ => (pg_name (i := 5) sc__law_lines.nd rfl (Or.inl rfl))) (fun _ _ _ _ _ => (pts_one (pt_cmpR (opK_notIn (K := K)) (pv 5) (pv 4) rfl))) (fun _ _ _ _ _ => (pe_op (opK_catA (K := K)) (pv 4) (pe_tup (pa_cons (pv 5) pa_nil)))))))))
      (pss_one (ps_set (i := 1) sc__law_lines.nd rfl (.inl rfl) (pv 3))))))
      (pss_one (ps_ret (pv 1))))), fun xs y r hl => ?_⟩
  obtain ⟨n, hn, rfl, rfl⟩ := r
  have h4 := mem4 hn
  refine run_seq (run_asg (x := .d (.list ([[]].map dL))) (ev_lstD (ead_cons (ev_tupD ead_nil) ead_nil)) ?_)
  refine run_seq ?_
  refine run_foldM (β := List (List Int)) PyData.int (rngI 0 n) (fun f => [.d (.int n), .d (.list (f.map dL)), .no, .no, .no, .no]) (fun _ => []) (fun f _ => stepM n f) [[]] [2] (ei_rngI1 (ea_one (ev_var rfl)) (by omega)) (.eq (.eq (.no (.no (.no (.no .nil)))))) rfl (fun i a ha => ⟨_, eg_name, ?_⟩) (fun e le => ?_)
  · have hi : i < n := by
      have := (List.getElem?_eq_some_iff.mp ha).1
      rw [rngI_len] at this; exact this
    obtain ⟨hlen, hit⟩ := lines_le (i := i) hn (by omega)
    generalize ((rngI 0 n).take i).foldl (fun f _ => stepM n f) [[]] = f at hlen hit ⊢
    refine run_seq (run_asg (x := .d (.list ([].map dL))) (ev_lstD ead_nil) ?_)
    refine run_seq ?_
    refine run_foldM (β := List (List Int)) dL f (fun acc => [.d (.int n), .d (.list (f.map dL)), .no, .d (.list (acc.map dL)), .no, .no]) (fun _ => []) (fun acc h => acc ++ extM n h) [] [4] (ei_list (ev_var rfl)) (.eq (.eq (.no (.eq (.no (.no .nil)))))) rfl (fun j h hh => ⟨_, eg_name, ?_⟩) (fun e le => ?_)
    · have hacc : ((f.take j).foldl (fun acc h => acc ++ extM n h) []).length ≤ 2000 := by
        have := len_fold_app (f := extM n) (c := n) (f.take j) [] fun a _ => ext_len n a
        rw [List.length_take] at this
        have h3 : (min j f.length) * n ≤ 256 * 4 := Nat.mul_le_mul (by omega) (by omega)
        simp only [List.length_nil] at this
        omega
      generalize (f.take j).foldl (fun acc h => acc ++ extM n h) [] = acc at hacc ⊢
      refine run_asg (x := .d (.list ((acc ++ extM n h).map dL))) ?_ ⟨.eq (.eq (.no (.eq (.no (.no .nil))))), rfl⟩
      refine (ev_catL (ds := acc.map dL) (fs := (extM n h).map dL) (ev_var rfl) ?_ (by have := ext_len n h; rw [List.length_map, List.length_map]; omega)).to (by rw [List.map_append])
      refine (ev_lcM (js := [5]) PyData.int (rngI 0 n) (fun i => !inI i h) (fun i => dL (h ++ [i])) (ei_rngI1 (ea_one (ev_var rfl)) (by omega)) (fun _ _ => int_inj) (fun i _ => ⟨_, eg_name, et_test (ev_niT (ns := h) (ev_var rfl) (ev_var rfl)), fun _ => ?_⟩) (by decide) (by rw [rngI_len]; omega)).to (by unfold extM; rw [List.map_map]; rfl)
      refine (ev_catT (ds := h.map .int) (fs := [.int i]) (ev_var rfl) (ev_tupD (ead_cons (ev_var rfl) ead_nil)) ?_).to (by unfold dL; rw [List.map_append]; rfl)
      have := hit h (List.mem_of_getElem? hh)
      rw [List.length_map]; show h.length + 1 ≤ 100000; omega
    · refine Run.le' le (run_asg (x := .d (.list ((stepM n f).map dL))) (ev_var rfl) ⟨?_, rfl⟩)
      exact .eq (.eq (.no (.no (.no (.no .nil)))))
  · exact (run_ret (ev_var (i := 1) (x := .d (.list ((linesM n).map dL))) rfl) rfl).le le

end
section
variable {K : Kf} {es : Es} {ta tb te : TE}
theorem ev_lenI {l : List Int} (h : EvD K te es (dL l)) : EvD K (tCB (rLen K) (tCons te tNil)) es (.int l.length) := (ev_lenT h).to (by rw [List.length_map])
theorem ev_ixI {l : List Int} {i : Int} (h1 : EvD K ta es (dL l)) (h2 : EvD K tb es (.int i)) (h0 : 0 ≤ i) (h3 : i < l.length) : EvD K (tOp (rIxT K) ta tb) es (.int (getI l i)) := ev_ixT h1 h2 (atI_I h0 h3)
theorem ev_ix0 {d : PyData} {ds : List PyData} (h1 : EvD K ta es (.tuple (d :: ds))) : EvD K (tOp (rIxT K) ta (tC (.int 0))) es d := ev_ixT h1 ev_int (atI_nat (j := 0) rfl)
theorem ev_ix1 {d e : PyData} {ds : List PyData} (h1 : EvD K ta es (.tuple (e :: d :: ds))) : EvD K (tOp (rIxT K) ta (tC (.int 1))) es d := ev_ixT h1 ev_int (atI_nat (j := 1) rfl)
theorem ev_a0 {a : Arc} (h1 : EvD K ta es (dA a)) : EvD K (tOp (rIxT K) ta (tC (.int 0))) es (.int a.1) := ev_ixT h1 ev_int rfl
theorem ev_a1 {a : Arc} (h1 : EvD K ta es (dA a)) : EvD K (tOp (rIxT K) ta (tC (.int 1))) es (.int a.2) := ev_ixT h1 ev_int rfl
theorem ev_lastA {o : List Arc} (h1 : EvD K ta es (dO o)) (h2 : EvD K tb es (.int (-1))) (h : o ≠ []) : EvD K (tOp (rIxT K) ta tb) es (dA (o.getLast?.getD (0, 0))) := ev_ixT h1 h2 (by
  have hl : 0 < o.length := List.length_pos_iff.mpr h
  have e1 : ixN (o.map dA).length (-1) = some (o.length - 1) := by
    rw [List.length_map]
    unfold ixN
    rw [if_neg (by decide), if_pos (by omega)]
    exact congrArg some (by omega)
  unfold atI
  rw [e1, List.getLast?_eq_getElem?]
  show (o.map dA)[o.length - 1]? = _
  rw [List.getElem?_map, List.getElem?_eq_getElem (by omega)]
  rfl)
end
section
variable {P : Program} {w : World} {K : Kf} {mg : Str → Option Value} {base : Heap}
def rel_fields_on (xs : List Sl) (y : Sl) : Prop := ∃ (n : Nat) (l : List Int), n ∈ [1, 2, 3, 4] ∧ l ∈ linesM n ∧ xs = [.d (dL l)] ∧ y = .d (.list ((onM l).map dF))
abbrev s_fields_on : Stmt := topS 24
abbrev N_fields_on : List Str := ["line", "rising", "first", "found", "pair", "fresh", "last", "some"]
theorem sc_fields_on : FnScope N_fields_on ["line"] (defScope s_fields_on) := ⟨rfl, rfl, rfl, by decide +kernel, rfl, by decide +kernel, by decide +kernel⟩
theorem df_fields_on {f : Addr} {fd : FuncData} {k : Nat} (F : Fun K "fields_on" "fields_on" s_fields_on f fd) (g : mg "fields_on" = some (.ref f)) (T : Bl mg) :
    Df P w K mg base CX0 (k + 1) "fields_on" ["line"] (spP K 1 rel_fields_on) := by
  refine df_ok F g sc_fields_on rfl (F.binds fun _ _ _ _ _ _ us hl => match us, hl with | [_], _ => rfl) fun cdv A outer s H E hr => ⟨_, (pss_cons (ps_set (i := 1) sc_fields_on.nd rfl (.inl rfl) (pe_lst pa_nil))
      (pss_cons (ps_for PassesOwn.never rfl (pi_range1 (by rfl) T.range (pa_cons (pe_callB (crK_len (K := K)) (by rfl) T.len (by decide +kernel) (pa_cons (pv 0) pa_nil)) pa_nil)) (pg_name (i := 2) sc_fields_on.nd rfl (Or.inr rfl)) (pss_one (ps_set (i := 1) sc_fields_on.nd rfl (.inl rfl) (pe_op (opK_catS (K := K)) (pv 1) (pe_lc (own := [("last", 6)]) (g := (gName 6)) rfl sc_fields_on.nd (pi_range2 (by rfl) T.range (pa_cons (pe_op op_add (pv 2) pe_int) (pa_cons (pe_callB (crK_len (K := K)) (by rfl) T.len (by decide +kernel) (pa_cons (pv 0) pa_nil)) pa_nil))) (blkOk_by (own := [("last", 6)]) (N := N_fields_on) (sc := defScope s_fields_on) (by decide +kernel)) (fun _ _ _ _ _ => (pg_name (i := 6) sc_fields_on.nd rfl (Or.inl rfl))) (fun _ _ _ _ _ => (pts_one (pt_cmpR op_lt (pe_ix (ixK_tup (K := K)) (pv 0) (pv 2) (fun _ _ => rfl)) (pe_ix (ixK_tup (K := K)) (pv 0) (pv 6) (fun _ _ => rfl)) (nomark _)))) (fun _ _ _ _ _ => (pe_tup (pa_cons (pv 2) (pa_cons (pv 6) pa_nil)))))))))
      (pss_cons (ps_set (i := 3) sc_fields_on.nd rfl (.inl rfl) (pe_lst (pa_cons (pe_tup pa_nil) pa_nil)))
      (pss_cons (ps_for PassesOwn.never rfl (piK_list (K := K) (pv 1)) (pg_name (i := 4) sc_fields_on.nd rfl (Or.inr rfl)) (pss_cons (ps_setLc (i := 5) (own := [("some", 7)]) (g := (gName 7)) rfl sc_fields_on.nd rfl rfl (sw_true rfl rfl rfl (by decide +kernel)) (piK_list (K := K) (pv 3)) (blkOk_by (own := [("some", 7)]) (N := N_fields_on) (sc := defScope s_fields_on) (by decide +kernel)) (fun _ _ _ _ _ => (pg_name (i := 7) sc_fields_on.nd rfl (Or.inl rfl))) (fun _ _ _ _ _ => (pts_one (PW.pt (pw_or (pt_cmpR (opK_eqD (K := K) hr.units) (pv 7) (pe_tup pa_nil) (nomark _)) (pw_or1 (PW.pt (pw_and (pt_cmpR op_lt (pe_ix (ixK_tup (K := K)) (pe_ix (ixK_tup (K := K)) (pv 7) (pe_un un_neg pe_int) (fun _ _ => rfl)) pe_int (fun _ _ => rfl)) (pe_ix (ixK_tup (K := K)) (pv 4) pe_int (fun _ _ => rfl)) (nomark _)) (pw_and1 (pt_cmpR op_lt (pe_ix (ixK_tup (K := K)) (pe_ix (ixK_tup (K := K)) (pv 7) (pe_un un_neg pe_int) (fun _ _ => rfl)) pe_int (fun _ _ => rfl)) (pe_ix (ixK_tup (K := K)) (pv 4) pe_int (fun _ _ => rfl)) (nomark _)))))))))) (fun _ _ _ _ _ => (pv 7)))
      (pss_one (ps_set (i := 3) sc_fields_on.nd rfl (.inl rfl) (pe_op (opK_catS (K := K)) (pv 3) (pe_lc (own := [("some", 7)]) (g := (gName 7)) rfl sc_fields_on.nd (piK_list (K := K) (pv 5)) (blkOk_by (own := [("some", 7)]) (N := N_fields_on) (sc := defScope s_fields_on) (by decide +kernel)) (fun _ _ _ _ _ => (pg_name (i := 7) sc_fields_on.nd rfl (Or.inl rfl))) (fun _ _ _ _ _ => pts_nil) (fun _ _ _ _ _ => (pe_op (opK_catA (K := K)) (pv 7) (pe_tup (pa_cons (pv 4) pa_nil))))))))))
      (pss_one (ps_ret (pe_lc (own := [("some", 7)]) (g := (gName 7)) rfl sc_fields_on.nd (piK_list (K := K) (pv 3)) (blkOk_by (own := [("some", 7)]) (N := N_fields_on) (sc := defScope s_fields_on) (by decide +kernel)) (fun _ _ _ _ _ => (pg_name (i := 7) sc_fields_on.nd rfl (Or.inl rfl))) (fun _ _ _ _ _ => pts_nil) (fun _ _ _ _ _ => (pe_tup (pa_cons (pv 0) (pa_cons (pv 7) pa_nil))))))))))), fun xs y r hl => ?_⟩
  obtain ⟨n, l, hn, hln, rfl, rfl⟩ := r
  have ok := line_ok hn hln
  obtain ⟨hl4, hr6⟩ := ok_len ok
  refine run_seq (run_asg (x := .d (.list ([].map dA))) (ev_lstD ead_nil) ?_)
  refine run_seq ?_
  refine run_foldM PyData.int (rngI 0 l.length) (fun acc => [.d (dL l), .d (.list (acc.map dA)), .no, .no, .no, .no, .no, .no]) (fun _ => []) (fun acc i => acc ++ rowM l i) [] [2] (ei_rngI1 (ea_one (ev_lenI (ev_var rfl))) (by omega)) (.eq (.eq (.no (.no (.no (.no (.no (.no .nil)))))))) rfl (fun i a ha => ⟨_, eg_name, ?_⟩) (fun e le => ?_)
  · have hi : i < l.length := by
      have := (List.getElem?_eq_some_iff.mp ha).1
      rw [rngI_len] at this; exact this
    have ha2 := rngI_mem (List.mem_of_getElem? ha)
    have hb := ok_rows ok (i := i) (by omega)
    generalize ((rngI 0 l.length).take i).foldl (fun acc i => acc ++ rowM l i) [] = acc at hb ⊢
    have hrow := row_len l a (by omega)
    refine run_asg (x := .d (.list ((acc ++ rowM l a).map dA))) ?_ ⟨.eq (.eq (.no (.no (.no (.no (.no (.no .nil))))))), rfl⟩
    refine (ev_catL (ds := acc.map dA) (fs := (rowM l a).map dA) (ev_var rfl) ?_ (by rw [List.length_map, List.length_map]; omega)).to (by rw [List.map_append])
    refine (ev_lcM (js := [6]) PyData.int (rngI (a + 1) ((l.length : Int) - (a + 1)).toNat) (fun j => decide (getI l a < getI l j)) (fun j => dA (a, j)) (ei_rngI2 (ea_two (ev_add (ev_var rfl) ev_int) (ev_lenI (ev_var rfl))) (by omega) (by omega) (by omega) (by omega)) (fun _ _ => int_inj) (fun j hj => ⟨_, eg_name, et_test (ev_lt (ev_ixI (ev_var rfl) (ev_var rfl) (by omega) (by omega)) (ev_ixI (ev_var rfl) (ev_var rfl) (by have := rngI_mem hj; omega) (by have := rngI_mem hj; omega))), fun _ => ?_⟩) (by decide) (by rw [rngI_len]; omega)).to (by unfold rowM; rw [List.map_map]; rfl)
    exact ev_tupD (ead_cons (ev_var rfl) (ead_cons (ev_var rfl) ead_nil))
  · refine Run.le' le ?_
    refine run_seq (run_asg (x := .d (.list ([[]].map dO))) (ev_lstD (ead_cons (ev_tupD ead_nil) ead_nil)) ?_)
    refine run_seq ?_
    refine run_foldM dA (risingM l) (fun f => [.d (dL l), .d (.list ((risingM l).map dA)), .no, .d (.list (f.map dO)), .no, .no, .no, .no]) (fun _ => []) (fun f p => f ++ (f.filter fun o => okM o p).map fun o => o ++ [p]) [[]] [4] (ei_list (ev_var rfl)) (.eq (.eq (.no (.eq (.no (.no (.no (.no .nil)))))))) rfl (fun i p hp => ⟨_, eg_name, ?_⟩) (fun e le => ?_)
    · have hi : i < (risingM l).length := (List.getElem?_eq_some_iff.mp hp).1
      obtain ⟨s1, s2⟩ := small_of (ok_lots ok (i := i) (by omega)).1
      unfold lotsM at s1 s2
      generalize ((risingM l).take i).foldl (fun f p => f ++ (f.filter fun o => okM o p).map fun o => o ++ [p]) [[]] = f at s1 s2 ⊢
      have hf : (f.filter fun o => okM o p).length ≤ 1000 := Nat.le_trans (List.length_filter_le ..) s1
      refine run_seq (run_asg (x := .d (.list ((f.filter fun o => okM o p).map dO))) ?_ ?_)
      · refine ev_lcM (js := [7]) dO f (fun o => okM o p) (fun o => dO o) (ei_list (ev_var rfl)) (fun _ _ => dO_inj) (fun o ho => ⟨_, eg_name, ?_, fun _ => ev_var rfl⟩) (by decide) (by omega)
        refine et_or (a := o.isEmpty) ?_ fun h => ?_
        · exact (et_test (ev_eqD (ev_var rfl) (ev_tupD ead_nil) (sh_O o).shaped (sh_O []).shaped)).is ((eq_O o []).trans (by cases o <;> rfl))
        · have hne : o ≠ [] := fun z => by rw [z] at h; cases h
          exact et_and (et_test (ev_lt (ev_a0 (ev_lastA (ev_var rfl) (ev_neg ev_int) hne)) (ev_a0 (ev_var rfl)))) fun _ => et_test (ev_lt (ev_a1 (ev_lastA (ev_var rfl) (ev_neg ev_int) hne)) (ev_a1 (ev_var rfl)))
      refine run_asg (x := .d (.list ((f ++ (f.filter fun o => okM o p).map fun o => o ++ [p]).map dO))) ?_ ⟨.eq (.eq (.no (.eq (.no (.no (.no (.no .nil))))))), rfl⟩
      refine (ev_catL (ds := f.map dO) (fs := ((f.filter fun o => okM o p).map fun o => o ++ [p]).map dO) (ev_var rfl) ?_ (by simp only [List.length_map]; omega)).to (by rw [List.map_append])
      refine (ev_lcM (js := [7]) dO (f.filter fun o => okM o p) (fun _ => true) (fun o => dO (o ++ [p])) (ei_list (ev_var rfl)) (fun _ _ => dO_inj) (fun o ho => ⟨_, eg_name, et_yes, fun _ => ?_⟩) (by decide) (by omega)).to (by rw [List.filter_eq_self.mpr (by simp), List.map_map]; rfl)
      have := s2 o (List.mem_filter.mp ho).1
      exact (ev_catT (ds := o.map dA) (fs := [dA p]) (ev_var rfl) (ev_tupD (ead_cons (ev_var rfl) ead_nil)) (by rw [List.length_map]; show o.length + 1 ≤ _; omega)).to (by unfold dO; rw [List.map_append]; rfl)
    · refine Run.le' le ?_
      have s1 := (small_of (ok_lots ok (i := 6) (by omega)).1).1
      rw [List.take_of_length_le hr6] at s1
      refine run_ret (x := .d (.list ((onM l).map dF))) ?_ rfl
      refine (ev_lcM (js := [7]) dO (lotsM (risingM l)) (fun _ => true) (fun o => dF (l, o)) (ei_list (ev_var rfl)) (fun _ _ => dO_inj) (fun o ho => ⟨_, eg_name, et_yes, fun _ => ?_⟩) (by decide) (by omega)).to (by rw [List.filter_eq_self.mpr (by simp)]; unfold onM; rw [List.map_map]; rfl)
      exact ev_tupD (ead_cons (ev_var rfl) (ead_cons (ev_var rfl) ead_nil))
end
end DL

-- P3
set_option Elab.async false
set_option linter.all false
set_option maxRecDepth 100000
set_option maxHeartbeats 4000000
/-! Pure defs, part 3: the law's own list. -/
namespace DL
open PySem PySem.Calls L2 PyProof.Rows
section
variable {K : Kf} {es : Es} {ta tb te : TE}
theorem ev_catO {o : List Arc} {p : Arc} (h1 : EvD K ta es (dO o)) (h2 : EvD K tb es (dA p)) (hl : o.length ≤ 1000) : EvD K (tOp (rCatA K) ta (tTup (tCons tb tNil))) es (dO (o ++ [p])) :=
  (ev_catT (ds := o.map dA) (fs := [dA p]) h1 (ev_tupD (ead_cons h2 ead_nil)) (by rw [List.length_map]; show o.length + 1 ≤ _; omega)).to (by unfold dO; rw [List.map_append]; rfl)
theorem eqv_emp (o : List Arc) : PyData.eqv (.list (o.map dA)) (.list []) = o.isEmpty := ((eq_lst eq_A) o []).trans (by cases o <;> rfl)
theorem eqv_empI (o : List Int) : PyData.eqv (.list (o.map .int)) (.list []) = o.isEmpty := ((eq_lst eq_int) o []).trans (by cases o <;> rfl)
end
section
variable {P : Program} {w : World} {K : Kf} {mg : Str → Option Value} {base : Heap}
def rel__law_rising (xs : List Sl) (y : Sl) : Prop := ∃ l : List Int, lineOk l = true ∧ xs = [.d (dL l)] ∧ y = .d (.list ((risingM l).map dA))
abbrev s__law_rising : Stmt := topS 39
abbrev N__law_rising : List Str := ["_law_line_so", "_law_found", "_law_first", "_law_last"]
theorem sc__law_rising : FnScope N__law_rising ["_law_line_so"] (defScope s__law_rising) := ⟨rfl, rfl, rfl, by decide +kernel, rfl, by decide +kernel, by decide +kernel⟩
theorem df__law_rising {f : Addr} {fd : FuncData} {k : Nat} (F : Fun K "_law_rising" "_law_rising" s__law_rising f fd) (g : mg "_law_rising" = some (.ref f)) (T : Bl mg) :
    Df P w K mg base CX0 (k + 1) "_law_rising" ["_law_line_so"] (spP K 1 rel__law_rising) := by
  refine df_ok F g sc__law_rising rfl (F.binds fun _ _ _ _ _ _ us hl => match us, hl with | [_], _ => rfl) fun cdv A outer s H E hr => ⟨_, (pss_cons (ps_set (i := 1) sc__law_rising.nd rfl (.inl rfl) (pe_lst pa_nil))
      (pss_cons (ps_for PassesOwn.never rfl (pi_range1 (by rfl) T.range (pa_cons (pe_callB (crK_len (K := K)) (by rfl) T.len (by decide +kernel) (pa_cons (pv 0) pa_nil)) pa_nil)) (pg_name (i := 2) sc__law_rising.nd rfl (Or.inl rfl)) (pss_one (ps_for PassesOwn.never rfl (pi_range2 (by rfl) T.range (pa_cons (pe_op op_add (pv 2) pe_int) (pa_cons (pe_callB (crK_len (K := K)) (by rfl) T.len (by decide +kernel) (pa_cons (pv 0) pa_nil)) pa_nil))) (pg_name (i := 3) sc__law_rising.nd rfl (Or.inl rfl)) (pss_one (ps_if (pt_cmpR op_lt (pe_ix (ixK_tup (K := K)) (pv 0) (pv 2) (fun _ _ => rfl)) (pe_ix (ixK_tup (K := K)) (pv 0) (pv 3) (fun _ _ => rfl)) (nomark _)) (pss_one (ps_expr (pe_bm PySem.F.plainAttrs_list PySem.F.slot_list_append PySem.F.type_list_append mt_append (pv 1) (pa_cons (pe_tup (pa_cons (pv 2) (pa_cons (pv 3) pa_nil))) pa_nil)))) pss_nil)))))
      (pss_one (ps_ret (pv 1))))), fun xs y r hl => ?_⟩
  obtain ⟨l, ok, rfl, rfl⟩ := r
  obtain ⟨hl4, hr6⟩ := ok_len ok
  refine run_seq (run_new (i := 1) (ds := []) ea_nil (fun p _ => ?_))
  refine run_seq ?_
  refine run_foldM PyData.int (rngI 0 l.length) (fun _ => [.d (dL l), .r (.ref p), .no, .no]) (fun acc => [(p, some (acc.map dA))]) (fun acc i => acc ++ rowM l i) [] [2] (ei_rngI1 (ea_one (ev_lenI (ev_var rfl))) (by omega)) (.eq (.eq (.no (.no .nil)))) rfl (fun i a ha => ⟨_, eg_name, ?_⟩) (fun e le => ?_)
  · have hi : i < l.length := by
      have := (List.getElem?_eq_some_iff.mp ha).1
      rw [rngI_len] at this; exact this
    have ha2 := rngI_mem (List.mem_of_getElem? ha)
    have hb := ok_rows ok (i := i) (by omega)
    generalize ((rngI 0 l.length).take i).foldl (fun acc i => acc ++ rowM l i) [] = acc at hb ⊢
    refine run_foldM PyData.int (rngI (a + 1) ((l.length : Int) - (a + 1)).toNat) (fun _ => [.d (dL l), .r (.ref p), .d (.int a), .no]) (fun b => [(p, some (b.map dA))]) (fun b j => if decide (getI l a < getI l j) then b ++ [(a, j)] else b) acc [3] (ei_rngI2 (ea_two (ev_add (ev_var rfl) ev_int) (ev_lenI (ev_var rfl))) (by omega) (by omega) (by omega) (by omega)) (.eq (.eq (.eq (.no .nil)))) rfl (fun j c hc => ⟨_, eg_name, ?_⟩) (fun e le => ?_)
    · have hc2 := rngI_mem (List.mem_of_getElem? hc)
      have hlen : ((((rngI (a + 1) ((l.length : Int) - (a + 1)).toNat)).take j).foldl (fun b j => if decide (getI l a < getI l j) then b ++ [(a, j)] else b) acc).length ≤ 100 := by
        rw [fold_if (fun j => decide (getI l a < getI l j)) (fun j => (a, j)), List.length_append, List.length_map]
        have h1 := List.length_filter_le (fun j => decide (getI l a < getI l j)) ((rngI (a + 1) ((l.length : Int) - (a + 1)).toNat).take j)
        have h2 := List.length_take_le' j (rngI (a + 1) ((l.length : Int) - (a + 1)).toNat)
        rw [rngI_len] at h2
        omega
      generalize ((rngI (a + 1) ((l.length : Int) - (a + 1)).toNat).take j).foldl (fun b j => if decide (getI l a < getI l j) then b ++ [(a, j)] else b) acc = b at hlen ⊢
      refine run_if (et_test (ev_lt (ev_ixI (ev_var rfl) (ev_var rfl) (by omega) (by omega)) (ev_ixI (ev_var rfl) (ev_var rfl) (by omega) (by omega)))) (fun h => ?_) (fun h => ?_)
      · refine run_append (i := 1) (d := dA (a, c)) rfl (fun _ h => nomatch h) (ev_tupD (ead_cons (ev_var rfl) (ead_cons (ev_var rfl) ead_nil))) (by rw [List.length_map]; omega) ⟨.eq (.eq (.eq (.no .nil))), ?_⟩
        rw [if_pos h, List.map_append]; rfl
      · refine run_next ⟨.eq (.eq (.eq (.no .nil))), ?_⟩
        rw [if_neg (by rw [h]; decide)]
    · refine ⟨Le.trans (.eq (.eq (.no (.no .nil)))) le, ?_⟩
      rw [fold_if (fun j => decide (getI l a < getI l j)) (fun j => (a, j))]
      rfl
  · exact Run.le' le (run_pub (i := 1) rfl (fun _ h => nomatch h) (run_ret (ev_var (i := 1) (x := .d (.list ((risingM l).map dA))) rfl) rfl))
def rel__law_within (xs : List Sl) (y : Sl) : Prop := ∃ (o : List Arc) (a b : Int), o.length ≤ 1000 ∧ xs = [.d (.list (o.map dA)), .d (.int a), .d (.int b)] ∧ y = .d (.bool (inM o a b))
abbrev s__law_within : Stmt := topS 37
abbrev N__law_within : List Str := ["_law_spans", "_law_first", "_law_last", "_law_one"]
theorem sc__law_within : FnScope N__law_within ["_law_spans", "_law_first", "_law_last"] (defScope s__law_within) := ⟨rfl, rfl, rfl, by decide +kernel, rfl, by decide +kernel, by decide +kernel⟩
theorem df__law_within {f : Addr} {fd : FuncData} {k : Nat} (F : Fun K "_law_within" "_law_within" s__law_within f fd) (g : mg "_law_within" = some (.ref f)) (T : Bl mg) :
    Df P w K mg base CX0 (k + 1) "_law_within" ["_law_spans", "_law_first", "_law_last"] (spP K 3 rel__law_within) := by
  refine df_ok F g sc__law_within rfl (F.binds fun _ _ _ _ _ _ us hl => match us, hl with | [_, _, _], _ => rfl) fun cdv A outer s H E hr => ⟨_, (pss_one (ps_ret (pe_cmpR (opK_neD (K := K) hr.units) (pe_lc (own := [("_law_one", 3)]) (g := (gName 3)) rfl sc__law_within.nd (piK_list (K := K) (pv 0)) (blkOk_by (own := [("_law_one", 3)]) (N := N__law_within) (sc := defScope s__law_within) (by decide +kernel)) (fun _ _ _ _ _ => (pg_name (i := 3) sc__law_within.nd rfl (Or.inl rfl))) (fun _ _ _ _ _ => (pts_one (PW.pt (pw_and (pt_cmpR op_le (pe_ix (ixK_tup (K := K)) (pv 3) pe_int (fun _ _ => rfl)) (pv 1) (nomark _)) (pw_and1 (pt_cmpR op_le (pv 2) (pe_ix (ixK_tup (K := K)) (pv 3) pe_int (fun _ _ => rfl)) (nomark _))))))) (fun _ _ _ _ _ => (pv 3))) (pe_lst pa_nil) (nomark _)))), fun xs y r hl => ?_⟩
  obtain ⟨o, a, b, hl, rfl, rfl⟩ := r
  refine run_ret (x := .d (.bool (inM o a b))) ?_ rfl
  refine (ev_neD (d := .list ((o.filter fun p => decide (p.1 ≤ a) && decide (b ≤ p.2)).map dA)) (e := .list []) ?_ (ev_lstD ead_nil) (sh_lst sh_A _).shaped (sh_lst sh_A []).shaped).to (by rw [eqv_emp]; rfl)
  exact ev_lcM (js := [3]) dA o (fun p => decide (p.1 ≤ a) && decide (b ≤ p.2)) (fun p => dA p) (ei_list (ev_var rfl)) (fun _ _ => dA_inj) (fun p _ => ⟨_, eg_name, et_and (et_test (ev_le (ev_a0 (ev_var rfl)) (ev_var rfl))) fun _ => et_test (ev_le (ev_var rfl) (ev_a1 (ev_var rfl))), fun _ => ev_var rfl⟩) (by decide) (by omega)
def rel__law_outer (xs : List Sl) (y : Sl) : Prop := ∃ o : List Arc, o.length ≤ 1000 ∧ xs = [.d (dO o)] ∧ y = .d (dO (outerM o))
abbrev s__law_outer : Stmt := topS 38
abbrev N__law_outer : List Str := ["_law_spans", "_law_found", "_law_one", "_law_others", "_law_two"]
theorem sc__law_outer : FnScope N__law_outer ["_law_spans"] (defScope s__law_outer) := ⟨rfl, rfl, rfl, by decide +kernel, rfl, by decide +kernel, by decide +kernel⟩
theorem df__law_outer {f : Addr} {fd : FuncData} {k : Nat} (F : Fun K "_law_outer" "_law_outer" s__law_outer f fd) (g : mg "_law_outer" = some (.ref f)) (T : Bl mg) (D__law_within : Df P w K mg base CX0 k "_law_within" ["_law_spans", "_law_first", "_law_last"] (spP K 3 rel__law_within)) :
    Df P w K mg base CX0 (k + 1) "_law_outer" ["_law_spans"] (spP K 1 rel__law_outer) := by
  refine df_ok F g sc__law_outer rfl (F.binds fun _ _ _ _ _ _ us hl => match us, hl with | [_], _ => rfl) fun cdv A outer s H E hr => ⟨_, (pss_cons (ps_set (i := 1) sc__law_outer.nd rfl (.inl rfl) (pe_lst pa_nil))
      (pss_cons (ps_for PassesOwn.never rfl (piK_tup (K := K) (pv 0)) (pg_name (i := 2) sc__law_outer.nd rfl (Or.inr rfl)) (pss_cons (ps_setLc (i := 3) (own := [("_law_two", 4)]) (g := (gName 4)) rfl sc__law_outer.nd rfl rfl (sw_true rfl rfl rfl (by decide +kernel)) (piK_tup (K := K) (pv 0)) (blkOk_by (own := [("_law_two", 4)]) (N := N__law_outer) (sc := defScope s__law_outer) (by decide +kernel)) (fun _ _ _ _ _ => (pg_name (i := 4) sc__law_outer.nd rfl (Or.inl rfl))) (fun _ _ _ _ _ => (pts_one (pt_cmpR (opK_neD (K := K) hr.units) (pv 4) (pv 2) (nomark _)))) (fun _ _ _ _ _ => (pv 4)))
      (pss_one (ps_if (pt_not (pt_val (pe_df D__law_within hr (by rfl) pass0 (pa_cons (pv 3) (pa_cons (pe_ix (ixK_tup (K := K)) (pv 2) pe_int (fun _ _ => rfl)) (pa_cons (pe_ix (ixK_tup (K := K)) (pv 2) pe_int (fun _ _ => rfl)) pa_nil)))))) (pss_one (ps_expr (pe_bm PySem.F.plainAttrs_list PySem.F.slot_list_append PySem.F.type_list_append mt_append (pv 1) (pa_cons (pv 2) pa_nil)))) pss_nil))))
      (pss_one (ps_ret (pe_callTy (crK_tupOf (K := K)) (by rfl) T.tuple (by decide +kernel) (pa_cons (pe_callB (crK_sort (K := K) hr.units) (by rfl) T.sorted (by decide +kernel) (pa_cons (pv 1) pa_nil)) pa_nil)))))), fun xs y r hl => ?_⟩
  obtain ⟨o, hl1, rfl, rfl⟩ := r
  refine run_seq (run_new (i := 1) (ds := []) ea_nil (fun p _ => ?_))
  refine run_seq ?_
  refine run_foldM dA o (fun _ => [.d (dO o), .r (.ref p), .no, .no, .no]) (fun acc => [(p, some (acc.map dA))]) (fun acc a => if !inM (o.filter fun b => !decide (b = a)) a.1 a.2 then acc ++ [a] else acc) [] [2] (ei_tup (ev_var rfl)) (.eq (.eq (.no (.no (.no .nil))))) rfl (fun i a ha => ⟨_, eg_name, ?_⟩) (fun e le => ?_)
  · have hlen : ((o.take i).foldl (fun acc a => if !inM (o.filter fun b => !decide (b = a)) a.1 a.2 then acc ++ [a] else acc) []).length ≤ 1000 := by
      rw [fold_if (fun a => !inM (o.filter fun b => !decide (b = a)) a.1 a.2) (fun a => a), List.nil_append, List.length_map]
      have h1 := List.length_filter_le (fun a => !inM (o.filter fun b => !decide (b = a)) a.1 a.2) (o.take i)
      have h2 := List.length_take_le' i o
      omega
    generalize (o.take i).foldl (fun acc a => if !inM (o.filter fun b => !decide (b = a)) a.1 a.2 then acc ++ [a] else acc) [] = acc at hlen ⊢
    refine run_seq (run_asg (x := .d (.list ((o.filter fun b => !decide (b = a)).map dA))) ?_ ?_)
    · exact ev_lcM (js := [4]) dA o (fun b => !decide (b = a)) (fun p => dA p) (ei_tup (ev_var rfl)) (fun _ _ => dA_inj) (fun b _ => ⟨_, eg_name, (et_test (ev_neD (ev_var rfl) (ev_var rfl) (sh_A b).shaped (sh_A a).shaped)).is (by rw [eq_A]), fun _ => ev_var rfl⟩) (by decide) (by omega)
    refine run_if (et_not (a := inM (o.filter fun b => !decide (b = a)) a.1 a.2) (et_B (ev_call (ea_three (ev_var rfl) (ev_a0 (a := a) (ev_var rfl)) (ev_a1 (a := a) (ev_var rfl))) ⟨_, _, _, Nat.le_trans (List.length_filter_le ..) hl1, rfl, rfl⟩))) (fun h => ?_) (fun h => ?_)
    · refine run_append (i := 1) (d := dA a) rfl (fun _ h => nomatch h) (ev_var rfl) (by rw [List.length_map]; omega) ⟨.eq (.eq (.no (.no (.no .nil)))), ?_⟩
      rw [if_pos h, List.map_append]; rfl
    · refine run_next ⟨.eq (.eq (.no (.no (.no .nil)))), ?_⟩
      rw [if_neg (by rw [h]; decide)]
  · refine Run.le' le (run_pub (i := 1) rfl (fun _ h => nomatch h) (run_ret (x := .d (dO (outerM o))) ?_ rfl))
    rw [fold_if (fun a => !inM (o.filter fun b => !decide (b = a)) a.1 a.2) (fun a => a), List.nil_append, List.map_id']
    exact ev_tupOf (ev_sortAL (ev_var rfl))
def rel__law_every (xs : List Sl) (y : Sl) : Prop := ∃ n : Nat, n ∈ [1, 2, 3, 4] ∧ xs = [.d (.int n)] ∧ y = .d (.list ((everyM n).map dF))
abbrev s__law_every : Stmt := topS 41
abbrev N__law_every : List Str := ["_law_many", "_law_found", "_law_line_so", "_law_lots_so", "_law_pair", "_law_more", "_law_some"]
theorem sc__law_every : FnScope N__law_every ["_law_many"] (defScope s__law_every) := ⟨rfl, rfl, rfl, by decide +kernel, rfl, by decide +kernel, by decide +kernel⟩
theorem df__law_every {f : Addr} {fd : FuncData} {k : Nat} (F : Fun K "_law_every" "_law_every" s__law_every f fd) (g : mg "_law_every" = some (.ref f)) (T : Bl mg) (D__law_lines : Df P w K mg base CX0 k "_law_lines" ["_law_many"] (spP K 1 rel__law_lines)) (D__law_outer : Df P w K mg base CX0 k "_law_outer" ["_law_spans"] (spP K 1 rel__law_outer)) (D__law_rising : Df P w K mg base CX0 k "_law_rising" ["_law_line_so"] (spP K 1 rel__law_rising)) :
    Df P w K mg base CX0 (k + 1) "_law_every" ["_law_many"] (spP K 1 rel__law_every) := by
  refine df_ok F g sc__law_every rfl (F.binds fun _ _ _ _ _ _ us hl => match us, hl with | [_], _ => rfl) fun cdv A outer s H E hr => ⟨_, (pss_cons (ps_set (i := 1) sc__law_every.nd rfl (.inl rfl) (pe_lst pa_nil))
      (pss_cons (ps_for PassesOwn.never rfl (piK_list (K := K) (pe_df D__law_lines hr (by rfl) pass0 (pa_cons (pv 0) pa_nil))) (pg_name (i := 2) sc__law_every.nd rfl (Or.inr rfl)) (pss_cons (ps_set (i := 3) sc__law_every.nd rfl (.inl rfl) (pe_lst (pa_cons (pe_tup pa_nil) pa_nil)))
      (pss_cons (ps_for PassesOwn.never rfl (piK_list (K := K) (pe_df D__law_rising hr (by rfl) pass0 (pa_cons (pv 2) pa_nil))) (pg_name (i := 4) sc__law_every.nd rfl (Or.inr rfl)) (pss_cons (ps_setLc (i := 5) (own := [("_law_some", 6)]) (g := (gName 6)) rfl sc__law_every.nd rfl rfl (sw_true rfl rfl rfl (by decide +kernel)) (piK_list (K := K) (pv 3)) (blkOk_by (own := [("_law_some", 6)]) (N := N__law_every) (sc := defScope s__law_every) (by decide +kernel)) (fun _ _ _ _ _ => (pg_name (i := 6) sc__law_every.nd rfl (Or.inl rfl))) (fun _ _ _ _ _ => (pts_one (pt_cmpR (opK_eqD (K := K) hr.units) (pe_df D__law_outer hr (by rfl) pass0 (pa_cons (pe_op (opK_catA (K := K)) (pv 6) (pe_tup (pa_cons (pv 4) pa_nil))) pa_nil)) (pe_callTy (crK_tupOf (K := K)) (by rfl) T.tuple (by decide +kernel) (pa_cons (pe_callB (crK_sort (K := K) hr.units) (by rfl) T.sorted (by decide +kernel) (pa_cons (pe_op (opK_catA (K := K)) (pv 6) (pe_tup (pa_cons (pv 4) pa_nil))) pa_nil)) pa_nil)) (nomark _)))) (fun _ _ _ _ _ => (pv 6)))
      (pss_one (ps_set (i := 3) sc__law_every.nd rfl (.inl rfl) (pe_op (opK_catS (K := K)) (pv 3) (pe_lc (own := [("_law_some", 6)]) (g := (gName 6)) rfl sc__law_every.nd (piK_list (K := K) (pv 5)) (blkOk_by (own := [("_law_some", 6)]) (N := N__law_every) (sc := defScope s__law_every) (by decide +kernel)) (fun _ _ _ _ _ => (pg_name (i := 6) sc__law_every.nd rfl (Or.inl rfl))) (fun _ _ _ _ _ => pts_nil) (fun _ _ _ _ _ => (pe_callTy (crK_tupOf (K := K)) (by rfl) T.tuple (by decide +kernel) (pa_cons (pe_callB (crK_sort (K := K) hr.units) (by rfl) T.sorted (by decide +kernel) (pa_cons (pe_op (opK_catA (K := K)) (pv 6) (pe_tup (pa_cons (pv 4) pa_nil))) pa_nil)) pa_nil)))))))))
      (pss_one (ps_set (i := 1) sc__law_every.nd rfl (.inl rfl) (pe_op (opK_catS (K := K)) (pv 1) (pe_lc (own := [("_law_some", 6)]) (g := (gName 6)) rfl sc__law_every.nd (piK_list (K := K) (pv 3)) (blkOk_by (own := [("_law_some", 6)]) (N := N__law_every) (sc := defScope s__law_every) (by decide +kernel)) (fun _ _ _ _ _ => (pg_name (i := 6) sc__law_every.nd rfl (Or.inl rfl))) (fun _ _ _ _ _ => pts_nil) (fun _ _ _ _ _ => (pe_tup (pa_cons (pv 2) (pa_cons (pv 6) pa_nil)))))))))))
      (pss_one (ps_ret (pe_callB (crK_sort (K := K) hr.units) (by rfl) T.sorted (by decide +kernel) (pa_cons (pv 1) pa_nil)))))), fun xs y r hl => ?_⟩
  obtain ⟨n, hn, rfl, rfl⟩ := r
  refine run_seq (run_asg (x := .d (.list ([].map dF))) (ev_lstD ead_nil) ?_)
  refine run_seq ?_
  refine run_foldM dL (linesM n) (fun acc => [.d (.int n), .d (.list (acc.map dF)), .no, .no, .no, .no, .no]) (fun _ => []) (fun f l => f ++ (everyLots (risingM l)).map fun o => (l, o)) [] [2] (ei_list (ev_call (ea_one (ev_var rfl)) ⟨n, hn, rfl, rfl⟩)) (.eq (.eq (.no (.no (.no (.no (.no .nil))))))) rfl (fun i l hil => ⟨_, eg_name, ?_⟩) (fun e le => ?_)
  · have ok := line_ok hn (List.mem_of_getElem? hil)
    obtain ⟨hl4, hr6⟩ := ok_len ok
    have hb : (((linesM n).take i).foldl (fun f l => f ++ (everyLots (risingM l)).map fun o => ((l, o) : Fld)) []).length ≤ 24000 := by
      have h1 := len_fold_app (f := fun l => (everyLots (risingM l)).map fun o => ((l, o) : Fld)) (c := 1000) ((linesM n).take i) [] fun a ha => by
        have ok := line_ok hn (List.mem_of_mem_take ha)
        have s1 := (small_of (ok_lots ok (i := 6) (by omega)).2).1
        rw [List.take_of_length_le (ok_len ok).2] at s1
        rw [List.length_map]; exact s1
      have h2 := List.length_take_le' i (linesM n)
      have h3 := (lines_ok n hn).2
      simp only [List.length_nil] at h1
      omega
    generalize ((linesM n).take i).foldl (fun f l => f ++ (everyLots (risingM l)).map fun o => ((l, o) : Fld)) [] = acc at hb ⊢
    refine run_seq (run_asg (x := .d (.list ([[]].map dO))) (ev_lstD (ead_cons (ev_tupD ead_nil) ead_nil)) ?_)
    refine run_seq ?_
    refine run_foldM dA (risingM l) (fun f => [.d (.int n), .d (.list (acc.map dF)), .d (dL l), .d (.list (f.map dO)), .no, .no, .no]) (fun _ => []) (fun f p => f ++ (f.filter fun o => decide (outerM (o ++ [p]) = isort leA (o ++ [p]))).map fun o => isort leA (o ++ [p])) [[]] [4] (ei_list (ev_call (ea_one (ev_var rfl)) ⟨l, ok, rfl, rfl⟩)) (.eq (.eq (.eq (.eq (.no (.no (.no .nil))))))) rfl (fun i p hp => ⟨_, eg_name, ?_⟩) (fun e le => ?_)
    · have hi : i < (risingM l).length := (List.getElem?_eq_some_iff.mp hp).1
      obtain ⟨s1, s2⟩ := small_of (ok_lots ok (i := i) (by omega)).2
      unfold everyLots at s1 s2
      generalize ((risingM l).take i).foldl (fun f p => f ++ (f.filter fun o => decide (outerM (o ++ [p]) = isort leA (o ++ [p]))).map fun o => isort leA (o ++ [p])) [[]] = f at s1 s2 ⊢
      have hf : (f.filter fun o => decide (outerM (o ++ [p]) = isort leA (o ++ [p]))).length ≤ 1000 := Nat.le_trans (List.length_filter_le ..) s1
      refine run_seq (run_asg (x := .d (.list ((f.filter fun o => decide (outerM (o ++ [p]) = isort leA (o ++ [p]))).map dO))) ?_ ?_)
      · refine ev_lcM (js := [6]) dO f (fun o => decide (outerM (o ++ [p]) = isort leA (o ++ [p]))) (fun o => dO o) (ei_list (ev_var rfl)) (fun _ _ => dO_inj) (fun o ho => ⟨_, eg_name, ?_, fun _ => ev_var rfl⟩) (by decide) (by omega)
        have h10 := s2 o ho
        refine (et_test (ev_eqD (d := dO (outerM (o ++ [p]))) (e := dO (isort leA (o ++ [p]))) (ev_call (ea_one (ev_catO (p := p) (ev_var rfl) (ev_var rfl) (by omega))) ⟨o ++ [p], by rw [List.length_append]; show _ + 1 ≤ _; omega, rfl, rfl⟩) (ev_tupOf (ev_sortAT (ev_catO (p := p) (ev_var rfl) (ev_var rfl) (by omega)))) (sh_O _).shaped (sh_O _).shaped)).is (eq_O _ _)
      refine run_asg (x := .d (.list ((f ++ (f.filter fun o => decide (outerM (o ++ [p]) = isort leA (o ++ [p]))).map fun o => isort leA (o ++ [p])).map dO))) ?_ ⟨.eq (.eq (.eq (.eq (.no (.no (.no .nil)))))), rfl⟩
      refine (ev_catL (ds := f.map dO) (fs := ((f.filter fun o => decide (outerM (o ++ [p]) = isort leA (o ++ [p]))).map fun o => isort leA (o ++ [p])).map dO) (ev_var rfl) ?_ (by simp only [List.length_map]; omega)).to (by rw [List.map_append])
      refine (ev_lcM (js := [6]) dO (f.filter fun o => decide (outerM (o ++ [p]) = isort leA (o ++ [p]))) (fun _ => true) (fun o => dO (isort leA (o ++ [p]))) (ei_list (ev_var rfl)) (fun _ _ => dO_inj) (fun o ho => ⟨_, eg_name, et_yes, fun _ => ?_⟩) (by decide) (by omega)).to (by rw [List.filter_eq_self.mpr (by simp), List.map_map]; rfl)
      have h10 := s2 o (List.mem_filter.mp ho).1
      exact ev_tupOf (ev_sortAT (ev_catO (p := p) (ev_var rfl) (ev_var rfl) (by omega)))
    · have s1 := (small_of (ok_lots ok (i := 6) (by omega)).2).1
      rw [List.take_of_length_le hr6] at s1
      refine Run.le' le (run_asg (x := .d (.list ((acc ++ (everyLots (risingM l)).map fun o => ((l, o) : Fld)).map dF))) ?_ ⟨.eq (.eq (.no (.no (.no (.no (.no .nil)))))), rfl⟩)
      refine (ev_catL (ds := acc.map dF) (fs := ((everyLots (risingM l)).map fun o => ((l, o) : Fld)).map dF) (ev_var rfl) ?_ (by simp only [List.length_map]; omega)).to (by rw [List.map_append])
      refine (ev_lcM (js := [6]) dO (everyLots (risingM l)) (fun _ => true) (fun o => dF (l, o)) (ei_list (ev_var rfl)) (fun _ _ => dO_inj) (fun o ho => ⟨_, eg_name, et_yes, fun _ => ?_⟩) (by decide) (by omega)).to (by rw [List.filter_eq_self.mpr (by simp), List.map_map]; rfl)
      exact ev_tupD (ead_cons (ev_var rfl) (ead_cons (ev_var rfl) ead_nil))
  · exact Run.le' le (run_ret (x := .d (.list ((everyM n).map dF))) (ev_sortF (ev_var rfl)) rfl)
end
end DL

-- P4
set_option Elab.async false
set_option linter.all false
set_option maxRecDepth 100000
set_option maxHeartbeats 4000000
/-! Pure defs, part 4: what a field is; closed fields; parking off the law. -/
namespace DL
open PySem PySem.Calls L2 PyProof.Rows
/-- a statement that is not reached -/
theorem ps_never {X : Cx} {st : Stmt} : PS X st (fun _ _ _ => False) := ⟨fun _ _ _ _ _ _ h => h.elim⟩
theorem lineB_of {l : List Int} (h : lineB l = true) : l.Nodup ∧ 1 ≤ l.length ∧ l.length ≤ 12 ∧ ∀ i ∈ l, 0 ≤ i ∧ i < l.length := by
  unfold lineB at h
  simp only [Bool.and_eq_true, decide_eq_true_eq] at h
  refine ⟨h.1.1.1, h.1.1.2, h.1.2, fun i hi => ?_⟩
  have := List.all_eq_true.mp h.2 i hi
  simpa using this
theorem arcB_of {l : List Int} {a : Arc} (h : arcB l a = true) : 0 ≤ a.1 ∧ a.1 < a.2 ∧ a.2 < l.length ∧ getI l a.1 < getI l a.2 := by
  unfold arcB at h
  simp only [Bool.and_eq_true, decide_eq_true_eq] at h
  exact ⟨h.1.1.1, h.1.1.2, h.1.2, h.2⟩
theorem incB_of : ∀ {o : List Arc}, incB o = true → ∀ p ∈ o.zip (o.drop 1), (decide (p.1.1 < p.2.1) && decide (p.1.2 < p.2.2)) = true
  | [], _, p, hp => by simp at hp
  | [a], _, p, hp => by simp at hp
  | a :: b :: r, h, p, hp => by
    unfold incB at h
    rw [Bool.and_eq_true] at h
    have hp : p ∈ (a, b) :: ((b :: r).zip r) := hp
    rcases List.mem_cons.mp hp with rfl | hp
    · exact h.1
    · exact incB_of h.2 p hp
theorem fieldB_of {f : Fld} (h : fieldB f = true) : lineB f.1 = true ∧ (∀ a ∈ f.2, arcB f.1 a = true) ∧ incB f.2 = true ∧ f.2.length ≤ 100 := by
  unfold fieldB at h
  simp only [Bool.and_eq_true, decide_eq_true_eq] at h
  exact ⟨h.1.1.1, fun a ha => List.all_eq_true.mp h.1.1.2 a ha, h.1.2, h.2⟩
theorem ev_isW {K : Kf} {es : Es} {ta : TA} {E : XK} {i lo hi : Int} (h : EvA K ta es [.d (.int i), .d (.int lo), .d (.int hi)]) (h1 : lo ≤ i) (h2 : i ≤ hi) : EvD K (tCall (spP K 3 rel_is_whole) [] E ta) es (.bool true) :=
  ev_call h ⟨.int i, lo, hi, rfl, trivial, by show _ = Sl.d (PyData.bool (decide (lo ≤ i) && decide (i ≤ hi))); rw [decide_eq_true h1, decide_eq_true h2]; rfl⟩
section
variable {P : Program} {w : World} {K : Kf} {mg : Str → Option Value} {base : Heap}
def rel_fits_order (xs : List Sl) (y : Sl) : Prop := ∃ l : List Int, lineB l = true ∧ xs = [.d (dL l)] ∧ y = .d (.bool true)
abbrev s_fits_order : Stmt := topS 20
abbrev N_fits_order : List Str := ["value", "one"]
theorem sc_fits_order : FnScope N_fits_order ["value"] (defScope s_fits_order) := ⟨rfl, rfl, rfl, by decide +kernel, rfl, by decide +kernel, by decide +kernel⟩
theorem df_fits_order {f : Addr} {fd : FuncData} {k : Nat} (F : Fun K "fits_order" "fits_order" s_fits_order f fd) (g : mg "fits_order" = some (.ref f)) (T : Bl mg) (D_is_whole : Df P w K mg base CX0 k "is_whole" ["value", "low", "high"] (spP K 3 rel_is_whole)) :
    Df P w K mg base CX0 (k + 1) "fits_order" ["value"] (spP K 1 rel_fits_order) := by
  refine df_ok F g sc_fits_order rfl (F.binds fun _ _ _ _ _ _ us hl => match us, hl with | [_], _ => rfl) fun cdv A outer s H E hr => ⟨_, (pss_cons (ps_if (PW.pt (pw_or (pt_not (pt_val (pe_callB (crK_isi (K := K)) (by rfl) T.isinstance (by decide +kernel) (pa_cons (pv 0) (pa_cons (pe_bltn (v := .ty "tuple") (u := .type "tuple") (by rfl) T.tuple (by decide +kernel) rfl) pa_nil))))) (pw_or1 (pt_not (pt_chain op_le op_le pe_int (pe_callB (crK_len (K := K)) (by rfl) T.len (by decide +kernel) (pa_cons (pv 0) pa_nil)) (pe_globE (by rfl) T.gCARS)))))) (pss_one (ps_ret pe_bl)) pss_nil)
      (pss_one (ps_ret (pe_and (pe_callB (crK_all (K := K) rfl) (by rfl) T.all (by decide +kernel) (pa_cons (pe_lc (own := [("one", 1)]) (g := (gName 1)) rfl sc_fits_order.nd (piK_tup (K := K) (pv 0)) (blkOk_by (own := [("one", 1)]) (N := N_fits_order) (sc := defScope s_fits_order) (by decide +kernel)) (fun _ _ _ _ _ => (pg_name (i := 1) sc_fits_order.nd rfl (Or.inl rfl))) (fun _ _ _ _ _ => pts_nil) (fun _ _ _ _ _ => (pe_df D_is_whole hr (by rfl) pass0 (pa_cons (pv 1) (pa_cons pe_int (pa_cons (pe_op op_sub (pe_callB (crK_len (K := K)) (by rfl) T.len (by decide +kernel) (pa_cons (pv 0) pa_nil)) pe_int) pa_nil)))))) pa_nil)) (pe_one (pe_cmpR op_eq (pe_lenSet (by rfl) T.len (by rfl) T.set (pv 0)) (pe_callB (crK_len (K := K)) (by rfl) T.len (by decide +kernel) (pa_cons (pv 0) pa_nil)) (nomark _))))))), fun xs y r hl => ?_⟩
  obtain ⟨l, h, rfl, rfl⟩ := r
  obtain ⟨h1, h2, h3, h4⟩ := lineB_of h
  refine run_seq (run_if (et_or (a := !true) (b := !(decide (1 ≤ (l.length : Int)) && decide ((l.length : Int) ≤ 12))) (et_not (et_B (ev_isi (ev_var (x := .d (dL l)) rfl) (b := true) k_tt))) fun _ => et_not (et_test (ev_chain (x := .d (.int 1)) (y := .d (.int l.length)) (z := .d (.int 12)) (a := decide (1 ≤ (l.length : Int))) (b := decide ((l.length : Int) ≤ 12)) ev_int (ev_lenI (ev_var rfl)) (rv_I0 rfl) (fun _ => ev_int) (fun _ => rv_I0 rfl)))) (fun z => ?_) (fun _ => run_next ?_))
  · exfalso
    rw [decide_eq_true (by omega : 1 ≤ (l.length : Int)), decide_eq_true (by omega : (l.length : Int) ≤ 12)] at z
    cases z
  refine run_ret (x := .d (.bool true)) ?_ rfl
  refine (ev_andV (a := true) (b := decide ((l.length : Int) = l.length)) ((ev_all (bs := l.map fun _ => true) (ev_lcM (js := [1]) PyData.int l (fun _ => true) (fun _ => .bool true) (ei_tup (ev_var rfl)) (fun _ _ => int_inj) (fun i hi => ⟨_, eg_name, et_yes, fun _ => ?_⟩) (by decide) (by omega)) (by rw [List.filter_eq_self.mpr (by simp), List.map_map]; rfl)).to (by rw [List.all_map]; simp)) fun _ => ev_eqI (ev_lenSet (ns := l) (ev_var rfl) h1 (by omega)) (ev_lenI (ev_var rfl))).to (by simp)
  have hw := h4 i hi
  exact ev_isW (ea_three (ev_var rfl) ev_int (ev_sub (ev_lenI (ev_var rfl)) ev_int)) hw.1 (by omega)
def rel_fits_arc (xs : List Sl) (y : Sl) : Prop := ∃ (l : List Int) (a : Arc), l.length ≤ 12 ∧ arcB l a = true ∧ xs = [.d (dL l), .d (dA a)] ∧ y = .d (.bool true)
abbrev s_fits_arc : Stmt := topS 21
abbrev N_fits_arc : List Str := ["line", "value"]
theorem sc_fits_arc : FnScope N_fits_arc ["line", "value"] (defScope s_fits_arc) := ⟨rfl, rfl, rfl, by decide +kernel, rfl, by decide +kernel, by decide +kernel⟩
theorem df_fits_arc {f : Addr} {fd : FuncData} {k : Nat} (F : Fun K "fits_arc" "fits_arc" s_fits_arc f fd) (g : mg "fits_arc" = some (.ref f)) (T : Bl mg) (D_is_whole : Df P w K mg base CX0 k "is_whole" ["value", "low", "high"] (spP K 3 rel_is_whole)) :
    Df P w K mg base CX0 (k + 1) "fits_arc" ["line", "value"] (spP K 2 rel_fits_arc) := by
  refine df_ok F g sc_fits_arc rfl (F.binds fun _ _ _ _ _ _ us hl => match us, hl with | [_, _], _ => rfl) fun cdv A outer s H E hr => ⟨_, (pss_cons (ps_if (PW.pt (pw_or (pt_not (pt_val (pe_callB (crK_isi (K := K)) (by rfl) T.isinstance (by decide +kernel) (pa_cons (pv 1) (pa_cons (pe_bltn (v := .ty "tuple") (u := .type "tuple") (by rfl) T.tuple (by decide +kernel) rfl) pa_nil))))) (pw_or (pt_cmpR op_ne (pe_callB (crK_len (K := K)) (by rfl) T.len (by decide +kernel) (pa_cons (pv 1) pa_nil)) pe_int (nomark _)) (pw_or1 (pt_not (pt_val (pe_df D_is_whole hr (by rfl) pass0 (pa_cons (pe_ix (ixK_tup (K := K)) (pv 1) pe_int (fun _ _ => rfl)) (pa_cons pe_int (pa_cons (pe_op op_sub (pe_callB (crK_len (K := K)) (by rfl) T.len (by decide +kernel) (pa_cons (pv 0) pa_nil)) pe_int) pa_nil)))))))))) (pss_one (ps_ret pe_bl)) pss_nil)
      (pss_one (ps_ret (pe_and (pe_df D_is_whole hr (by rfl) pass0 (pa_cons (pe_ix (ixK_tup (K := K)) (pv 1) pe_int (fun _ _ => rfl)) (pa_cons (pe_op op_add (pe_ix (ixK_tup (K := K)) (pv 1) pe_int (fun _ _ => rfl)) pe_int) (pa_cons (pe_op op_sub (pe_callB (crK_len (K := K)) (by rfl) T.len (by decide +kernel) (pa_cons (pv 0) pa_nil)) pe_int) pa_nil)))) (pe_one (pe_cmpR op_lt (pe_ix (ixK_tup (K := K)) (pv 0) (pe_ix (ixK_tup (K := K)) (pv 1) pe_int (fun _ _ => rfl)) (fun _ _ => rfl)) (pe_ix (ixK_tup (K := K)) (pv 0) (pe_ix (ixK_tup (K := K)) (pv 1) pe_int (fun _ _ => rfl)) (fun _ _ => rfl)) (nomark _))))))), fun xs y r hl => ?_⟩
  obtain ⟨l, a, hl1, h, rfl, rfl⟩ := r
  obtain ⟨h1, h2, h3, h4⟩ := arcB_of h
  refine run_seq (run_if (et_or (a := !true) (b := !decide ((2 : Int) = 2) || !true) (et_not (et_B (ev_isi (ev_var (x := .d (dA a)) rfl) (b := true) k_tt))) fun _ => et_or (et_test (ev_neI (ev_lenT (ds := [.int a.1, .int a.2]) (ev_var rfl)) ev_int)) fun _ => et_not (et_B (ev_isW (ea_three (ev_a0 (a := a) (ev_var rfl)) ev_int (ev_sub (ev_lenI (ev_var rfl)) ev_int)) h1 (by omega)))) (fun z => by cases z) (fun _ => run_next ?_))
  refine run_ret (x := .d (.bool true)) ?_ rfl
  refine (ev_andV (a := true) (b := decide (getI l a.1 < getI l a.2)) (ev_isW (ea_three (ev_a1 (a := a) (ev_var rfl)) (ev_add (ev_a0 (a := a) (ev_var rfl)) ev_int) (ev_sub (ev_lenI (ev_var rfl)) ev_int)) (by omega) (by omega))
    fun _ => ev_lt (ev_ixI (ev_var rfl) (ev_a0 (a := a) (ev_var rfl)) h1 (by omega)) (ev_ixI (ev_var rfl) (ev_a1 (a := a) (ev_var rfl)) (by omega) h3)).to (by rw [decide_eq_true h4]; rfl)
def rel_fits_field (xs : List Sl) (y : Sl) : Prop := ∃ f : Fld, fieldB f = true ∧ xs = [.d (dF f)] ∧ y = .d (.bool true)
abbrev s_fits_field : Stmt := topS 22
abbrev N_fits_field : List Str := ["value", "one", "other"]
theorem sc_fits_field : FnScope N_fits_field ["value"] (defScope s_fits_field) := ⟨rfl, rfl, rfl, by decide +kernel, rfl, by decide +kernel, by decide +kernel⟩
theorem df_fits_field {f : Addr} {fd : FuncData} {k : Nat} (F : Fun K "fits_field" "fits_field" s_fits_field f fd) (g : mg "fits_field" = some (.ref f)) (T : Bl mg) (D_fits_arc : Df P w K mg base CX0 k "fits_arc" ["line", "value"] (spP K 2 rel_fits_arc)) (D_fits_order : Df P w K mg base CX0 k "fits_order" ["value"] (spP K 1 rel_fits_order)) :
    Df P w K mg base CX0 (k + 1) "fits_field" ["value"] (spP K 1 rel_fits_field) := by
  refine df_ok F g sc_fits_field rfl (F.binds fun _ _ _ _ _ _ us hl => match us, hl with | [_], _ => rfl) fun cdv A outer s H E hr => ⟨_, (pss_cons (ps_if (PW.pt (pw_or (pt_not (pt_val (pe_callB (crK_isi (K := K)) (by rfl) T.isinstance (by decide +kernel) (pa_cons (pv 0) (pa_cons (pe_bltn (v := .ty "tuple") (u := .type "tuple") (by rfl) T.tuple (by decide +kernel) rfl) pa_nil))))) (pw_or (pt_cmpR op_ne (pe_callB (crK_len (K := K)) (by rfl) T.len (by decide +kernel) (pa_cons (pv 0) pa_nil)) pe_int (nomark _)) (pw_or (pt_not (pt_val (pe_df D_fits_order hr (by rfl) pass0 (pa_cons (pe_ix (ixK_tup (K := K)) (pv 0) pe_int (fun _ _ => rfl)) pa_nil)))) (pw_or1 (pt_not (pt_val (pe_callB (crK_isi (K := K)) (by rfl) T.isinstance (by decide +kernel) (pa_cons (pe_ix (ixK_tup (K := K)) (pv 0) pe_int (fun _ _ => rfl)) (pa_cons (pe_bltn (v := .ty "tuple") (u := .type "tuple") (by rfl) T.tuple (by decide +kernel) rfl) pa_nil)))))))))) (pss_one (ps_ret pe_bl)) pss_nil)
      (pss_cons (ps_if (pt_not (pt_val (pe_callB (crK_all (K := K) rfl) (by rfl) T.all (by decide +kernel) (pa_cons (pe_lc (own := [("one", 1)]) (g := (gName 1)) rfl sc_fits_field.nd (piK_tup (K := K) (pe_ix (ixK_tup (K := K)) (pv 0) pe_int (fun _ _ => rfl))) (blkOk_by (own := [("one", 1)]) (N := N_fits_field) (sc := defScope s_fits_field) (by decide +kernel)) (fun _ _ _ _ _ => (pg_name (i := 1) sc_fits_field.nd rfl (Or.inl rfl))) (fun _ _ _ _ _ => pts_nil) (fun _ _ _ _ _ => (pe_df D_fits_arc hr (by rfl) pass0 (pa_cons (pe_ix (ixK_tup (K := K)) (pv 0) pe_int (fun _ _ => rfl)) (pa_cons (pv 1) pa_nil))))) pa_nil)))) (pss_one (ps_ret pe_bl)) pss_nil)
      (pss_one (ps_ret (pe_callB (crK_all (K := K) rfl) (by rfl) T.all (by decide +kernel) (pa_cons (pe_lc (own := [("one", 1), ("other", 2)]) (g := (gTup K 2 (gCons (gName 1) (gCons (gName 2) gNil)))) rfl sc_fits_field.nd (piK_zip (K := K) (by rfl) T.zip (pa_cons (pe_ix (ixK_tup (K := K)) (pv 0) pe_int (fun _ _ => rfl)) (pa_cons (pe_slice (slK_tupA (K := K)) (pe_ix (ixK_tup (K := K)) (pv 0) pe_int (fun _ _ => rfl)) (po_some pe_int) po_none) pa_nil))) (blkOk_by (own := [("one", 1), ("other", 2)]) (N := N_fits_field) (sc := defScope s_fits_field) (by decide +kernel)) (fun _ _ _ _ _ => (pg_tup rfl (pgs_cons (pg_name (i := 1) sc_fits_field.nd rfl (Or.inl rfl)) (pgs_cons (pg_name (i := 2) sc_fits_field.nd rfl (Or.inl rfl)) pgs_nil)))) (fun _ _ _ _ _ => pts_nil) (fun _ _ _ _ _ => (pe_and (pe_cmpR op_lt (pe_ix (ixK_tup (K := K)) (pv 1) pe_int (fun _ _ => rfl)) (pe_ix (ixK_tup (K := K)) (pv 2) pe_int (fun _ _ => rfl)) (nomark _)) (pe_one (pe_cmpR op_lt (pe_ix (ixK_tup (K := K)) (pv 1) pe_int (fun _ _ => rfl)) (pe_ix (ixK_tup (K := K)) (pv 2) pe_int (fun _ _ => rfl)) (nomark _)))))) pa_nil)))))), fun xs y r hl => ?_⟩
  obtain ⟨f, h, rfl, rfl⟩ := r
  obtain ⟨h1, h2, h3, h4⟩ := fieldB_of h
  obtain ⟨l1, l2, l3, l4⟩ := lineB_of h1
  have e0 : EvD K (tOp (rIxT K) (tVar 0) (tC (.int 0))) (startE N_fits_field.length [.d (dF f)]) (dL f.1) := ev_ix0 (ds := [dO f.2]) (ev_var rfl)
  have e1 : EvD K (tOp (rIxT K) (tVar 0) (tC (.int 1))) (startE N_fits_field.length [.d (dF f)]) (dO f.2) := ev_ix1 (ds := []) (e := dL f.1) (ev_var rfl)
  refine run_seq (run_if (et_or (a := !true) (b := !decide ((2 : Int) = 2) || (!true || !true)) (et_not (et_B (ev_isi (ev_var (x := .d (dF f)) rfl) (b := true) k_tt))) fun _ => et_or (et_test (ev_neI (ev_lenT (ds := [dL f.1, dO f.2]) (ev_var rfl)) ev_int)) fun _ => et_or (et_not (et_B (ev_call (ea_one e0) ⟨f.1, h1, rfl, rfl⟩))) fun _ => et_not (et_B (ev_isi e1 (b := true) k_tt))) (fun z => by cases z) (fun _ => run_next ?_))
  refine run_seq (run_if (et_not (et_B ((ev_all (bs := f.2.map fun _ => true) (ev_lcM (js := [1]) dA f.2 (fun _ => true) (fun _ => .bool true) (ei_tup e1) (fun _ _ => dA_inj) (fun a ha => ⟨_, eg_name, et_yes, fun _ => ?_⟩) (by decide) (by omega)) (by rw [List.filter_eq_self.mpr (by simp), List.map_map]; rfl)).to (e := .bool true) (by rw [List.all_map]; simp)))) (fun z => by cases z) (fun _ => run_next ?_))
  · exact ev_call (ea_two (ev_ix0 (ds := [dO f.2]) (ev_var rfl)) (ev_var rfl)) ⟨f.1, a, by omega, h2 a ha, rfl, rfl⟩
  refine run_ret (x := .d (.bool true)) ?_ rfl
  refine (ev_all (bs := (f.2.zip (f.2.drop 1)).map fun p => decide (p.1.1 < p.2.1) && decide (p.1.2 < p.2.2)) (ev_lcM (js := [1, 2]) (fun p : Arc × Arc => PyData.tuple [dA p.1, dA p.2]) (f.2.zip (f.2.drop 1)) (fun _ => true) (fun p => .bool (decide (p.1.1 < p.2.1) && decide (p.1.2 < p.2.2))) ((ei_zipT (ds := f.2.map dA) (fs := (f.2.map dA).drop 1) (ea_two e1 (ev_slT1 (ds := f.2.map dA) e1))).to ?_) (fun a b q => ?_) (fun p _ => ⟨_, eg_tup2, et_yes, fun _ => ev_andV (ev_lt (ev_a0 (ev_var rfl)) (ev_a0 (ev_var rfl))) fun _ => ev_lt (ev_a1 (ev_var rfl)) (ev_a1 (ev_var rfl))⟩) (by decide) (by rw [List.length_zip]; omega)) (by rw [List.filter_eq_self.mpr (by simp), List.map_map]; rfl)).to ?_
  · unfold zipD
    rw [← List.map_drop, List.zip_map, List.map_map]
    rfl
  · injection q with q
    injection q with q1 q2
    injection q2 with q2 _
    exact Prod.ext (dA_inj q1) (dA_inj q2)
  · rw [List.all_map]
    congr 1
    exact List.all_eq_true.mpr fun p hp => incB_of h3 p hp
def rel_need_field (xs : List Sl) (y : Sl) : Prop := ∃ f : Fld, fieldB f = true ∧ xs = [.d (dF f)] ∧ y = .d .none
abbrev s_need_field : Stmt := topS 26
abbrev N_need_field : List Str := ["value"]
theorem sc_need_field : FnScope N_need_field ["value"] (defScope s_need_field) := ⟨rfl, rfl, rfl, by decide +kernel, rfl, by decide +kernel, by decide +kernel⟩
theorem df_need_field {f : Addr} {fd : FuncData} {k : Nat} (F : Fun K "need_field" "need_field" s_need_field f fd) (g : mg "need_field" = some (.ref f)) (T : Bl mg) (D_fits_field : Df P w K mg base CX0 k "fits_field" ["value"] (spP K 1 rel_fits_field)) :
    Df P w K mg base CX0 (k + 1) "need_field" ["value"] (spP K 1 rel_need_field) := by
  refine df_ok F g sc_need_field rfl (F.binds fun _ _ _ _ _ _ us hl => match us, hl with | [_], _ => rfl) fun cdv A outer s H E hr => ⟨_, (pss_one (ps_if (pt_not (pt_val (pe_df D_fits_field hr (by rfl) pass0 (pa_cons (pv 0) pa_nil)))) (pss_one ps_never) pss_nil)), fun xs y r hl => ?_⟩
  obtain ⟨f, h, rfl, rfl⟩ := r
  exact run_if (et_not (et_B (ev_call (ea_one (ev_var rfl)) ⟨f, h, rfl, rfl⟩))) (fun z => by cases z) (fun _ => run_next rfl)
def rel_is_closed_field (xs : List Sl) (y : Sl) : Prop := ∃ f : Fld, fieldB f = true ∧ xs = [.d (dF f)] ∧ y = .d (.bool (closedM f))
abbrev s_is_closed_field : Stmt := topS 29
abbrev N_is_closed_field : List Str := ["field", "first"]
theorem sc_is_closed_field : FnScope N_is_closed_field ["field"] (defScope s_is_closed_field) := ⟨rfl, rfl, rfl, by decide +kernel, rfl, by decide +kernel, by decide +kernel⟩
theorem df_is_closed_field {f : Addr} {fd : FuncData} {k : Nat} (F : Fun K "is_closed_field" "is_closed_field" s_is_closed_field f fd) (g : mg "is_closed_field" = some (.ref f)) (T : Bl mg) (D_need_field : Df P w K mg base CX0 k "need_field" ["value"] (spP K 1 rel_need_field)) (D_spanned : Df P w K mg base CX0 k "spanned" ["spots", "first", "last"] (spP K 3 rel_spanned)) :
    Df P w K mg base CX0 (k + 1) "is_closed_field" ["field"] (spP K 1 rel_is_closed_field) := by
  refine df_ok F g sc_is_closed_field rfl (F.binds fun _ _ _ _ _ _ us hl => match us, hl with | [_], _ => rfl) fun cdv A outer s H E hr => ⟨_, (pss_cons (ps_expr (pe_df D_need_field hr (by rfl) pass0 (pa_cons (pv 0) pa_nil)))
      (pss_one (ps_ret (pe_callB (crK_all (K := K) rfl) (by rfl) T.all (by decide +kernel) (pa_cons (pe_lc (own := [("first", 1)]) (g := (gName 1)) rfl sc_is_closed_field.nd (pi_range1 (by rfl) T.range (pa_cons (pe_op op_sub (pe_callB (crK_len (K := K)) (by rfl) T.len (by decide +kernel) (pa_cons (pe_ix (ixK_tup (K := K)) (pv 0) pe_int (fun _ _ => rfl)) pa_nil)) pe_int) pa_nil)) (blkOk_by (own := [("first", 1)]) (N := N_is_closed_field) (sc := defScope s_is_closed_field) (by decide +kernel)) (fun _ _ _ _ _ => (pg_name (i := 1) sc_is_closed_field.nd rfl (Or.inl rfl))) (fun _ _ _ _ _ => pts_nil) (fun _ _ _ _ _ => (pe_df D_spanned hr (by rfl) pass0 (pa_cons (pe_ix (ixK_tup (K := K)) (pv 0) pe_int (fun _ _ => rfl)) (pa_cons (pv 1) (pa_cons (pe_op op_add (pv 1) pe_int) pa_nil)))))) pa_nil))))), fun xs y r hl => ?_⟩
  obtain ⟨f, h, rfl, rfl⟩ := r
  obtain ⟨h1, h2, h3, h4⟩ := fieldB_of h
  obtain ⟨l1, l2, l3, l4⟩ := lineB_of h1
  refine run_seq (run_drop (ev_call (ea_one (ev_var rfl)) ⟨f, h, rfl, rfl⟩) ?_)
  refine run_ret (x := .d (.bool (closedM f))) ?_ rfl
  refine (ev_all (bs := (rngI 0 ((f.1.length : Int) - 1).toNat).map fun i => spannedM f.2 i (i + 1)) (ev_lcM (js := [1]) PyData.int (rngI 0 ((f.1.length : Int) - 1).toNat) (fun _ => true) (fun i => .bool (spannedM f.2 i (i + 1))) ((ei_rng1 (ea_one (ev_sub (ev_lenI (ev_ix0 (d := dL f.1) (ds := [dO f.2]) (ev_var rfl))) ev_int)) (by omega) (by omega)).to (by rw [rngD_I])) (fun _ _ => int_inj) (fun i hi => ⟨_, eg_name, et_yes, fun _ => ?_⟩) (by decide) (by rw [rngI_len]; omega)) (by rw [List.filter_eq_self.mpr (by simp), List.map_map]; rfl)).to ?_
  · exact ev_call (ea_three (ev_ix1 (d := dO f.2) (e := dL f.1) (ds := []) (ev_var rfl)) (ev_var rfl) (ev_add (ev_var rfl) ev_int)) ⟨f.2, i, i + 1, rfl, by omega, rfl⟩
  · rw [List.all_map]; rfl
def rel__law_off (xs : List Sl) (y : Sl) : Prop := ∃ m n : Nat, m ∈ [1, 2, 3] ∧ n ∈ [1, 2, 3, 4, 5, 6, 7] ∧ xs = [.d (.int m), .d (.int n)] ∧ y = .d (.int (offM m n).length)
abbrev s__law_off : Stmt := topS 46
abbrev N__law_off : List Str := ["_law_many", "_law_number_so", "_law_line", "_law_turn", "_law_longer", "_law_head", "_law_fresh", "_law_one"]
theorem sc__law_off : FnScope N__law_off ["_law_many", "_law_number_so"] (defScope s__law_off) := ⟨rfl, rfl, rfl, by decide +kernel, rfl, by decide +kernel, by decide +kernel⟩
theorem df__law_off {f : Addr} {fd : FuncData} {k : Nat} (F : Fun K "_law_off" "_law_off" s__law_off f fd) (g : mg "_law_off" = some (.ref f)) (T : Bl mg) :
    Df P w K mg base CX0 (k + 1) "_law_off" ["_law_many", "_law_number_so"] (spP K 2 rel__law_off) := by
  refine df_ok F g sc__law_off rfl (F.binds fun _ _ _ _ _ _ us hl => match us, hl with | [_, _], _ => rfl) fun cdv A outer s H E hr => ⟨_, (pss_cons (ps_set (i := 2) sc__law_off.nd rfl (.inl rfl) (pe_lst (pa_cons (pe_tup pa_nil) pa_nil)))
      (pss_cons (ps_for PassesOwn.never rfl (pi_range1 (by rfl) T.range (pa_cons (pv 0) pa_nil)) (pg_name (i := 3) sc__law_off.nd rfl (Or.inl rfl)) (pss_cons (ps_set (i := 4) sc__law_off.nd rfl (.inl rfl) (pe_lst pa_nil))
      (pss_cons (ps_for PassesOwn.never rfl (piK_list (K := K) (pv 2)) (pg_name (i := 5) sc__law_off.nd rfl (Or.inl rfl)) (pss_one (ps_for PassesOwn.never rfl (pi_range1 (by rfl) T.range (pa_cons (pv 1) pa_nil)) (pg_name (i := 6) sc__law_off.nd rfl (Or.inr rfl)) (pss_one (ps_if (pt_cmpR (opK_eqD (K := K) hr.units) (pe_lc (own := [("_law_one", 7)]) (g := (gName 7)) rfl sc__law_off.nd (piK_tup (K := K) (pv 5)) (blkOk_by (own := [("_law_one", 7)]) (N := N__law_off) (sc := defScope s__law_off) (by decide +kernel)) (fun _ _ _ _ _ => (pg_name (i := 7) sc__law_off.nd rfl (Or.inl rfl))) (fun _ _ _ _ _ => (pts_one (pt_cmpR (opK_in (K := K)) (pe_op op_mod (pe_op op_sub (pv 7) (pv 6)) (pv 1)) (pe_tup (pa_cons pe_int (pa_cons (pe_op op_mod pe_int (pv 1)) pa_nil))) rfl))) (fun _ _ _ _ _ => (pv 7))) (pe_lst pa_nil) (nomark _)) (pss_one (ps_expr (pe_bm PySem.F.plainAttrs_list PySem.F.slot_list_append PySem.F.type_list_append mt_append (pv 4) (pa_cons (pe_op (opK_catA (K := K)) (pv 5) (pe_tup (pa_cons (pv 6) pa_nil))) pa_nil)))) pss_nil)))))
      (pss_one (ps_set (i := 2) sc__law_off.nd rfl (.inl rfl) (pv 4))))))
      (pss_one (ps_ret (pe_callB (crK_len (K := K)) (by rfl) T.len (by decide +kernel) (pa_cons (pv 2) pa_nil)))))), fun xs y r hl => ?_⟩
  obtain ⟨m, n, hm, hn, rfl, rfl⟩ := r
  have hm3 : 1 ≤ m ∧ m ≤ 3 := by simp only [List.mem_cons, List.not_mem_nil, or_false] at hm; omega
  have hn7 : 1 ≤ n ∧ n ≤ 7 := by simp only [List.mem_cons, List.not_mem_nil, or_false] at hn; omega
  refine run_seq (run_asg (x := .d (.list ([[]].map dL))) (ev_lstD (ead_cons (ev_tupD ead_nil) ead_nil)) ?_)
  refine run_seq ?_
  refine run_foldM (β := List (List Int)) PyData.int (rngI 0 m) (fun f => [.d (.int m), .d (.int n), .d (.list (f.map dL)), .no, .no, .no, .no, .no]) (fun _ => []) (fun f _ => offStep n f) [[]] [3] (ei_rngI1 (ea_one (ev_var rfl)) (by omega)) (.eq (.eq (.eq (.no (.no (.no (.no (.no .nil)))))))) rfl (fun i a ha => ⟨_, eg_name, ?_⟩) (fun e le => ?_)
  · have hi : i < m := by
      have := (List.getElem?_eq_some_iff.mp ha).1
      rw [rngI_len] at this; exact this
    have hs := off_small m hm n hn i (by simp only [List.mem_cons, List.not_mem_nil, or_false]; omega)
    generalize ((rngI 0 m).take i).foldl (fun f _ => offStep n f) [[]] = f at hs ⊢
    unfold offB at hs
    rw [Bool.and_eq_true] at hs
    obtain ⟨hs1, hs2⟩ := hs
    have hs1 := of_decide_eq_true hs1
    refine run_seq (run_new (i := 4) (ds := []) ea_nil (fun p _ => ?_))
    refine run_seq ?_
    refine run_foldM (β := List (List Int)) dL f (fun _ => [.d (.int m), .d (.int n), .d (.list (f.map dL)), .no, .r (.ref p), .no, .no, .no]) (fun acc => [(p, some (acc.map dL))]) (fun acc h => acc ++ offRow n h) [] [5] (ei_list (ev_var rfl)) (.eq (.eq (.eq (.no (.eq (.no (.no (.no .nil)))))))) rfl (fun j h hh => ⟨_, eg_name, ?_⟩) (fun e le => ?_)
    · have hlen : h.length ≤ 3 := of_decide_eq_true (List.all_eq_true.mp hs2 h (List.mem_of_getElem? hh))
      have hacc : ((f.take j).foldl (fun acc h => acc ++ offRow n h) []).length ≤ 4000 := by
        have := len_fold_app (f := offRow n) (c := n) (f.take j) [] fun a _ => by
          unfold offRow
          rw [List.length_map]
          exact Nat.le_trans (List.length_filter_le ..) (by rw [rngI_len]; exact Nat.le_refl _)
        rw [List.length_take] at this
        have h3 : (min j f.length) * n ≤ 400 * 7 := Nat.mul_le_mul (by omega) (by omega)
        simp only [List.length_nil] at this
        omega
      generalize (f.take j).foldl (fun acc h => acc ++ offRow n h) [] = acc at hacc ⊢
      refine run_foldM (β := List (List Int)) PyData.int (rngI 0 n) (fun _ => [.d (.int m), .d (.int n), .d (.list (f.map dL)), .no, .r (.ref p), .d (dL h), .no, .no]) (fun acc => [(p, some (acc.map dL))]) (fun acc x => if freeM n h x then acc ++ [h ++ [x]] else acc) acc [6] (ei_rngI1 (ea_one (ev_var rfl)) (by omega)) (.eq (.eq (.eq (.no (.eq (.eq (.no (.no .nil)))))))) rfl (fun t x hx => ⟨_, eg_name, ?_⟩) (fun e le => ?_)
      · have hb : (((rngI 0 n).take t).foldl (fun acc x => if freeM n h x then acc ++ [h ++ [x]] else acc) acc).length ≤ 5000 := by
          rw [fold_if (freeM n h) (fun x => h ++ [x]), List.length_append, List.length_map]
          have h1 := List.length_filter_le (freeM n h) ((rngI 0 n).take t)
          have h2 := List.length_take_le' t (rngI 0 n)
          rw [rngI_len] at h2
          omega
        generalize ((rngI 0 n).take t).foldl (fun acc x => if freeM n h x then acc ++ [h ++ [x]] else acc) acc = b at hb ⊢
        refine run_if (b := freeM n h x) ((et_test (ev_eqD (d := .list ((h.filter fun a => inI ((a - x) % n) [0, 1 % n]).map .int)) (e := .list []) ?_ (ev_lstD ead_nil) (sh_lst sh_int _).shaped (sh_lst sh_int []).shaped)).is (eqv_empI _)) (fun q => ?_) (fun q => ?_)
        · refine ev_lcM (js := [7]) PyData.int h (fun a => inI ((a - x) % n) [0, 1 % n]) (fun a => .int a) (ei_tup (ev_var rfl)) (fun _ _ => int_inj) (fun a _ => ⟨_, eg_name, et_test (ev_isT (ns := [0, 1 % n]) (ev_mod (ev_sub (ev_var rfl) (ev_var rfl)) (ev_var rfl) (by omega)) (ev_tupD (ead_cons ev_int (ead_cons (ev_mod ev_int (ev_var rfl) (by omega)) ead_nil)))), fun _ => ev_var rfl⟩) (by decide) (by omega)
        · refine run_append (i := 4) (d := dL (h ++ [x])) rfl (fun _ h => nomatch h) ?_ (by rw [List.length_map]; omega) ⟨.eq (.eq (.eq (.no (.eq (.eq (.no (.no .nil))))))), ?_⟩
          · exact (ev_catT (ds := h.map .int) (fs := [.int x]) (ev_var rfl) (ev_tupD (ead_cons (ev_var rfl) ead_nil)) (by rw [List.length_map]; show h.length + 1 ≤ _; omega)).to (by unfold dL; rw [List.map_append]; rfl)
          · rw [if_pos q, List.map_append]; rfl
        · refine run_next ⟨.eq (.eq (.eq (.no (.eq (.eq (.no (.no .nil))))))), ?_⟩
          rw [if_neg (by rw [q]; decide)]
      · refine ⟨Le.trans (.eq (.eq (.eq (.no (.eq (.no (.no (.no .nil)))))))) le, ?_⟩
        rw [fold_if (freeM n h) (fun x => h ++ [x])]
        rfl
    · refine Run.le' le (run_pub (i := 4) rfl (fun _ h => nomatch h) (run_asg (x := .d (.list ((offStep n f).map dL))) (ev_var rfl) ⟨?_, rfl⟩))
      exact .eq (.eq (.eq (.no (.no (.no (.no (.no .nil)))))))
  · exact Run.le' le (run_ret (x := .d (.int (offM m n).length)) ((ev_lenL (ds := (offM m n).map dL) (ev_var rfl)).to (by rw [List.length_map])) rfl)
end
end DL

-- E0
set_option Elab.async false
set_option linter.all false
set_option maxRecDepth 100000
set_option maxHeartbeats 4000000
/-! TooMany(limit): its own __init__ says super().__init__('too many') and keeps limit. -/
namespace DL
open PySem PySem.Calls L2 PyProof.Rows PySem.Spec
def mScope : Scope := { kind := .function, names := [("self", .local), ("limit", .local), ("__class__", .free), ("super", .globalImplicit)], isGenerator := false, isCoroutine := false, more := [] }
def mArgs : Arguments := { posonlyargs := [], args := [{ arg := "self", annotation := none, pos := ⟨20, 17, 20, 21⟩ }, { arg := "limit", annotation := none, pos := ⟨20, 23, 20, 28⟩ }], vararg := none, kwonlyargs := [], kw_defaults := [], kwarg := none, defaults := [] }
def mBody : List Stmt := [
  .Expr (.Call (.Attribute (.Call (.Name "super" ⟨21, 8, 21, 13⟩) [] [] ⟨21, 8, 21, 15⟩) "__init__" ⟨21, 8, 21, 24⟩) [.Constant (.str "too many") 0 ⟨21, 25, 21, 35⟩] [] ⟨21, 8, 21, 36⟩) ⟨21, 8, 21, 36⟩,
  .Assign [.Attribute (.Name "self" ⟨22, 8, 22, 12⟩) "limit" ⟨22, 8, 22, 18⟩] (.Name "limit" ⟨22, 21, 22, 26⟩) ⟨22, 8, 22, 26⟩]
abbrev mB : List Value := [.type "ValueError", .type "Exception", .type "BaseException", .type "object"]
structure ManyK (P : Program) (K : Kf) (C : Addr) : Prop where
  oex : OexC K C
  ini : PySem.W.excInitIn K C mB "ValueError.__new__" = true
  fn : ∃ (fI cc cda : Addr) (oc kV doc pm ct ccl cl : Value) (od an cdd cld : Option Addr) (osl ccs csl : Array (Option Value)) (vs : Array Value) (file : Str) (tf : Tok) (cd : ClassData),
    PySem.W.findIn K (.ref C) "__init__" = some (some (.ref fI)) ∧ PySem.W.typeIn K (.ref fI) = some (.type "function") ∧
    K.lookup fI = some ⟨oc, od, .func (PySem.W.ksFn "__init__" "TooMany.__init__" mArgs mBody mScope .none kV doc pm an (.ref cda) ct cc), osl⟩ ∧
    PySem.W.codeIn K (.ref cda) "TooMany.__init__" = true ∧ K.lookup cda = some ⟨ccl, cdd, .fields vs, ccs⟩ ∧ vs[2]? = some (.str file tf) ∧ ((P.main.file : Str) == file) = true ∧
    K.lookup cc = some ⟨cl, cld, .cell (some (.ref C)), csl⟩ ∧ PySem.W.clsIn K C = some cd
  own : PySem.W.mroIn K C (.ref C) = some true
  sv : PySem.W.subIn K (.ref C) (.type "ValueError") = some true
  st : PySem.W.nsIn K cStatics "thirdparty.any" = some none
  sup : PySem.W.ks_superIn K C C "__init__" = some (some (.builtin "ValueError.__init__"))
  lim : PySem.W.findIn K (.ref C) "limit" = some none
  top : (P.main.scope.names.lookup ("super" : Str)).isSome = false
/-- TooMany(e) -/
def tMany (C : Addr) (ta : TA) : L2.St → Hp → XK → Prop := fun σ H Q => ta σ H fun vs H1 => ∃ v, vs = [v] ∧ ∀ d, H1 d = none → Q (.ref C) (some d) (upd H1 d (.xd [("limit", v)]))
theorem many_init {prog : Program} {w : World} {K : Kf} {C : Addr} (M : ManyK prog K C) {A : Around} {hp : Heap} {g : Array GenState} {d : Drawn} {t : Nat} {os : OsState} {u : Value} {mg mb : Str → Option Value} {t0 : Addr} {R : Result → Shared → Prop} {f : Addr} {h1 : Heap} {e : Addr}
    (hfI : PySem.W.findIn K (.ref C) "__init__" = some (some (.ref f)))
    (hr : A.depth < recursionLimit) (X0 : K.In hp) (hlim : h1.NoLimit) (hgl : hp.Ns mainGlobals mg) (hms : mg "super" = none) (hbl : hp.Ns builtinsNs mb) (hmb : mb "super" = some (.type "super")) (k1 : ∀ b o, hp.get? b = some o → h1.get? b = some o) (hsz : hp.objs.size ≤ h1.objs.size) (he : h1.get? e = some (PySem.HandSPX.excO C t0)) (hen : hp.get? e = none)
    (hR : ∀ h2 tk dx t1, hp.objs.size ≤ dx → h2.Ns1 dx (fun y => if y = "limit" then some u else none) → (∀ b o, hp.get? b = some o → h2.get? b = some o) → h2.get? e = some ({ cls := .ref C, dict := some dx, data := .fields #[.ref t1, .none, .none, .none, .bool false, .none] } : Obj) → R (.ok (.ret .none)) ⟨h2, g, d, tk, os⟩) :
    codeAny (model prog w) A (.call (.ref f) ⟨[.ref e, u], []⟩) R ⟨h1, g, d, t, os⟩ := by
  obtain ⟨fI, cc, cda, oc, kV, doc, pm, ct, ccl, cl, od, an, cdd, cld, osl, ccs, csl, vs, file, tf, cd, f1, f2, f3, f4, f5, f6, f7, f8, f9⟩ := M.fn
  rw [hfI] at f1
  cases f1
  have X1 : K.In h1 := X0.keeps k1
  refine ks_codeAny_call_defAt (fd := PySem.W.ksFn "__init__" "TooMany.__init__" mArgs mBody mScope .none kV doc pm an (.ref cda) ct cc) (body := mBody) (binds := [("self", .ref e), ("limit", u)])
    hr (X1 _ _ f3) rfl hlim (PySem.W.codeRec_of X1 f4) rfl (BindsTo.of_eq rfl) (show ∀ x ∈ mScope.names, x.2 ≠ .cell from by decide) (fun y hy => by rcases List.mem_cons.mp hy with rfl | hy; exact rfl; rcases List.mem_cons.mp hy with rfl | hy; exact rfl; cases hy) (fun h₁ hns hk₁ => ?_) rfl rfl rfl
  have F1 : Fr hp h1.objs.size h₁ (fun y => ([("self", Value.ref e), ("limit", u)] : List (Str × Value)).reverse.lookup y) := ⟨hns, fun b o z => hk₁ b o (k1 b o z), hsz⟩
  have N1 : News hp h1.objs.size h₁ [(e, PySem.HandSPX.excO C t0)] := fun p hp' => by
    have : p = (e, PySem.HandSPX.excO C t0) := by simpa using hp'
    subst this
    exact ⟨hk₁ _ _ he, Nat.ne_of_lt (Heap.lt_size he), hen⟩
  have XX : ∀ {h : Heap}, (∀ b o, hp.get? b = some o → h.get? b = some o) → K.In h := fun k => X0.keeps k
  obtain ⟨oD, hD1, hD2⟩ : ∃ oD, h₁.get? C = some oD ∧ oD.data = .cls cd := by
    have hD := f9
    unfold PySem.W.clsIn at hD
    split at hD
    · rename_i c d cd' sl ho
      cases hD
      exact ⟨_, XX F1.keep _ _ ho, rfl⟩
    · cases hD
  have hel : e < h1.objs.size := Heap.lt_size he
  refine ks_wpAt_execs_cons (ks_wpAt_Expr_any (ks_wpAt_MethodCall ?_ (by rfl)) (by rfl) (by rfl))
  refine ks_wpAt_super_base (env := PySem.W.ksEnv "TooMany.__init__" mScope h1.objs.size f (.ref cda) cc) rfl rfl (by decide) rfl (XX F1.keep _ _ f3) rfl rfl rfl (XX F1.keep _ _ f5) rfl f6 f7 M.top ?_
  refine PySem.W.ks_loadName_global rfl rfl (loadGlobal_builtin (env := PySem.W.ksEnv "TooMany.__init__" mScope h1.objs.size f (.ref cda) cc) (hgl.keeps F1.keep) hms (hbl.keeps F1.keep) hmb ⟨rfl, ?_⟩)
  refine wpAny_loadName_free rfl rfl rfl ⟨_, XX F1.keep _ _ f8, rfl⟩ ?_
  refine wpAny_loadName_local rfl rfl F1.ns rfl ?_
  refine ks_wpAny_isType_cls hD1 hD2 ⟨rfl, ?_⟩
  refine ks_wpAny_call_super hD1 hD2 (hk₁ _ _ he) rfl (fun c z => by cases z) (PySem.W.looks_mroIn (XX F1.keep) M.own) (fun h' e' k => ?_)
  obtain ⟨F2, N2, l2⟩ := PySem.W.ks_newsPush (s := ⟨h₁, g, d, t + 2, os⟩) F1 N1 rfl e' k
  refine PySem.W.kxs_method (s := ⟨h', g, d, t + 2, os⟩) PySem.W.kxs_ValueError F2 X0 N2 (x := e) (List.mem_cons_self ..) (PySem.W.InstAt.of_exc0 N2 (t := t0) (c2 := .none) (by simp)) M.st M.sup M.sv (by decide) (fun q h'' F3 N3 l3 => ?_)
  refine PySem.W.kxs_callWith1 N3 (List.mem_cons_self ..) ?_ (by rfl) (by rfl)
  refine PyProof.Rows.args_cons (Calls.Constant_str (PyProof.Rows.args_nil ⟨PySem.W.kxs_at N3 (List.mem_cons_self ..), ?_⟩)) (by rfl)
  have hel3 : ∀ p ∈ [(q, PySem.W.kxs_mw "ValueError.__init__" e), (h₁.objs.size, PySem.W.ks_superObj C e C)], p.1 ≠ e := fun p hp' => by
    rcases List.mem_cons.mp hp' with rfl | hp'
    · exact (Nat.ne_of_gt (l3 _ (List.mem_cons_of_mem _ (List.mem_cons_self ..))))
    · have : p = (h₁.objs.size, PySem.W.ks_superObj C e C) := by simpa using hp'
      subst this
      exact Nat.ne_of_gt (l2 _ (List.mem_cons_self ..))
  refine PySem.W.kxs_call F3 X0 N3 PySem.F.excBase_ValueError M.ini (List.mem_cons_self ..) (.tail (hel3 _ (by simp)) (.tail (hel3 _ (by simp)) (.head (by simp)))) (by rw [sizeLine_eq]; show 1 ≤ 16777216; decide) (fun t' h4 F4 N4 l4 => ?_)
  have he4 := (N4 (e, PySem.W.excObj C t' none .none) (by simp)).1
  refine ks_wpAt_execs_cons (wpAt_of_wpAny (plainObj_wpAny_Assign_Attribute (wpAny_Name (wpAny_loadName_local rfl rfl F4.ns rfl ?_) (by decide)) (by rfl)))
  refine wpAny_Name (wpAny_loadName_local rfl rfl F4.ns rfl ?_) (by decide)
  obtain ⟨nm, q', N', bs, bm, sn, sub, ab, col, dd, k0, k1', k2, k3, k5, hC, hbm⟩ := M.oex.cls
  have hcl : PySem.W.clsIn K C = some { name := nm, bases := bs, mro := .ref C :: bm, ns := N', qualname := q', hasDict := true, slotNames := sn, subclasses := sub, abstract := ab, collection := col, hasDel := false } := by unfold PySem.W.clsIn; rw [hC] <;> rfl
  refine PySem.W.set_plain (XX F4.keep) (ox := PySem.HandSPX.excO C t') (od := none) ⟨he4, rfl, rfl, trivial⟩ M.oex.sa ?_
  refine PySem.HandSPX.exc_osa (XX F4.keep) he4 hcl (show PySem.HandSPX.refsVE (.ref C :: bm) = true from hbm) rfl M.lim (fun h5 tk' dx k5' dn dne hx hn => ?_)
  refine wpAt_of_wpAny (wpAny_execs_nil ?_)
  have hle : hp.objs.size ≤ dx := by
    obtain ⟨oL, _, _, eL, _⟩ := F4.ns
    exact Nat.le_trans hsz (Nat.le_trans (Nat.le_of_lt (Heap.lt_size eL)) dn)
  exact hR h5 _ dx t' hle hn (fun b o z => k5' b o (fun y => by rw [y, hen] at z; cases z) (F4.keep b o z)) hx
theorem pmk_many {X : Cx} {C : Addr} {e : Expr} {ta : TA} {p pos : Pos} (M : ManyK X.prog X.K C) (gC : X.mg "TooMany" = some (.ref C)) (hms : X.mg "super" = none) (hr : Room 3 X.A) (hg : Gl X "TooMany") (ha : PA X [e] ta)
    (he : starEach [e] X.env = (false, eval e X.env) :: starEach [] X.env := by rfl) : L2N.PMk X (.Call (.Name "TooMany" p) [e] [] pos) (tMany C ta) := by
  intro pins s σ H Q I h
  obtain ⟨fI, cc, cda, oc, kV, doc, pm, ct, ccl, cl, od, an, cdd, cld, osl, ccs, csl, vs, file, tf, cd, f1, f2, f3, f4, f5, f6, f7, f8, f9⟩ := M.fn
  obtain ⟨nm, q, N, bs, bm, sn, sub, ab, col, dd, k0, k1, k2, k3, k5, hC, hbm⟩ := M.oex.cls
  refine wpAny_Call_Name_kw (ld_glob I hg gC ?_ (by decide))
  refine PySem.W.callWith_K (h₀ := X.base) I.ok.mod.kin M.oex.kC (thn (ha.run pos pins s σ H _ I h) fun us s1 ⟨vs, H1, I1, r1, v, hz, q1⟩ => ⟨I1.kIn, ?_⟩) he (by rfl)
  show wpAny _ _ (call (.ref C) us) _ _ _
  obtain ⟨hp, g, dr, tk, os⟩ := s1
  subst hz
  obtain ⟨u, rfl, ru⟩ := vals1 r1
  have hsz : hp.objs.size ≤ hp.objs.size + 1 := Nat.le_succ _
  have kk : ∀ b o, hp.get? b = some o → ((hp.push (PySem.W.kdv_tup [u])).push (PySem.HandSPX.excO C hp.objs.size)).get? b = some o := fun b o e => Heap.get?_push_of_some _ (Heap.get?_push_of_some _ e)
  have hget : ((hp.push (PySem.W.kdv_tup [u])).push (PySem.HandSPX.excO C hp.objs.size)).get? (hp.objs.size + 1) = some (PySem.HandSPX.excO C hp.objs.size) := by heap_get
  have hen : hp.get? (hp.objs.size + 1) = none := by
    cases z : hp.get? (hp.objs.size + 1) with
    | none => rfl
    | some o => exact absurd (Heap.lt_size z) (Nat.not_lt_of_le (Nat.le_succ _))
  have J0 : Inv X pins σ H1 ⟨(hp.push (PySem.W.kdv_tup [u])).push (PySem.HandSPX.excO C hp.objs.size), g, dr, tk, os⟩ := I1.kept (t' := tk) kk
  obtain ⟨mb, b1, b2⟩ := I1.mod.blt
  refine wpAny_call (PySem.HandSPX.call_own PySem.F.excBase_ValueError (fun Y => PySem.HandSPX.refsVE_contains Y bm hbm) (I1.kIn _ _ hC) (PySem.W.looks_findIn I1.kIn f1) (fun self => PySem.W.bind_fn I1.kIn self f2) (by rw [sizeLine_eq]; show 1 ≤ 16777216; decide)
    (many_init M (R := PySem.W.InitBack (hp.objs.size + 1) _) (hp := hp) (mg := X.mg) (mb := mb) (t0 := hp.objs.size) f1 (hr.make C [u] []).depth I1.kIn J0.nolimit (I1.mod.glob.keeps I1.bk) hms (b1.keeps I1.bk) ((b2 "super" (by decide)).trans (by first | boot_by_name | rfl | kernel_rfl)) kk (by rw [Heap.size_push, Heap.size_push]; omega) hget hen
      fun h2 tk2 dx t1 hdx hns k2 hx => ⟨rfl, ?_⟩))
  have hda : dx ≠ hp.objs.size + 1 := fun z => by
    obtain ⟨o, es, ep, e1, e2, _⟩ := hns
    rw [z, hx] at e1
    have z2 := Option.some.inj e1
    subst z2
    cases e2
  obtain ⟨G, g1', g2'⟩ := restrict h2 fun b => decide (b ≠ hp.objs.size + 1)
  have gk : ∀ b, b ≠ hp.objs.size + 1 → G.get? b = h2.get? b := fun b hb => g1' b (decide_eq_true hb)
  have ge : G.get? (hp.objs.size + 1) = none := g2' _ (by simp)
  have nha : ∀ {b : Addr} {o : Obj}, hp.get? b = some o → b ≠ hp.objs.size + 1 := fun {b o} z y => by rw [y, hen] at z; cases z
  have J : Inv X pins σ (upd H1 dx (.xd [("limit", v)])) ⟨G, g, dr, tk2, os⟩ := I1.laid (t' := tk2) (a := dx) (o := .xd [("limit", v)]) (h' := G) (fun b o z => (gk b (nha z)).trans (k2 b o z)) hdx
    ⟨_, hns.at fun o z => (gk dx hda).trans z, relO_put (fs := []) ru fun g => True.intro⟩
  refine ⟨hp.objs.size + 1, _, _, ⟨G, g, dr, tk2, os⟩, upd H1 dx (.xd [("limit", v)]), .ref C, some dx, rfl, J, fun b o z => ?_, ge, hx, ⟨rfl, rfl, fun vs z => by cases z; rfl⟩, rfl, rfl, ?_, rfl, I1.bare, raises_own M.oex.exC M.oex.tyC, q1 dx (I1.hok.fresh hdx)⟩
  · by_cases hb : b = hp.objs.size + 1
    · rw [hb, ge] at z; cases z
    · exact (gk b hb).symm.trans z
  · rw [upd_ne (Ne.symm hda)]
    exact I1.hok.fresh (Nat.le_succ _)
end DL

-- E1
set_option Elab.async false
set_option linter.all false
set_option maxRecDepth 100000
set_option maxHeartbeats 4000000
/-! Defs that raise. -/
namespace DL
open PySem PySem.Calls L2 PyProof.Rows PySem.Spec
/-- an own class without own __init__ -/
structure ExC (K : Kf) (mg : Str → Option Value) (x : Str) (C : Addr) : Prop where
  q : PySem.W.excIn K C mB "ValueError.__new__" = true
  g : mg x = some (.ref C)
  k : PySem.W.keepIn K (.ref C) = true
  ec : PySem.W.subIn K (.ref C) (.type "BaseException") = some true
  ty : PySem.W.typeIn K (.ref C) = some (.type "type")
structure Bl2 (mg : Str → Option Value) : Prop where
  super : mg "super" = none
def spE (K : Kf) (n : Nat) (rel : List Sl → Sl → Prop) (relE : List Sl → Value → Prop) : Sp := fun vs H Q E => vs.length = n ∧ ∃ G xs, Ex G H ∧ SkA K G vs xs ∧
  ((∃ y, rel xs y ∧ ∀ v G' H', Gn G H G' H' → Sk K G' (some v) y → Q v H') ∨ ∃ c, relE xs c ∧ ∀ d G' H', Gn G H G' H' → XdOk d H' → E c d H')
def RunX (K : Kf) (t : TS) (es : Es) (E : XK) (c : Value) : Prop := ∀ σ G H, Ex G H → Sd K G σ es → (∀ d G' H', Gn G H G' H' → XdOk d H' → E c d H') → ∀ D : Ends, t D σ H
def EvX (K : Kf) (t : TE) (es : Es) (E : XK) (c : Value) : Prop := ∀ σ G H, Ex G H → Sd K G σ es → (∀ d G' H', Gn G H G' H' → XdOk d H' → E c d H') → ∀ Q : VK, t σ H Q
section
variable {K : Kf} {es : Es} {ta : TA} {te : TE} {t u : TS} {tt : TT} {x y : Sl} {xs : List Sl} {n : Nat} {rel : List Sl → Sl → Prop} {relE : List Sl → Value → Prop} {E E' : XK} {c : Value} {N : DEnds}
theorem ev_callE (h : EvA K ta es xs) (hr : rel xs y) (hl : xs.length = n := by rfl) : Ev K (tCall (spE K n rel relE) [] E ta) es y := fun σ G H e s Q q => h σ G H e s _ fun vs G1 H1 g1 k1 => by
  show spE K n rel relE (vs ++ []) H1 Q E
  rw [List.append_nil]
  exact ⟨k1.len.trans hl, G1, xs, g1.s, k1, .inl ⟨y, hr, fun v G2 H2 g2 k2 => q v G2 H2 (g1.trans g2) k2⟩⟩
theorem ex_callE (h : EvA K ta es xs) (hr : relE xs c) (hl : xs.length = n := by rfl) : EvX K (tCall (spE K n rel relE) [] E ta) es E c := fun σ G H e s q Q => h σ G H e s _ fun vs G1 H1 g1 k1 => by
  show spE K n rel relE (vs ++ []) H1 Q E
  rw [List.append_nil]
  exact ⟨k1.len.trans hl, G1, xs, g1.s, k1, .inr ⟨c, hr, fun d G2 H2 g2 x2 => q d G2 H2 (g1.trans g2) x2⟩⟩
theorem rx_drop (h : EvX K te es E c) : RunX K (tDrop te) es E c := fun σ G H e s q D => h σ G H e s q _
theorem rx_l (h : RunX K t es E c) : RunX K (tSeq t u) es E c := fun σ G H e s q D => h σ G H e s q _
theorem rx_r (h : Run K t es [] { nx := fun e _ => RunX K u e E c, rt := fun _ _ => False }) : RunX K (tSeq t u) es E c := fun σ G H e s q D =>
  h σ G H e s So.nil { D with nx := u D } ⟨fun σ' G' H' es' ow' g s' o n => n σ' G' H' g.s s' (fun d G2 H2 g2 x2 => q d G2 H2 (g.gn.trans g2) x2) D, fun _ _ _ _ _ _ _ _ n => n.elim, fun _ _ _ _ _ _ _ _ n => n.elim, fun _ _ _ _ _ _ _ _ n => n.elim⟩
theorem rx_if {b : Bool} (h : EvT K tt es b) (h1 : b = true → RunX K t es E c) (h2 : b = false → RunX K u es E c) : RunX K (tIfS tt t u) es E c := fun σ G H e s q D => h σ G H e s _ fun G1 H1 g1 => by
  cases b with
  | true => exact iteT (h1 rfl σ G1 H1 g1.s (s.ex g1.g) (fun d G2 H2 g2 x2 => q d G2 H2 (g1.trans g2) x2) D)
  | false => exact iteF (h2 rfl σ G1 H1 g1.s (s.ex g1.g) (fun d G2 H2 g2 x2 => q d G2 H2 (g1.trans g2) x2) D)
theorem rx_own {C : Addr} : RunX K (fun _ σ H => (fun (_ : L2.St) (H : Hp) (Q : XK) => Q (.ref C) none H) σ H fun cls d H' => (fun cls d (_ : L2.St) H => E cls d H) cls d σ H') es E (.ref C) := fun σ G H e s q D => q none G H (Gn.refl e) True.intro
theorem rx_many {C : Addr} (h : EvA K ta es [x]) : RunX K (fun _ σ H => tMany C ta σ H fun cls d H' => (fun cls d (_ : L2.St) H => E cls d H) cls d σ H') es E (.ref C) := fun σ G H e s q D => h σ G H e s _ fun vs G1 H1 g1 k1 => by
  obtain ⟨v, rfl, k1⟩ := skA1 k1
  exact ⟨v, rfl, fun d hd => q (some d) _ _ (g1.trans (Gn.new g1.s hd)) ⟨_, upd_same⟩⟩
theorem body_ofE {NN : List Str} {vs : List V} {H : Hp} {Q : VK} (h : spE K n rel relE vs H Q E) (hn : n ≤ NN.length)
    (hb : ∀ xs y, rel xs y → xs.length = n → Run K t (startE NN.length xs) [] { nx := fun _ _ => y = .d .none, rt := fun x _ => x = y })
    (hx : ∀ xs c, relE xs c → xs.length = n → RunX K t (startE NN.length xs) E c) : t { nx := fun _ H' => Q .non H', rt := Q } (L2.start NN vs) H := by
  obtain ⟨hl, G, xs, e, k, r⟩ := h
  rcases r with ⟨y, r, q⟩ | ⟨c, r, q⟩
  · refine hb xs y r (k.len.symm.trans hl) _ G H e (sd_start k (by omega)) So.nil _ ⟨fun σ' G' H' es' ow' g s o n => ?_, fun v G' H' x ow' g s o n => ?_, fun σ' G' H' es' ow' g s o n => n.elim, fun σ' G' H' es' ow' g s o n => n.elim⟩
    · exact q _ G' H' g.gn (by rw [n]; exact .of .non)
    · exact q v G' H' g.gn (by rw [← n]; exact s)
  · exact hx xs c r (k.len.symm.trans hl) _ G H e (sd_start k (by omega)) q _
theorem spE_len : ∀ vs H Q E, spE K n rel relE vs H Q E → vs.length = n := fun _ _ _ _ h => h.1
end
section
variable {P : Program} {w : World} {K : Kf} {mg : Str → Option Value} {base : Heap}
theorem passN {X : Cx} : Passes (L2N.CX X.prog X.w) X E0 := fun _ _ _ _ _ _ _ h => by
  obtain ⟨_, _, _, _, _, _, _, _, _, _, _, _, z⟩ := h
  exact z.elim
theorem fun_okN {x qual : Str} {st : Stmt} {f : Addr} {fd : FuncData} {N ps : List Str} {k : Nat} {sp : Sp} (F : Fun K x qual st f fd) (S : FnScope N ps (defScope st)) (len : ∀ vs H Q E, sp vs H Q E → vs.length = ps.length)
    (hbody : ∀ (cdv : Value) (A : Around) (outer : List Env) (s : Shared) (H : Hp) (vs : List V) (Q : VK) (E : XK), Room k (A.deeper (envOfC qual (defScope st) s.heap.objs.size f cdv)) → sp vs H Q E →
      ∃ t, PSs (cxOf (L2N.CX P w) P w K mg base N qual (defScope st) f cdv A outer s H E) (defBody st) t ∧ t { nx := fun _ H' => Q .non H', rt := Q } (L2.start N vs) H) : FnOk P w K mg base (L2N.CX P w) (k + 1) f fd ps sp := by
  obtain ⟨oc, od, kV, doc, pm, an, cdv, ct, osl, rfl, lk, hcd⟩ := F.ex
  exact fn_of lk hcd S len fun A outer s H vs Q E hr hsp => hbody cdv A outer s H vs Q E hr hsp
theorem dfx_ok {x : Str} {st : Stmt} {f : Addr} {fd : FuncData} {NN ps : List Str} {n k : Nat} {rel : List Sl → Sl → Prop} {relE : List Sl → Value → Prop} (F : Fun K x x st f fd) (g : mg x = some (.ref f)) (S : FnScope NN ps (defScope st)) (hp : ps.length = n) (hb : Binds K fd ps [])
    (body : ∀ (cdv : Value) (A : Around) (outer : List Env) (s : Shared) (H : Hp) (E : XK), Room k (A.deeper (envOfC x (defScope st) s.heap.objs.size f cdv)) → L2N.Takes (cxOf (L2N.CX P w) P w K mg base NN x (defScope st) f cdv A outer s H E) (fun cls d _ H => E cls d H) →
      ∃ t, PSs (cxOf (L2N.CX P w) P w K mg base NN x (defScope st) f cdv A outer s H E) (defBody st) t ∧ (∀ xs y, rel xs y → xs.length = n → Run K t (startE NN.length xs) [] { nx := fun _ _ => y = .d .none, rt := fun x _ => x = y }) ∧ ∀ xs c, relE xs c → xs.length = n → RunX K t (startE NN.length xs) E c) :
    Df P w K mg base (L2N.CX P w) (k + 1) x ps (spE K n rel relE) := by
  have hpn : n ≤ NN.length := by have := congrArg List.length S.pre; rw [List.length_take] at this; omega
  refine ⟨f, fd, fun_okN F S (fun vs H Q E h => (spE_len vs H Q E h).trans hp.symm) (fun cdv A outer s H vs Q E hr h => ?_), g, F.kp, hb⟩
  obtain ⟨t, h1, h2, h3⟩ := body cdv A outer s H E hr (L2N.takes_of rfl rfl rfl rfl)
  exact ⟨t, h1, body_ofE (E := E) h hpn h2 h3⟩
end
end DL

-- E2
set_option Elab.async false
set_option linter.all false
set_option maxRecDepth 100000
set_option maxHeartbeats 4000000
/-! Defs that raise, walked. -/
namespace DL
open PySem PySem.Calls L2 PyProof.Rows PySem.Spec
section
variable {P : Program} {w : World} {K : Kf} {mg : Str → Option Value} {base : Heap}
def rel_need_cars (xs : List Sl) (y : Sl) : Prop := ∃ d hi, xs = [.d d, .d (.int hi)] ∧ Scal d ∧ isW d 1 hi = true ∧ y = .d .none
def relE_need_cars (C : Addr) (xs : List Sl) (c : Value) : Prop := ∃ d hi, xs = [.d d, .d (.int hi)] ∧ Scal d ∧ isW d 1 hi = false ∧ c = .ref C
theorem ev_isWd {K : Kf} {es : Es} {ta : TA} {E : XK} {d : PyData} {lo hi : Int} (h : EvA K ta es [.d d, .d (.int lo), .d (.int hi)]) (sc : Scal d) : EvD K (tCall (spP K 3 rel_is_whole) [] E ta) es (.bool (isW d lo hi)) := ev_call h ⟨d, lo, hi, rfl, sc, rfl⟩
abbrev s_need_cars : Stmt := topS 13
abbrev N_need_cars : List Str := ["value", "most"]
theorem sc_need_cars : FnScope N_need_cars ["value", "most"] (defScope s_need_cars) := ⟨rfl, rfl, rfl, by decide +kernel, rfl, by decide +kernel, by decide +kernel⟩
theorem df_need_cars {f : Addr} {fd : FuncData} {k : Nat} {C1 C2 C3 : Addr} (F : Fun K "need_cars" "need_cars" s_need_cars f fd) (g : mg "need_cars" = some (.ref f)) (T : Bl mg) (D_is_whole : Df P w K mg base CX0 k "is_whole" ["value", "low", "high"] (spP K 3 rel_is_whole)) (X_InvalidCars : ExC K mg "InvalidCars" C1) :
    Df P w K mg base (L2N.CX P w) (k + 1) "need_cars" ["value", "most"] (spE K 2 rel_need_cars (relE_need_cars C1)) := by
  refine dfx_ok F g sc_need_cars rfl (F.binds fun _ _ _ _ _ _ us hl => match us, hl with | [_, _], _ => rfl) fun cdv A outer s H E hr tk => ⟨_, (pss_one (ps_if (pt_not (pt_val (pe_df D_is_whole hr (by rfl) pass0 (pa_cons (pv 0) (pa_cons pe_int (pa_cons (pv 1) pa_nil)))))) (pss_one (L2N.ps_raise rfl tk (L2N.pmk_own PySem.F.excBase_ValueError X_InvalidCars.q X_InvalidCars.g X_InvalidCars.k (raises_own X_InvalidCars.ec X_InvalidCars.ty) (by rfl)))) pss_nil)), fun xs y r hl => ?_, fun xs c r hl => ?_⟩
  · obtain ⟨d, hi, rfl, sc, hw, rfl⟩ := r
    exact run_if (et_not (a := isW d 1 hi) (et_B (ev_isWd (ea_three (ev_var rfl) ev_int (ev_var rfl)) sc))) (fun z => by rw [hw] at z; cases z) (fun _ => run_next rfl)
  · obtain ⟨d, hi, rfl, sc, hw, rfl⟩ := r
    exact rx_if (et_not (a := isW d 1 hi) (et_B (ev_isWd (ea_three (ev_var rfl) ev_int (ev_var rfl)) sc))) (fun _ => rx_own) (fun z => by rw [hw] at z; cases z)
def rel_need_few (xs : List Sl) (y : Sl) : Prop := ∃ i j : Int, xs = [.d (.int i), .d (.int j)] ∧ i ≤ j ∧ y = .d .none
def relE_need_few (C : Addr) (xs : List Sl) (c : Value) : Prop := ∃ i j : Int, xs = [.d (.int i), .d (.int j)] ∧ j < i ∧ c = .ref C
abbrev s_need_few : Stmt := topS 14
abbrev N_need_few : List Str := ["many", "limit"]
theorem sc_need_few : FnScope N_need_few ["many", "limit"] (defScope s_need_few) := ⟨rfl, rfl, rfl, by decide +kernel, rfl, by decide +kernel, by decide +kernel⟩
theorem df_need_few {f : Addr} {fd : FuncData} {k : Nat} {C1 C2 C3 : Addr} (F : Fun K "need_few" "need_few" s_need_few f fd) (g : mg "need_few" = some (.ref f)) (T : Bl mg) (MK : ManyK P K C2) (gM : mg "TooMany" = some (.ref C2)) (T2 : Bl2 mg) (h3 : 3 ≤ k) :
    Df P w K mg base (L2N.CX P w) (k + 1) "need_few" ["many", "limit"] (spE K 2 rel_need_few (relE_need_few C2)) := by
  refine dfx_ok F g sc_need_few rfl (F.binds fun _ _ _ _ _ _ us hl => match us, hl with | [_, _], _ => rfl) fun cdv A outer s H E hr tk => ⟨_, (pss_one (ps_if (pt_cmpR op_gt (pv 0) (pv 1) (nomark _)) (pss_one (L2N.ps_raise rfl tk (pmk_many MK gM T2.super (hr.mono h3) (by rfl) (pa_cons (pv 1) pa_nil)))) pss_nil)), fun xs y r hl => ?_, fun xs c r hl => ?_⟩
  · obtain ⟨i, j, rfl, h, rfl⟩ := r
    exact run_if (et_test (ev_gt (ev_var rfl) (ev_var rfl))) (fun z => by have := of_decide_eq_true z; omega) (fun _ => run_next rfl)
  · obtain ⟨i, j, rfl, h, rfl⟩ := r
    exact rx_if (et_test (ev_gt (ev_var rfl) (ev_var rfl))) (fun _ => rx_many (ea_one (ev_var rfl))) (fun z => by have := of_decide_eq_false z; omega)
theorem ev_cars {K : Kf} {es : Es} {ta : TA} {E : XK} {C : Addr} {i hi : Int} (h : EvA K ta es [.d (.int i), .d (.int hi)]) (h0 : 1 ≤ i) (h1 : i ≤ hi) : Ev K (tCall (spE K 2 rel_need_cars (relE_need_cars C)) [] E ta) es (.d .none) :=
  ev_callE h ⟨.int i, hi, rfl, trivial, by show (decide (1 ≤ i) && decide (i ≤ hi)) = true; rw [decide_eq_true h0, decide_eq_true h1]; rfl, rfl⟩
def rel_middle_field (xs : List Sl) (y : Sl) : Prop := ∃ n : Nat, 1 ≤ n ∧ n ≤ 12 ∧ xs = [.d (.int n)] ∧ y = .d (dF (middleM n))
def relE_middle_field (C : Addr) (xs : List Sl) (c : Value) : Prop := ∃ d, xs = [.d d] ∧ Scal d ∧ isW d 1 12 = false ∧ c = .ref C
abbrev s_middle_field : Stmt := topS 28
abbrev N_middle_field : List Str := ["things"]
theorem sc_middle_field : FnScope N_middle_field ["things"] (defScope s_middle_field) := ⟨rfl, rfl, rfl, by decide +kernel, rfl, by decide +kernel, by decide +kernel⟩
theorem df_middle_field {f : Addr} {fd : FuncData} {k : Nat} {C1 C2 C3 : Addr} (F : Fun K "middle_field" "middle_field" s_middle_field f fd) (g : mg "middle_field" = some (.ref f)) (T : Bl mg) (D_middle_by : Df P w K mg base CX0 k "middle_by" ["things"] (spP K 1 rel_middle_by)) (D_need_cars : Df P w K mg base (L2N.CX P w) k "need_cars" ["value", "most"] (spE K 2 rel_need_cars (relE_need_cars C1))) :
    Df P w K mg base (L2N.CX P w) (k + 1) "middle_field" ["things"] (spE K 1 rel_middle_field (relE_middle_field C1)) := by
  refine dfx_ok F g sc_middle_field rfl (F.binds fun _ _ _ _ _ _ us hl => match us, hl with | [_], _ => rfl) fun cdv A outer s H E hr tk => ⟨_, (pss_cons (ps_expr (pe_df (E := E) D_need_cars hr (by rfl) (L2N.passes_call tk fun _ _ _ _ h => h) (pa_cons (pv 0) (pa_cons (pe_globE (by rfl) T.gCARS) pa_nil))))
      (pss_one (ps_ret (pe_df D_middle_by hr (by rfl) pass0 (pa_cons (pv 0) pa_nil))))), fun xs y r hl => ?_, fun xs c r hl => ?_⟩
  · obtain ⟨n, h0, h1, rfl, rfl⟩ := r
    exact run_seq (run_drop (ev_cars (ea_two (ev_var rfl) ev_int) (by omega) (by omega)) (run_ret (ev_call (ea_one (ev_var rfl)) ⟨n, rfl, by omega, rfl⟩) rfl))
  · obtain ⟨d, rfl, sc, hw, rfl⟩ := r
    exact rx_l (rx_drop (ex_callE (ea_two (ev_var rfl) ev_int) ⟨d, 12, rfl, sc, hw, rfl⟩))
def rel_count_fields (xs : List Sl) (y : Sl) : Prop := ∃ n : Int, 1 ≤ n ∧ n ≤ 60 ∧ xs = [.d (.int n)] ∧ y = .d (.int ((n + 1) ^ (n - 1).toNat))
def relE_count_fields (C : Addr) (xs : List Sl) (c : Value) : Prop := ∃ d, xs = [.d d] ∧ Scal d ∧ isW d 1 60 = false ∧ c = .ref C
abbrev s_count_fields : Stmt := topS 31
abbrev N_count_fields : List Str := ["many"]
theorem sc_count_fields : FnScope N_count_fields ["many"] (defScope s_count_fields) := ⟨rfl, rfl, rfl, by decide +kernel, rfl, by decide +kernel, by decide +kernel⟩
theorem df_count_fields {f : Addr} {fd : FuncData} {k : Nat} {C1 C2 C3 : Addr} (F : Fun K "count_fields" "count_fields" s_count_fields f fd) (g : mg "count_fields" = some (.ref f)) (T : Bl mg) (D_need_cars : Df P w K mg base (L2N.CX P w) k "need_cars" ["value", "most"] (spE K 2 rel_need_cars (relE_need_cars C1))) (D_power_of : Df P w K mg base CX0 k "power_of" ["number", "times"] (spP K 2 rel_power_of)) :
    Df P w K mg base (L2N.CX P w) (k + 1) "count_fields" ["many"] (spE K 1 rel_count_fields (relE_count_fields C1)) := by
  refine dfx_ok F g sc_count_fields rfl (F.binds fun _ _ _ _ _ _ us hl => match us, hl with | [_], _ => rfl) fun cdv A outer s H E hr tk => ⟨_, (pss_cons (ps_expr (pe_df (E := E) D_need_cars hr (by rfl) (L2N.passes_call tk fun _ _ _ _ h => h) (pa_cons (pv 0) (pa_cons (pe_globE (by rfl) T.gTOLD) pa_nil))))
      (pss_one (ps_ret (pe_df D_power_of hr (by rfl) pass0 (pa_cons (pe_op op_add (pv 0) pe_int) (pa_cons (pe_op op_sub (pv 0) pe_int) pa_nil)))))), fun xs y r hl => ?_, fun xs c r hl => ?_⟩
  · obtain ⟨n, h0, h1, rfl, rfl⟩ := r
    exact run_seq (run_drop (ev_cars (ea_two (ev_var rfl) ev_int) h0 h1) (run_ret (ev_call (ea_two (ev_add (ev_var rfl) ev_int) (ev_sub (ev_var rfl) ev_int)) ⟨n + 1, n - 1, rfl, by omega, by omega, Nat.lt_of_lt_of_le (show (n + 1).natAbs < 2 ^ 8 by omega) (Nat.pow_le_pow_right (by decide) (by decide)), rfl⟩) rfl))
  · obtain ⟨d, rfl, sc, hw, rfl⟩ := r
    exact rx_l (rx_drop (ex_callE (ea_two (ev_var rfl) ev_int) ⟨d, 60, rfl, sc, hw, rfl⟩))
def rel_count_closed_fields (xs : List Sl) (y : Sl) : Prop := ∃ n : Int, 1 ≤ n ∧ n ≤ 60 ∧ xs = [.d (.int n)] ∧ y = .d (.int ((n - 1) ^ (n - 1).toNat))
abbrev s_count_closed_fields : Stmt := topS 32
abbrev N_count_closed_fields : List Str := ["many"]
theorem sc_count_closed_fields : FnScope N_count_closed_fields ["many"] (defScope s_count_closed_fields) := ⟨rfl, rfl, rfl, by decide +kernel, rfl, by decide +kernel, by decide +kernel⟩
theorem df_count_closed_fields {f : Addr} {fd : FuncData} {k : Nat} {C1 C2 C3 : Addr} (F : Fun K "count_closed_fields" "count_closed_fields" s_count_closed_fields f fd) (g : mg "count_closed_fields" = some (.ref f)) (T : Bl mg) (D_need_cars : Df P w K mg base (L2N.CX P w) k "need_cars" ["value", "most"] (spE K 2 rel_need_cars (relE_need_cars C1))) (D_power_of : Df P w K mg base CX0 k "power_of" ["number", "times"] (spP K 2 rel_power_of)) :
    Df P w K mg base (L2N.CX P w) (k + 1) "count_closed_fields" ["many"] (spE K 1 rel_count_closed_fields (relE_count_fields C1)) := by
  refine dfx_ok F g sc_count_closed_fields rfl (F.binds fun _ _ _ _ _ _ us hl => match us, hl with | [_], _ => rfl) fun cdv A outer s H E hr tk => ⟨_, (pss_cons (ps_expr (pe_df (E := E) D_need_cars hr (by rfl) (L2N.passes_call tk fun _ _ _ _ h => h) (pa_cons (pv 0) (pa_cons (pe_globE (by rfl) T.gTOLD) pa_nil))))
      (pss_one (ps_ret (pe_df D_power_of hr (by rfl) pass0 (pa_cons (pe_op op_sub (pv 0) pe_int) (pa_cons (pe_op op_sub (pv 0) pe_int) pa_nil)))))), fun xs y r hl => ?_, fun xs c r hl => ?_⟩
  · obtain ⟨n, h0, h1, rfl, rfl⟩ := r
    exact run_seq (run_drop (ev_cars (ea_two (ev_var rfl) ev_int) h0 h1) (run_ret (ev_call (ea_two (ev_sub (ev_var rfl) ev_int) (ev_sub (ev_var rfl) ev_int)) ⟨n - 1, n - 1, rfl, by omega, by omega, Nat.lt_of_lt_of_le (show (n - 1).natAbs < 2 ^ 8 by omega) (Nat.pow_le_pow_right (by decide) (by decide)), rfl⟩) rfl))
  · obtain ⟨d, rfl, sc, hw, rfl⟩ := r
    exact rx_l (rx_drop (ex_callE (ea_two (ev_var rfl) ev_int) ⟨d, 60, rfl, sc, hw, rfl⟩))
def rel_all_fields (xs : List Sl) (y : Sl) : Prop := ∃ n : Nat, n ∈ [1, 2, 3, 4] ∧ xs = [.d (.int n)] ∧ y = .d (.list ((allM n).map dF))
def relE_all_fields (C1 C2 : Addr) (xs : List Sl) (c : Value) : Prop := ∃ d, xs = [.d d] ∧ ((Scal d ∧ isW d 1 12 = false ∧ c = .ref C1) ∨ ∃ i : Int, d = .int i ∧ 5 ≤ i ∧ i ≤ 12 ∧ c = .ref C2)
theorem all_len {n : Nat} (hn : n ∈ [1, 2, 3, 4]) (i : Nat) : (((linesM n).take i).foldl (fun f l => f ++ onM l) []).length ≤ 24000 := by
  have h1 := len_fold_app (f := fun l => onM l) (c := 1000) ((linesM n).take i) [] fun a ha => by
    have ok := line_ok hn (List.mem_of_mem_take ha)
    have s1 := (small_of (ok_lots ok (i := 6) (by omega)).1).1
    rw [List.take_of_length_le (ok_len ok).2] at s1
    unfold onM
    rw [List.length_map]; exact s1
  have h2 := List.length_take_le' i (linesM n)
  have h3 := (lines_ok n hn).2
  simp only [List.length_nil] at h1
  omega
abbrev s_all_fields : Stmt := topS 30
abbrev N_all_fields : List Str := ["things", "found", "line"]
theorem sc_all_fields : FnScope N_all_fields ["things"] (defScope s_all_fields) := ⟨rfl, rfl, rfl, by decide +kernel, rfl, by decide +kernel, by decide +kernel⟩
theorem df_all_fields {f : Addr} {fd : FuncData} {k : Nat} {C1 C2 C3 : Addr} (F : Fun K "all_fields" "all_fields" s_all_fields f fd) (g : mg "all_fields" = some (.ref f)) (T : Bl mg) (D_fields_on : Df P w K mg base CX0 k "fields_on" ["line"] (spP K 1 rel_fields_on)) (D_lines_of : Df P w K mg base CX0 k "lines_of" ["many"] (spP K 1 rel_lines_of)) (D_need_cars : Df P w K mg base (L2N.CX P w) k "need_cars" ["value", "most"] (spE K 2 rel_need_cars (relE_need_cars C1))) (D_need_few : Df P w K mg base (L2N.CX P w) k "need_few" ["many", "limit"] (spE K 2 rel_need_few (relE_need_few C2))) :
    Df P w K mg base (L2N.CX P w) (k + 1) "all_fields" ["things"] (spE K 1 rel_all_fields (relE_all_fields C1 C2)) := by
  refine dfx_ok F g sc_all_fields rfl (F.binds fun _ _ _ _ _ _ us hl => match us, hl with | [_], _ => rfl) fun cdv A outer s H E hr tk => ⟨_, (pss_cons (ps_expr (pe_df (E := E) D_need_cars hr (by rfl) (L2N.passes_call tk fun _ _ _ _ h => h) (pa_cons (pv 0) (pa_cons (pe_globE (by rfl) T.gCARS) pa_nil))))
      (pss_cons (ps_expr (pe_df (E := E) D_need_few hr (by rfl) (L2N.passes_call tk fun _ _ _ _ h => h) (pa_cons (pv 0) (pa_cons (pe_globE (by rfl) T.gDRAWN) pa_nil))))
      (pss_cons (ps_set (i := 1) sc_all_fields.nd rfl (.inl rfl) (pe_lst pa_nil))
      (pss_cons (ps_for PassesOwn.leaving rfl (piK_list (K := K) (pe_df D_lines_of hr (by rfl) pass0 (pa_cons (pv 0) pa_nil))) (pg_name (i := 2) sc_all_fields.nd rfl (Or.inl rfl)) (pss_one (ps_set (i := 1) sc_all_fields.nd rfl (.inl rfl) (pe_op (opK_catS (K := K)) (pv 1) (pe_df D_fields_on hr (by rfl) pass0 (pa_cons (pv 2) pa_nil))))))
      (pss_one (ps_ret (pe_callB (crK_sort (K := K) hr.units) (by rfl) T.sorted (by decide +kernel) (pa_cons (pv 1) pa_nil)))))))), fun xs y r hl => ?_, fun xs c r hl => ?_⟩
  · obtain ⟨n, hn, rfl, rfl⟩ := r
    have h4 := mem4 hn
    refine run_seq (run_drop (ev_cars (ea_two (ev_var rfl) ev_int) (by omega) (by omega)) ?_)
    refine run_seq (run_drop (ev_callE (ea_two (ev_var rfl) ev_int) ⟨(n : Int), 4, rfl, by omega, rfl⟩) ?_)
    refine run_seq (run_asg (x := .d (.list ([].map dF))) (ev_lstD ead_nil) ?_)
    refine run_seq ?_
    refine run_foldM dL (linesM n) (fun acc => [.d (.int n), .d (.list (acc.map dF)), .no]) (fun _ => []) (fun f l => f ++ onM l) [] [2] (ei_list (ev_call (ea_one (ev_var rfl)) ⟨n, hn, rfl, rfl⟩)) (.eq (.eq (.no .nil))) rfl (fun i l hil => ⟨_, eg_name, ?_⟩) (fun e le => ?_)
    · have hlm := List.mem_of_getElem? hil
      have hb := all_len hn i
      generalize ((linesM n).take i).foldl (fun f l => f ++ onM l) [] = acc at hb ⊢
      have ok := line_ok hn hlm
      have s1 := (small_of (ok_lots ok (i := 6) (by omega)).1).1
      rw [List.take_of_length_le (ok_len ok).2] at s1
      have hon : (onM l).length ≤ 1000 := by unfold onM; rw [List.length_map]; exact s1
      refine run_asg (x := .d (.list ((acc ++ onM l).map dF))) ?_ ⟨.eq (.eq (.no .nil)), rfl⟩
      exact (ev_catL (ds := acc.map dF) (fs := (onM l).map dF) (ev_var rfl) (ev_call (ea_one (ev_var rfl)) ⟨n, l, hn, hlm, rfl, rfl⟩) (by simp only [List.length_map]; omega)).to (by rw [List.map_append])
    · exact Run.le' le (run_ret (x := .d (.list ((allM n).map dF))) (ev_sortF (ev_var rfl)) rfl)
  · obtain ⟨d, rfl, r⟩ := r
    rcases r with ⟨sc, hw, rfl⟩ | ⟨i, rfl, h0, h1, rfl⟩
    · exact rx_l (rx_drop (ex_callE (ea_two (ev_var rfl) ev_int) ⟨d, 12, rfl, sc, hw, rfl⟩))
    · exact rx_r (run_drop (ev_cars (ea_two (ev_var rfl) ev_int) (by omega) h1) (rx_l (rx_drop (ex_callE (ea_two (ev_var rfl) ev_int) ⟨i, 4, rfl, by omega, rfl⟩))))
def rel_count_off_planes (xs : List Sl) (y : Sl) : Prop := ∃ t n : Int, 1 ≤ t ∧ t ≤ 12 ∧ 1 ≤ n ∧ n ≤ 10 ^ 30 ∧ xs = [.d (.int t), .d (.int n)] ∧ y = .d (.int (if n ≥ t then n * (n - t) ^ (t - 1).toNat else 0))
def relE_count_off_planes (C1 C3 : Addr) (xs : List Sl) (c : Value) : Prop := (∃ d e, xs = [.d d, .d e] ∧ Scal d ∧ isW d 1 12 = false ∧ c = .ref C1) ∨ ∃ (t : Int) (e : PyData), xs = [.d (.int t), .d e] ∧ 1 ≤ t ∧ t ≤ 12 ∧ Scal e ∧ isW e 1 (10 ^ 30) = false ∧ c = .ref C3
theorem ev_ten {K : Kf} {es : Es} : EvD K (tOp (rI CPow fun i j => .int (i ^ j.toNat)) (tC (.int 10)) (tC (.int 30))) es (.int (10 ^ 30)) := (ev_pow ev_int ev_int ⟨by decide, by decide, by decide⟩).to (by rfl)
theorem big_lt {i : Int} (h0 : 0 ≤ i) (h1 : i ≤ 10 ^ 30) : i.natAbs < 2 ^ 200 := by
  have : i.natAbs ≤ 10 ^ 30 := by omega
  exact Nat.lt_of_le_of_lt this (by decide)
abbrev s_count_off_planes : Stmt := topS 33
abbrev N_count_off_planes : List Str := ["things", "number"]
theorem sc_count_off_planes : FnScope N_count_off_planes ["things", "number"] (defScope s_count_off_planes) := ⟨rfl, rfl, rfl, by decide +kernel, rfl, by decide +kernel, by decide +kernel⟩
theorem df_count_off_planes {f : Addr} {fd : FuncData} {k : Nat} {C1 C2 C3 : Addr} (F : Fun K "count_off_planes" "count_off_planes" s_count_off_planes f fd) (g : mg "count_off_planes" = some (.ref f)) (T : Bl mg) (D_is_whole : Df P w K mg base CX0 k "is_whole" ["value", "low", "high"] (spP K 3 rel_is_whole)) (D_need_cars : Df P w K mg base (L2N.CX P w) k "need_cars" ["value", "most"] (spE K 2 rel_need_cars (relE_need_cars C1))) (D_power_of : Df P w K mg base CX0 k "power_of" ["number", "times"] (spP K 2 rel_power_of)) (X_InvalidNumber : ExC K mg "InvalidNumber" C3) :
    Df P w K mg base (L2N.CX P w) (k + 1) "count_off_planes" ["things", "number"] (spE K 2 rel_count_off_planes (relE_count_off_planes C1 C3)) := by
  refine dfx_ok F g sc_count_off_planes rfl (F.binds fun _ _ _ _ _ _ us hl => match us, hl with | [_, _], _ => rfl) fun cdv A outer s H E hr tk => ⟨_, (pss_cons (ps_expr (pe_df (E := E) D_need_cars hr (by rfl) (L2N.passes_call tk fun _ _ _ _ h => h) (pa_cons (pv 0) (pa_cons (pe_globE (by rfl) T.gCARS) pa_nil))))
      (pss_cons (ps_if (pt_not (pt_val (pe_df D_is_whole hr (by rfl) pass0 (pa_cons (pv 1) (pa_cons pe_int (pa_cons (pe_op op_pow pe_int pe_int) pa_nil)))))) (pss_one (L2N.ps_raise rfl tk (L2N.pmk_own PySem.F.excBase_ValueError X_InvalidNumber.q X_InvalidNumber.g X_InvalidNumber.k (raises_own X_InvalidNumber.ec X_InvalidNumber.ty) (by rfl)))) pss_nil)
      (pss_one (ps_ret (pe_ifExp (pt_cmpR op_ge (pv 1) (pv 0) (nomark _)) (pe_op op_mulW (pv 1) (pe_df D_power_of hr (by rfl) pass0 (pa_cons (pe_op op_sub (pv 1) (pv 0)) (pa_cons (pe_op op_sub (pv 0) pe_int) pa_nil)))) pe_int))))), fun xs y r hl => ?_, fun xs c r hl => ?_⟩
  · obtain ⟨t, n, h0, h1, h2, h3, rfl, rfl⟩ := r
    refine run_seq (run_drop (ev_cars (ea_two (ev_var rfl) ev_int) h0 h1) ?_)
    refine run_seq (run_if (et_not (a := isW (.int n) 1 (10 ^ 30)) (et_B (ev_isWd (ea_three (ev_var rfl) ev_int ev_ten) trivial))) (fun z => ?_) (fun _ => run_next ?_))
    · have hw : isW (.int n) 1 (10 ^ 30) = true := by show (decide (1 ≤ n) && decide (n ≤ 10 ^ 30)) = true; rw [decide_eq_true h2, decide_eq_true h3]; rfl
      rw [hw] at z; cases z
    refine run_ret (x := .d (.int (if n ≥ t then n * (n - t) ^ (t - 1).toNat else 0))) ?_ rfl
    refine ev_if (et_test (ev_ge (ev_var rfl) (ev_var rfl))) (fun z => ?_) (fun z => ?_)
    · have z : n ≥ t := of_decide_eq_true z
      rw [if_pos z]
      have hb := big_lt (i := n - t) (by omega) (by omega)
      have hn := big_lt (i := n) (by omega) h3
      exact ev_mul (ev_var rfl) (ev_call (ea_two (ev_sub (ev_var rfl) (ev_var rfl)) (ev_sub (ev_var rfl) ev_int)) ⟨n - t, t - 1, rfl, by omega, by omega, hb, rfl⟩) (wide_mul hn (pow_small hb (t - 1).toNat) (by omega) (by omega) (by omega))
    · have z := of_decide_eq_false z
      rw [if_neg (by omega)]
      exact ev_int
  · rcases r with ⟨d, e, rfl, sc, hw, rfl⟩ | ⟨t, e, rfl, h0, h1, sc, hw, rfl⟩
    · exact rx_l (rx_drop (ex_callE (ea_two (ev_var rfl) ev_int) ⟨d, 12, rfl, sc, hw, rfl⟩))
    · exact rx_r (run_drop (ev_cars (ea_two (ev_var rfl) ev_int) h0 h1) (rx_l (rx_if (et_not (a := isW e 1 (10 ^ 30)) (et_B (ev_isWd (ea_three (ev_var rfl) ev_int ev_ten) sc))) (fun _ => rx_own) (fun z => by rw [hw] at z; cases z))))
end
end DL

-- H1
set_option Elab.async false
set_option linter.all false
set_option maxRecDepth 100000
set_option maxHeartbeats 4000000
/-! While an exception is handled: the ends of a list's iterator, of a zip, of an unpacking. -/
namespace DL
open PySem PySem.Calls L2 PyProof.Rows PySem.Spec HotX
section
variable {prog : Program} {w : World} {A : Around} {E : Value → Shared → Prop} {s : Shared}
theorem hot_ne {x1 it : Addr} {o : Obj} {u v : Value} {h : Heap} (hot : HotAt A x1 h) (e : h.get? it = some o) (d : o.data = .fields #[u, v]) : x1 ≠ it := fun z => by
  obtain ⟨_, o1, vs1, h1, d1, c1⟩ := hot
  rw [z, e] at h1
  have z := Option.some.inj h1
  subst z
  rw [d] at d1
  cases d1
  cases c1
theorem hot_kept {x1 : Addr} {h h' : Heap} (hot : HotAt A x1 h) (k : ∀ o, h.get? x1 = some o → h'.get? x1 = some o) : HotAt A x1 h' := by
  obtain ⟨a, o1, vs1, h1, d1, c1⟩ := hot
  exact ⟨a, o1, vs1, k _ h1, d1, c1⟩
/-- StopIteration is raised -/
theorem stop_hot {α : Type} {x1 : Addr} {Q : α → Shared → Prop} (hot : HotAt A x1 s.heap)
    (hE : ∀ h' e, (∀ b o, s.heap.get? b = some o → h'.get? b = some o) → (∃ o, h'.get? e = some o ∧ o.cls = .type "StopIteration") → E (.ref e) { s with heap := h' }) :
    wpAny (model prog w) A (newExc (.type "StopIteration") [] >>= fun e => (raiseNew e : Sem α)) Q E s := by
  obtain ⟨hh, o1, vs1, h1, d1, c1⟩ := hot
  refine wpAny_bind ?_
  simp only [newExc, newTuple]
  refine wpAny_bind (wpAny_newObj_type ?_ (by size_fits))
  refine wpAny_bind (m := firstArgMember _ _) (wpAny_of_eq (a := Value.none) (by first | rfl | (simp only [firstArgMember]; rfl)) ?_)
  refine wpAny_newObj_type ?_ (by size_fits)
  refine raiseNew_hot ⟨hh, o1, vs1, Heap.get?_push_of_some _ (Heap.get?_push_of_some _ h1), d1, c1⟩ (Nat.ne_of_lt (Heap.lt_size (Heap.get?_push_of_some _ h1))) (Heap.get?_push_size _ rfl) rfl (by first | (simp; done) | (simp; omega) | (simp only [Array.size_append]; simp; omega)) ?_
  refine hE _ _ (fun b o e => ?_) ⟨_, Heap.get?_update_self _ (Heap.get?_push_size _ rfl) rfl, rfl⟩
  rw [Heap.get?_update_other _ _ (Nat.ne_of_gt (Heap.lt_size (Heap.get?_push_of_some _ e)))]
  exact Heap.get?_push_of_some _ (Heap.get?_push_of_some _ e)
theorem nextOf_end_hot {it l x1 : Addr} {i : Nat} {items} {Q : Value → Shared → Prop} (hot : HotAt A x1 s.heap)
    (hit : s.heap.IsListIter it l i) (hl : s.heap.IsList l items) (hx : items[i]? = none)
    (hE : ∀ h' e, Heap.ExtBut it s.heap h' → (∃ o, h'.get? e = some o ∧ o.cls = .type "StopIteration") → E (.ref e) { s with heap := h' }) :
    wpAny (model prog w) A (Builtin.SmallTypes.nextOf (.ref it)) Q E s := by
  obtain ⟨o, ho, hc, hd⟩ := id hit
  obtain ⟨ol, hol, _, nl, hdl⟩ := hl
  unfold Builtin.SmallTypes.nextOf
  refine wpAny_bind (wpAny_callSpecial?_slot (name := Str.ofString "__next__") hit.typeIs slot_listiter_next
    (wpAny_call_entry slot_listiter_next hit.typeIs entry_listiter_next ?_ (args_listiter_next _)))
  show wpAny _ _ (field (.ref it) 0 >>= _) _ _ s
  refine wpAny_bind (wpAny_field ho hd (x := .ref l) rfl ?_)
  show wpAny _ _ (if (Value.ref l == Value.none) = true then _ else _) _ _ s
  rw [if_neg (show ¬ ((Value.ref l == Value.none) = true) from Bool.false_ne_true)]
  show wpAny _ _ (field (.ref it) 1 >>= _) _ _ s
  refine wpAny_bind (wpAny_field ho hd (x := .int i 0) rfl ?_)
  show wpAny _ _ (seqItems? (.ref l) >>= _) _ _ s
  refine wpAny_bind (wpAny_seqItems hol hdl ?_)
  simp only [Int.toNat_natCast, hx]
  have hne := hot_ne hot ho hd
  refine wpAny_bind (wpAny_rule (wpAny_bind (wpAny_setField ho hd (by simp) ?_)))
  show wpAny _ _ (newExc (.type "StopIteration") [] >>= _) _ _ _
  refine stop_hot (x1 := x1) (hot_kept hot fun o e => ?_) fun h' e k he => hE h' e (fun b o hb q => k b o ?_) he
  · exact (Heap.get?_update_other _ _ (Ne.symm hne)).trans e
  · exact (Heap.get?_update_other _ _ (Ne.symm hb)).trans q
theorem zip_end_hot {z TI TO i1 i2 l1 l2 x1 : Addr} {k1 : Nat} {xs : Array Value} {a b : Value} {Q : Fin → Shared → Prop} (hot : HotAt A x1 s.heap) (D : ZipApart z TI TO i1 i2 l1 l2)
    (hz : IsZip s.heap z TI TO .none) (hTI : IsPair s.heap TI (.ref i1) (.ref i2)) (hTO : IsPair s.heap TO a b)
    (h1 : s.heap.IsListIter i1 l1 k1) (hl1 : s.heap.IsList l1 xs) (hx : xs[k1]? = none)
    (hxz : x1 ≠ z)
    (hE : ∀ h' e, (∀ c o, c ≠ z → c ≠ TO → c ≠ i1 → c ≠ i2 → s.heap.get? c = some o → h'.get? c = some o) → (∃ o, h'.get? e = some o ∧ o.cls = .type "StopIteration") → E (.ref e) { s with heap := h' }) :
    wpAny (model prog w) A (Builtin.«zip.__next__» ⟨[.ref z], []⟩) Q E s := by
  show wpAny _ _ (field (.ref z) 2 >>= _) _ _ _
  refine wpAny_bind (wpAny_field hz rfl (x := .bool false) rfl ?_)
  show wpAny _ _ (field (.ref z) 3 >>= _) _ _ _
  refine wpAny_bind (wpAny_field hz rfl (x := .ref TI) rfl ?_)
  refine wpAny_bind (wpAny_seqItems hTI rfl ?_)
  show wpAny _ _ (Builtin.SmallTypes.ownedTupleIsFree (.ref z) >>= _) _ _ _
  refine wpAny_bind ?_
  unfold Builtin.SmallTypes.ownedTupleIsFree
  refine wpAny_bind (wpAny_field hz rfl (x := .none) rfl (wpAny_pure ?_))
  simp only [if_true]
  refine wpAny_bind (wpAny_rule ?_)
  refine wpAny_bind (wpAny_field hz rfl (x := .ref TO) rfl ?_)
  refine wpAny_bind (wpAny_setField_rec hz (by simp) fun h₁ hz₁ hs₁ => ?_)
  replace hz₁ : IsZip h₁ z TI TO .ellipsis := hz₁
  refine wpAny_bind ?_
  simp only [List.zipIdx_cons, List.zipIdx_nil, List.forIn_cons, List.forIn_nil]
  refine wpAny_bind (wpAny_bind (wpAny_onRaise ?_))
  show wpAny _ _ (Builtin.SmallTypes.nextOf (.ref i1) >>= _) _ _ _
  refine wpAny_bind (nextOf_end_hot (x1 := x1) (hot_kept hot fun o e => hs₁.extBut _ _ hxz e) (h1.extBut hs₁.extBut D.i1z) (hl1.extBut hs₁.extBut D.l1z) hx fun h₂ e hs₂ he => ?_)
  obtain ⟨oe, hoe, hce⟩ := he
  have hz₂ : IsZip h₂ z TI TO .ellipsis := hs₂ _ _ D.i1z.symm hz₁
  have hez : e ≠ z := fun x => by subst x; rw [hz₂] at hoe; cases hoe; simp at hce
  refine wpAny_setField_rec hz₂ (by simp) fun h₃ _ hs₃ => hE h₃ e (fun c o c1 _ c3 _ x => hs₃.extBut _ _ c1 (hs₂ _ _ c3 (hs₁.extBut _ _ c1 x))) ⟨oe, hs₃.extBut _ _ hez hoe, hce⟩
theorem pyNext_zip_end_hot {z TI TO i1 i2 l1 l2 x1 : Addr} {k1 : Nat} {xs : Array Value} {a b : Value} {Q : Option Value → Shared → Prop} (hot : HotAt A x1 s.heap) (D : ZipApart z TI TO i1 i2 l1 l2)
    (hz : IsZip s.heap z TI TO .none) (hTI : IsPair s.heap TI (.ref i1) (.ref i2)) (hTO : IsPair s.heap TO a b)
    (h1 : s.heap.IsListIter i1 l1 k1) (hl1 : s.heap.IsList l1 xs) (hx : xs[k1]? = none) (hxz : x1 ≠ z)
    (hQ : ∀ h', (∀ c o, c ≠ z → c ≠ TO → c ≠ i1 → c ≠ i2 → s.heap.get? c = some o → h'.get? c = some o) → Q none { s with heap := h' }) : wpAny (model prog w) A (pyNext (.ref z)) Q E s := by
  have hT : s.TypeIs (.ref z) "zip" := ⟨_, hz, rfl⟩
  unfold pyNext
  refine wpAny_bind (wpAny_attempt (wpAny_callSpecial?_slot (name := Str.ofString "__next__") hT F.slot_zip_next
    (wpAny_call_entry F.slot_zip_next hT F.entry_zip_next (zip_end_hot hot D hz hTI hTO h1 hl1 hx hxz fun h' e hk he => ?_) (F.args_zip_next_1 _))))
  obtain ⟨o, ho, hc⟩ := he
  refine wpAny_bind (wpAny_isInstance (T := "StopIteration") (b := true) ⟨o, ho, hc⟩ isSubtype_stop ?_)
  exact wpAny_pure (hQ _ hk)
/-! unpacking a tuple -/
theorem next_tuple_end_hot {it t x1 : Addr} {i : Nat} {items} {Q : Option Value → Shared → Prop} (hot : HotAt A x1 s.heap)
    (hit : IsTupIter s.heap it t i) (ht : IsTup s.heap t items) (hx : items[i]? = none)
    (hQ : ∀ h', Heap.ExtBut it s.heap h' → Q none { s with heap := h' }) : wpAny (model prog w) A (pyNext (.ref it)) Q E s := by
  obtain ⟨o, ho, hc, hd⟩ := id hit
  obtain ⟨ol, hol, _, nl, hdl⟩ := ht
  unfold pyNext
  refine wpAny_bind (wpAny_attempt (wpAny_callSpecial?_slot (name := Str.ofString "__next__") hit.typeIs slot_tupleiter_next
    (wpAny_call_entry slot_tupleiter_next hit.typeIs entry_tupleiter_next ?_ (args_tupleiter_next _))))
  show wpAny _ _ (field (.ref it) 0 >>= _) _ _ s
  refine wpAny_bind (wpAny_field ho hd (x := .ref t) rfl ?_)
  show wpAny _ _ (if (Value.ref t == Value.none) = true then _ else _) _ _ s
  rw [if_neg (show ¬ ((Value.ref t == Value.none) = true) from Bool.false_ne_true)]
  show wpAny _ _ (field (.ref it) 1 >>= _) _ _ s
  refine wpAny_bind (wpAny_field ho hd (x := .int i 0) rfl ?_)
  show wpAny _ _ (seqItems? (.ref t) >>= _) _ _ s
  refine wpAny_bind (wpAny_seqItems hol hdl ?_)
  simp only [Int.toNat_natCast, hx]
  have hne := hot_ne hot ho hd
  refine wpAny_bind (wpAny_rule (wpAny_bind (wpAny_setField ho hd (by simp) ?_)))
  show wpAny _ _ (newExc (.type "StopIteration") [] >>= _) _ _ _
  refine stop_hot (x1 := x1) (hot_kept hot fun o e => (Heap.get?_update_other _ _ (Ne.symm hne)).trans e) fun h' e k he => ?_
  obtain ⟨oe, hoe, hce⟩ := he
  refine wpAny_bind (wpAny_isInstance (T := "StopIteration") (b := true) ⟨oe, hoe, hce⟩ isSubtype_stop ?_)
  exact wpAny_pure (hQ _ fun b o hb q => k b o ((Heap.get?_update_other _ _ (Ne.symm hb)).trans q))
theorem assign_Tuple_hot {env : Env} {elts : List Expr} {kk : Nat} {pos : Pos} {t x1 : Addr} {items : Array Value} {Q : Unit → Shared → Prop} (hot : HotAt A x1 s.heap) (ht : IsTup s.heap t items)
    (hn : (assignEach elts env).length = items.size) (hstar : (assignEach elts env).findIdx? (·.1) = none)
    (h : ∀ h', Heap.ExtBut s.heap.objs.size s.heap h' → wpAny (model prog w) A (assignInOrder ((assignEach elts env).map (·.2)) items.toList) Q E { s with heap := h' }) :
    wpAny (model prog w) A (assign (.Tuple elts kk pos) env (.ref t)) Q E s := by
  rw [assign_Tuple]
  refine wpAny_bind (wpAny_standAt ?_)
  unfold unpack
  rw [hn, hstar]
  refine wpAny_bind (wpAny_holding ?_)
  have hlt : t ≠ s.heap.objs.size := by obtain ⟨o, ho, _⟩ := ht; exact Nat.ne_of_lt (Heap.lt_size ho)
  unfold unpackItems
  refine wpAny_bind ?_
  · unfold notIterableAtAll
    refine wpAny_bind (wpAny_specialOf ht.typeIs slot_tuple_iter.lookup ?_)
    refine wpAny_pure ?_
    simp only [Bool.false_eq_true, if_false]
    refine wpAny_bind (wpAny_holding (iter_tuple ht ?_))
    refine wpAny_bind (wpAny_holding (draw_tuple hlt items.size 0 _ _ ⟨_, Heap.get?_push_size _ rfl, rfl, rfl⟩ (ht.push _) (by omega) fun h₁ hit₁ hs₁ => ?_))
    have hall : List.take items.size (List.drop 0 items.toList) = items.toList := by
      rw [List.drop_zero]; exact List.take_of_length_le (by simp)
    rw [hall]
    rw [if_neg (by simp)]
    have ht₁ : IsTup h₁ t items := (ht.push _).extBut hs₁.extBut hlt
    have hot₁ : HotAt A x1 h₁ := hot_kept hot fun o e => hs₁.extBut _ _ (Nat.ne_of_lt (Heap.lt_size e)) (Heap.get?_push_of_some _ e)
    refine wpAny_bind (wpAny_holding (next_tuple_end_hot hot₁ hit₁ ht₁ (by simp) fun h₂ he₂ => ?_))
    simp only [Option.isSome_none, Bool.false_eq_true, if_false]
    refine wpAny_pure (h h₂ fun b o hb e => he₂ b o hb (hs₁.extBut b o hb (Heap.get?_push_of_some _ e)))
end
end DL

-- H2
set_option Elab.async false
set_option linter.all false
set_option maxRecDepth 100000
set_option maxHeartbeats 4000000
/-! While an exception is handled: a comprehension over zip of two lists; unpacking; isinstance. -/
namespace DL
open PySem PySem.Calls L2 PyProof.Rows PySem.Spec HotX L2H
/-- at every state of the context the exception that is handled stands, its context None -/
def HotI (X : Cx) : Prop := ∀ (pins : List (Addr × Obj)) (σ : L2.St) (H : Hp) (s : Shared), Inv X pins σ H s → ∃ x1, HotAt X.A x1 s.heap
theorem hotI_pn {X : Cx} {p : Addr × Obj} (h : Hot1 X.A p) (m : p ∈ X.pn) : HotI X := fun pins σ H s I => HotC.at ⟨p, h, m⟩ I
theorem hotI_blk {X : Cx} {pins : List (Addr × Obj)} {σ : L2.St} {H : Hp} {s : Shared} (I : Inv X pins σ H s) {p : Addr × Obj} (h : Hot1 X.A p) (m : p ∈ X.pn) {fp : List Addr} (hfp : ∀ b ∈ fp, FpOk X pins H b) (scope : Scope) (ce : Env) : HotI (X.blk s H scope ce fp) := fun pins' σ' H' s' I' => by
  have P := I.pin p (List.mem_append_left _ m)
  have nf : p.1 ∉ frs X.stack := fun hm => by
    rcases List.mem_cons.mp (I.stkSub _ hm) with z | z
    · exact P.2.2.1 z
    · exact P.2.2.2.1 z
  have k := I'.base.keep p.1 p.2 P.1 P.2.1 nf fun hm => (hfp _ hm).2.2.2.2.2 p (List.mem_append_left _ m) rfl
  obtain ⟨hh, vs, d, c⟩ := h
  exact ⟨p.1, hh, p.2, vs, k, d, c⟩
theorem pg_tupH {X : Cx} {es : List Expr} {k : Nat} {t : TGs} {n : Nat} {pos : Pos} (hot : HotI X) (h : PGs X es t)
    (hn : (assignEach es X.env).length = n := by rfl) (hst : (assignEach es X.env).findIdx? (·.1) = none := by rfl) : PG X (.Tuple es k pos) (gTup X.K n t) := by
  refine ⟨fun pins s σ H v u Q I r hw => ?_⟩
  obtain ⟨a, xs, e1, hq, hl, hw⟩ := hw
  subst e1
  cases r
  obtain ⟨its, rv, ht, hz⟩ := I.tuple hq
  obtain ⟨x1, h1⟩ := hot _ _ _ _ I
  refine assign_Tuple_hot h1 ht (by simp [hn, ← hl, rv.length]) hst fun h' hx => ?_
  have I1 : Inv X pins σ H { s with heap := h' } := I.kept (t' := s.toks) fun b o e => hx b o (Nat.ne_of_lt (Heap.lt_size e)) e
  exact h.run pins _ σ H xs _ Q I1 (by simpa using rv) hw
/-- zip of lists, the first no longer than the second -/
def ItzH (K : Kf) (a b : Addr) : It := { Itz K a b with stop := fun i H => ∃ xs : List V, SqL K H a xs ∧ xs.length ≤ i }
abbrev ZTn (a b z TI TO i1 i2 : Addr) : Nat → Heap → Prop := fun i h => IsZip h z TI TO .none ∧ IsPair h TI (.ref i1) (.ref i2) ∧ (∃ x y, IsPair h TO x y) ∧ h.IsListIter i1 a i ∧ h.IsListIter i2 b i
section
variable {X : Cx} {a b z TI TO i1 i2 : Addr}
theorem zt_obj {i : Nat} {h : Heap} (st : ZTn a b z TI TO i1 i2 i h) : ∀ c ∈ [z, TI, TO, i1, i2], ∃ o, h.get? c = some o ∧ ∀ v, o.data ≠ .cell v := fun c hc => by
  obtain ⟨hz, hTI, ⟨x, y, hTO⟩, ⟨o1, e1, _, d1⟩, ⟨o2, e2, _, d2⟩⟩ := st
  have e' : c = z ∨ c = TI ∨ c = TO ∨ c = i1 ∨ c = i2 := by simpa using hc
  rcases e' with q | q | q | q | q
  · rw [q]; exact ⟨_, hz, fun v q => nomatch q⟩
  · rw [q]; exact ⟨_, hTI, fun v q => nomatch q⟩
  · rw [q]; exact ⟨_, hTO, fun v q => nomatch q⟩
  · rw [q]; exact ⟨o1, e1, fun v q => by rw [d1] at q; cases q⟩
  · rw [q]; exact ⟨o2, e2, fun v q => by rw [d2] at q; cases q⟩
theorem zt_keep {i : Nat} {h h' : Heap} (st : ZTn a b z TI TO i1 i2 i h) (k : ∀ c ∈ [z, TI, TO, i1, i2], ∀ o, h.get? c = some o → h'.get? c = some o) : ZTn a b z TI TO i1 i2 i h' := by
  obtain ⟨hz, hTI, ⟨x, y, hTO⟩, h1, h2⟩ := st
  exact ⟨k z (by simp) _ hz, k TI (by simp) _ hTI, ⟨x, y, k TO (by simp) _ hTO⟩, h1.at fun o q => k i1 (by simp) o q, h2.at fun o q => k i2 (by simp) o q⟩
theorem zt_item {elts : List Expr} {kk : Nat} {tpos : Pos} (D : ZipApart z TI TO i1 i2 a b) {i : Nat} {pins : List (Addr × Obj)} {s : Shared} {σ : L2.St} {H : Hp} {E : Value → Shared → Prop} (I : Inv X pins σ H s) (hf : ∀ b ∈ [z, TI, TO, i1, i2], FpOk X pins H b) (st : ZTn a b z TI TO i1 i2 i s.heap)
    (hg : (ItzH X.K a b).go i H) : wpAny (model X.prog X.w) X.A (pyNext (.ref z)) (fun r s1 => ∃ u, r = some u ∧
      wpAny (model X.prog X.w) X.A (letOwnedTupleGo (.Tuple elts kk tpos) (.ref z) u) (fun _ s2 => ∃ x H', Inv X pins σ H' s2 ∧ RelV x u ∧ (ItzH X.K a b).yld i H x H' ∧ ZTn a b z TI TO i1 i2 (i + 1) s2.heap ∧ ∀ b ∈ [z, TI, TO, i1, i2], H' b = none) E s1) E s := by
  obtain ⟨hz, hTI, ⟨x0, y0, hTO⟩, h1, h2⟩ := st
  obtain ⟨xs, ys, x, y, hqx, hqy, hx, hy⟩ := hg
  obtain ⟨its, rv, p, _⟩ := I.list hqx
  obtain ⟨its2, rv2, p2, _⟩ := I.list hqy
  obtain ⟨u, hu, ru⟩ := rv.get hx
  obtain ⟨u2, hu2, ru2⟩ := rv2.get hy
  have hzl : z < s.heap.objs.size := Heap.lt_size hz
  refine wpAny_pyNext_zip_item D hz hTI hTO h1 h2 p.isList p2.isList (x := u) (y := u2) (by simpa using hu) (by simpa using hu2) fun h' z' TO' h1' h2' hT hsz hk => ?_
  refine ⟨_, rfl, wpAny_letOwnedTupleGo_zip (s := { s with heap := h' }) z' fun h'' z'' sb => ?_⟩
  have hT2 : h''.get? s.heap.objs.size = some { cls := .type "tuple", data := .seq #[u, u2] } := (sb.2 _ (Nat.ne_of_gt hzl)).trans hT
  have new : ObjOk X.prog X.w (upd H s.heap.objs.size (.tup [x, y])) h'' s.heap.objs.size (.tup [x, y]) :=
    ⟨by show 2 ≤ sizeLine; decide, [u, u2], .cons ru (.cons ru2 .nil), ⟨_, hT2, rfl, _, rfl⟩⟩
  have I1 : Inv X pins σ (upd H s.heap.objs.size (.tup [x, y])) { s with heap := h'' } :=
    I.turnedNew (t' := s.toks) (ch := [z, TI, TO, i1, i2]) (fun c o hb q => (sb.2 c (fun q' => hb (by simp [q']))).trans (hk c o (fun q' => hb (by simp [q'])) (fun q' => hb (by simp [q'])) (fun q' => hb (by simp [q'])) (fun q' => hb (by simp [q'])) q)) hf (Nat.le_refl _) new
  refine ⟨.ref s.heap.objs.size, _, I1, rfl, ⟨_, x, y, rfl, I.hok.fresh (Nat.le_refl _), rfl, fun l hl => by rw [I.list_inj hl hqx]; exact hx, fun l hl => by rw [I.list_inj hl hqy]; exact hy⟩, ⟨z'', ?_, ⟨u, u2, ?_⟩, ?_, ?_⟩, fun c hcm => ?_⟩
  · exact (sb.2 _ D.TIz).trans (hk _ _ D.TIz D.TITO D.TIi1 D.TIi2 hTI)
  · exact (sb.2 _ D.TOz).trans TO'
  · exact h1'.at fun o q => (sb.2 _ D.i1z).trans q
  · exact h2'.at fun o q => (sb.2 _ D.i2z).trans q
  · obtain ⟨o, e, _⟩ := zt_obj (a := a) (b := b) ⟨hz, hTI, ⟨x0, y0, hTO⟩, h1, h2⟩ c hcm
    rw [upd_ne (Nat.ne_of_lt (Heap.lt_size e))]
    exact (hf c hcm).1
theorem zt_done (hot : HotI X) (D : ZipApart z TI TO i1 i2 a b) {i : Nat} {pins : List (Addr × Obj)} {s : Shared} {σ : L2.St} {H : Hp} {E : Value → Shared → Prop} (I : Inv X pins σ H s) (hf : ∀ b ∈ [z, TI, TO, i1, i2], FpOk X pins H b) (st : ZTn a b z TI TO i1 i2 i s.heap)
    (hg : (ItzH X.K a b).stop i H) : wpAny (model X.prog X.w) X.A (pyNext (.ref z)) (fun r s1 => r = none ∧ Inv X pins σ H s1) E s := by
  obtain ⟨hz, hTI, ⟨x0, y0, hTO⟩, h1, h2⟩ := st
  obtain ⟨xs, hqx, hend⟩ := hg
  obtain ⟨its, rv, p, _⟩ := I.list hqx
  have l1 := rv.length
  have he : its.toArray[i]? = none := by simp; omega
  obtain ⟨x1, h0⟩ := hot _ _ _ _ I
  have hxz : x1 ≠ z := fun q => by
    obtain ⟨_, o1, vs1, q1, d1, c1⟩ := h0
    rw [q, hz] at q1
    have q1 := Option.some.inj q1
    subst q1
    cases d1
    cases c1
  exact pyNext_zip_end_hot h0 D hz hTI hTO h1 p.isList he hxz fun h' hk => ⟨rfl, I.turnedL (t' := s.toks) (ch := [z, TI, TO, i1, i2]) (fun c o hb q =>
    hk c o (fun q' => hb (by simp [q'])) (fun q' => hb (by simp [q'])) (fun q' => hb (by simp [q'])) (fun q' => hb (by simp [q'])) q) hf⟩
end
def iZipH (K : Kf) (ta : TA) : TI := fun σ H R => ta σ H fun vs H1 => ∃ a b xs ys, vs = [.ref a, .ref b] ∧ SqL K H1 a xs ∧ SqL K H1 b ys ∧ R (ItzH K a b) H1
/-- [elt for .. in zip(e, e2) if ..] -/
theorem pe_lcZipH {X : Cx} {elt e e2 : Expr} {elts : List Expr} {kk : Nat} {ifs : List Expr} {scope : Scope} {own : List (Str × Nat)} {pos tpos zp zpos : Pos} {ta : TA} {g : TG} {tt : TT} {te : TE} {q : Addr × Obj} (hot : Hot1 X.A q) (hq : q ∈ X.pn) (hN : X.N.Nodup) (hgz : Gl X "zip") (hmz : X.mg "zip" = none)
    (ha : PA X [e, e2] ta) (ok : BlkOk X.N X.env.scope scope own)
    (hg : ∀ (s : Shared) (H : Hp) (C : Addr) (cl : List (Str × Addr)) (fp : List Addr), HotI (X.blk s H scope (compEnvC scope cl C X.env) fp) → PG (X.blk s H scope (compEnvC scope cl C X.env) fp) (.Tuple elts kk tpos) g) (ht : ∀ (s : Shared) (H : Hp) (C : Addr) (cl : List (Str × Addr)) (fp : List Addr), PTs (X.blk s H scope (compEnvC scope cl C X.env) fp) ifs tt)
    (he : ∀ (s : Shared) (H : Hp) (C : Addr) (cl : List (Str × Addr)) (fp : List Addr), PE (X.blk s H scope (compEnvC scope cl C X.env) fp) elt te)
    (hst : starEach [e, e2] X.env = (false, eval e X.env) :: starEach [e2] X.env := by rfl) (hpl : (backTo zpos (starEach [e2] X.env)).any (·.1) = false := by rfl)
    (hs : ∀ x, foldedSetIterable (.Call (.Name "zip" zp) [e, e2] [] zpos) X.env x = pure x := by intro _; rfl) :
    PE X (.ListComp elt [⟨.Tuple elts kk tpos, .Call (.Name "zip" zp) [e, e2] [] zpos, ifs, 0⟩] scope pos) (tLc (iZipH X.K ta) g tt te (own.map (·.2))) := by
  refine ⟨fun pins s σ H Q I h => ?_⟩
  rw [eval_ListComp]
  have hfree : ∀ y ∈ scope.names, y.2 = .free → ∃ c, X.env.cells.lookup y.1 = some c := fun y hy e => by
    rcases ok.free y hy e with k | k
    · exact I.ok.has _ (.inl k)
    · exact I.ok.has _ (.inr k)
  refine wpAny_comprehension_free (use := none) rfl hs (closure_ok hfree) ok.kind (fun y hy e => by rw [ok.uniq y hy, e])
    (Call_ (ld_blt I hgz hmz PyProof.Rows.boot_zip (PyProof.Rows.callWith_type1 (thn (ha.run zpos pins s σ H _ I h) fun us s1 ⟨vs, H1, I1, r1, q1⟩ => ?_) hst hpl)))
  obtain ⟨a, b, xs, ys, ex, hqx, hqy, q1⟩ := q1
  subst ex
  cases r1 with
  | cons r rr =>
  cases rr with
  | cons r' rr =>
  cases rr
  cases r
  cases r'
  obtain ⟨its, rv, p1, _⟩ := I1.list hqx
  obtain ⟨its2, rv2, p2, _⟩ := I1.list hqy
  refine call_zip_2 p1.isList p2.isList fun h' hz hTI hTO hi1 hi2 hsz hk => wpAny_pyIter_zip hz ?_
  have D := PySem.W.ktu_apart s1.heap.objs.size a b p1.lt p2.lt
  have f2 : ∀ c ∈ [s1.heap.objs.size + 4, s1.heap.objs.size + 2, s1.heap.objs.size + 3, s1.heap.objs.size, s1.heap.objs.size + 1], FpOk X pins H1 c := fun c hcm => by
    have e' : c = s1.heap.objs.size + 4 ∨ c = s1.heap.objs.size + 2 ∨ c = s1.heap.objs.size + 3 ∨ c = s1.heap.objs.size ∨ c = s1.heap.objs.size + 1 := by simpa using hcm
    have hle : s1.heap.objs.size ≤ c := by
      rcases e' with z | z | z | z | z
      · rw [z]; exact Nat.le_add_right _ _
      · rw [z]; exact Nat.le_add_right _ _
      · rw [z]; exact Nat.le_add_right _ _
      · rw [z]; exact Nat.le_refl _
      · rw [z]; exact Nat.le_add_right _ _
    exact I1.fpOk hle (I1.hok.fresh hle)
  have I2 : Inv X pins σ H1 { s1 with heap := h' } := I1.kept (t' := s1.toks) hk
  have st2 : ZTn a b (s1.heap.objs.size + 4) (s1.heap.objs.size + 2) (s1.heap.objs.size + 3) s1.heap.objs.size (s1.heap.objs.size + 1) 0 h' := ⟨hz, hTI, ⟨_, _, hTO⟩, hi1, hi2⟩
  generalize s1.heap.objs.size + 4 = z at hz D f2 st2 ⊢
  generalize s1.heap.objs.size + 2 = TI at hTI D f2 st2
  generalize s1.heap.objs.size + 3 = TO at hTO D f2 st2
  generalize s1.heap.objs.size + 1 = i2 at hi2 D f2 st2
  generalize s1.heap.objs.size = i1 at hi1 D f2 st2
  generalize hs2 : ({ s1 with heap := h' } : Shared) = s2 at I2 ⊢
  have hh2 : h' = s2.heap := by rw [← hs2]
  rw [hh2] at st2
  clear hz hTI hTO hi1 hi2 hsz hk hh2 hs2 I1 p1 p2 rv rv2 hqx hqy
  refine wpAny_newObj_type (newEnv_comp ?_) (by show 0 ≤ sizeLine; decide)
  generalize hD : s2.heap.objs.size = DD
  have hDn : H1 DD = none := I2.hok.fresh (Nat.le_of_eq hD)
  obtain ⟨W, ⟨m0, w0⟩, turn⟩ := q1 DD hDn
  generalize hs3 : ({ s2 with heap := s2.heap.push { cls := .type "list", data := .seq ([] : List Value).toArray } } : Shared) = s3
  have I3 : Inv X pins σ (upd H1 DD (.lst [])) s3 := by
    rw [← hs3]
    refine I2.laid (t' := s2.toks) (fun b o e => Heap.get?_push_of_some _ e) (Nat.le_of_eq hD) ⟨Nat.zero_le _, [], 0, .nil, ?_⟩
    rw [← hD]
    exact Heap.get?_push_size _ rfl
  have h3 : s3.heap = s2.heap.push { cls := .type "list", data := .seq ([] : List Value).toArray } := by rw [← hs3]
  have f3 : ∀ c ∈ [z, TI, TO, i1, i2], FpOk X pins (upd H1 DD (.lst [])) c ∧ c < s3.heap.objs.size := fun c hc => by
    obtain ⟨o, e, _⟩ := zt_obj st2 c hc
    have hlt := Heap.lt_size e
    refine ⟨⟨?_, (f2 c hc).2⟩, by rw [h3, Heap.size_push]; exact Nat.lt_succ_of_lt hlt⟩
    rw [upd_ne (by rw [← hD]; exact Nat.ne_of_lt hlt)]
    exact (f2 c hc).1
  have st3 := zt_keep st2 (h' := s3.heap) fun b _ o e => by rw [h3]; exact Heap.get?_push_of_some _ e
  have I4 := block_start I3 ok hN f3
  have hotB := hotI_blk I3 hot hq (fun b hb => (f3 b hb).1) scope (compEnvC scope (cellsFrom (s3.heap.objs.size + 1) scope.names (cloFrom X.env.cells scope.names [])) s3.heap.objs.size X.env)
  have pg := hg s3 (upd H1 DD (.lst [])) s3.heap.objs.size (cellsFrom (s3.heap.objs.size + 1) scope.names (cloFrom X.env.cells scope.names [])) [z, TI, TO, i1, i2] hotB
  have pt := ht s3 (upd H1 DD (.lst [])) s3.heap.objs.size (cellsFrom (s3.heap.objs.size + 1) scope.names (cloFrom X.env.cells scope.names [])) [z, TI, TO, i1, i2]
  have pe := he s3 (upd H1 DD (.lst [])) s3.heap.objs.size (cellsFrom (s3.heap.objs.size + 1) scope.names (cloFrom X.env.cells scope.names [])) [z, TI, TO, i1, i2]
  show codeAny _ _ (.compStart (.ListComp elt [⟨.Tuple elts kk tpos, .Call (.Name "zip" zp) [e, e2] [] zpos, ifs, 0⟩] scope pos) 0 (.ref z) (.ref DD) (compEnvC scope (cellsFrom (s3.heap.objs.size + 1) scope.names (cloFrom X.env.cells scope.names [])) s3.heap.objs.size X.env)) (compPost (model X.prog X.w) X.A X.xe none (EP X pins σ Q) (.ref DD) s3.heap.objs.size) { s3 with heap := pushCells (s3.heap.push { cls := .type "dict", data := .dict #[] }) scope.names }
  generalize hfp : [z, TI, TO, i1, i2] = fp at f3 I4 pg pt pe hotB
  have nfp : ∀ b ∈ fp, (upd H1 DD (.lst [])) b = none := fun b hb => (f3 b hb).1.1
  generalize hce : compEnvC scope (cellsFrom (s3.heap.objs.size + 1) scope.names (cloFrom X.env.cells scope.names [])) s3.heap.objs.size X.env = ce at I4 pg pt pe hotB ⊢
  have cL : ce.locals = s3.heap.objs.size := by subst hce; rfl
  generalize hH3 : upd H1 DD (.lst []) = H3 at I3 I4 pg pt pe w0 nfp f3 hotB
  generalize hs4 : ({ s3 with heap := pushCells (s3.heap.push { cls := .type "dict", data := .dict #[] }) scope.names } : Shared) = s4 at I4 ⊢
  have st4 := zt_keep st3 (h' := s4.heap) fun b _ o e => by rw [← hs4]; exact pushCells_keeps _ _ _ _ (Heap.get?_push_of_some _ e)
  have stat : ∀ {σ' : L2.St} {H' : Hp} {s' : Shared}, Inv (X.blk s3 H3 scope ce fp) [] σ' H' s' → (∀ b ∈ fp, H' b = none) → ∀ b ∈ fp, FpOk (X.blk s3 H3 scope ce fp) [] H' b := fun {σ' H' s'} I' hn b hb =>
    ⟨hn b hb, (I'.ok.exf b hb).1, I'.ok.exfs b hb, .inl hb, fun x c e => (I'.ok.exf b hb).2 x c e, fun p hp => absurd (show p ∈ ([] : List (Addr × Obj)) ++ [] from hp) (by simp)⟩
  have loop : codeAny (model X.prog X.w) X.A (.compLoop (.ListComp elt [⟨.Tuple elts kk tpos, .Call (.Name "zip" zp) [e, e2] [] zpos, ifs, 0⟩] scope pos) 0 (.ref z) (.ref DD) ce) (compPost (model X.prog X.w) X.A X.xe none (EP X pins σ Q) (.ref DD) s3.heap.objs.size) s4 := by
    refine compLoop_any (fun n s' => ∃ i H', Inv (X.blk s3 H3 scope ce fp) [] (wipe σ (own.map (·.2))) H' s' ∧ ZTn a b z TI TO i1 i2 i s'.heap ∧ (∀ b ∈ fp, H' b = none) ∧ W i n H') ?_ m0 ⟨0, H3, I4, st4, nfp, w0⟩
    rintro n s5 ⟨i, H5, I5, st5, n5, w5⟩
    rcases turn i n H5 w5 with ⟨stop, qq⟩ | ⟨go, Nx, hNx, step⟩
    · have td := zt_done (X := X.blk s3 H3 scope ce fp) (E := fun _ _ => False) hotB D I5 (hfp ▸ stat I5 n5) st5 stop
      refine thnF td fun r s6 ⟨hr, I6⟩ => ?_
      subst hr
      have I7 : Inv X pins σ H5 s6 := I3.call' (ch := fp) I6.os I6.base I6.hok I6.bare fun b hb => ⟨(f3 b hb).1.2.2.2.1, (f3 b hb).1.2.1, (f3 b hb).1.2.2.2.2.1, (f3 b hb).1.2.2.2.2.2⟩
      have nC : H5 s3.heap.objs.size = none := by
        have z : H5 ce.locals = none := I6.free
        rw [cL] at z
        exact z
      obtain ⟨m, hn, _⟩ := I6.loc
      have hn : s6.heap.Ns ce.locals m := hn
      rw [cL] at hn
      obtain ⟨f0, f1, f2', f3', f4, f5⟩ := I3.fpOk (Nat.le_refl _) nC
      exact ⟨m, hn, fun h'' sb => ⟨.ref DD, H5, I7.turned (t' := s6.toks) (fun b o hb e => (sb.2 b hb).trans e) f0 f1 f3' f4 f5, rfl, qq⟩⟩
    · have ti := zt_item (X := X.blk s3 H3 scope ce fp) (elts := elts) (kk := kk) (tpos := tpos) (E := fun _ _ => False) D I5 (hfp ▸ stat I5 n5) st5 go
      refine thnF ti fun r s6 ⟨u, hr, h6⟩ => ?_
      subst hr
      refine thnF h6 fun _ s7 ⟨x, H7, I7, r7, y7, st7, n7⟩ => ?_
      rw [hfp] at n7
      have ob := fun c hc => zt_obj st7 c (hfp ▸ hc)
      have I7' := I7.pinned (stat I7 n7) ob
      refine thnF (pg.run _ s7 _ H7 x u _ I7' r7 (step x H7 y7)) fun _ s8 ⟨σ8, H8, I8, hw8, q8⟩ => ?_
      refine thnF (pt.run _ s8 σ8 H8 _ I8 q8) fun bb s9 ⟨H9, I9, q9⟩ => ?_
      have fin : ∀ {s' : Shared} {H' : Hp}, Inv (X.blk s3 H3 scope ce fp) ([] ++ pinsAt fp s7.heap) σ8 H' s' → Nx H' → ∃ m, m < n ∧ ∃ i H', Inv (X.blk s3 H3 scope ce fp) [] (wipe σ (own.map (·.2))) H' s' ∧ ZTn a b z TI TO i1 i2 i s'.heap ∧ (∀ b ∈ fp, H' b = none) ∧ W i m H' := fun {s' H'} I' nx => by
        obtain ⟨m', hm, w'⟩ := hNx H' nx
        have pin' : ∀ b ∈ fp, ∀ o, s7.heap.get? b = some o → s'.heap.get? b = some o ∧ H' b = none := fun b hb o e =>
          let z := I'.pin (b, o) (List.mem_append_right _ (List.mem_append_right _ (mem_pinsAt hb e)))
          ⟨z.1, z.2.1⟩
        have hl : (wipe σ (own.map (·.2))).length = σ8.length := by rw [← hw8, wipe_length]
        refine ⟨m', hm, i + 1, H', (I'.unpinned (pins := [])).weak hl (fun j v e => ?_), zt_keep st7 fun b hb o e => (pin' b (hfp ▸ hb) o e).1, fun b hb => ?_, w'⟩
        · rw [← hw8] at e
          exact (wipe_some e).1
        · obtain ⟨o, e, _⟩ := ob b hb
          exact (pin' b hb o e).2
      cases bb with
      | false =>
        simp only [Bool.false_eq_true, if_false] at q9 ⊢
        exact fin I9 q9
      | true =>
        simp only [if_true] at q9 ⊢
        refine thnF (pe.run _ s9 σ8 H9 _ I9 q9) fun z s10 ⟨yv, H10, I10, r10, acc, hD10, hz10, nx⟩ => ?_
        exact app_ok (X := X.blk s3 H3 scope ce fp) I10 hD10 hz10 r10 fun s11 I11 => fin I11 nx
  exact codeAny_compStart_list loop (wpAny_pyIter_zip st4.1 loop)
end DL

-- H3
set_option Elab.async false
set_option linter.all false
set_option maxRecDepth 100000
set_option maxHeartbeats 4000000
/-! _law_names, within an except suite. -/
namespace PySem.W
open PySem PySem.Spec PySem.Calls PyProof.Rows
section
variable {prog : Program} {w : World} {A : Around} {E : Value → Shared → Prop} {s : Shared} {K : Frag} {x D : Addr} {ox : Obj} {od : Option Obj}
theorem dl_findObj {C : Addr} {name : Str} {a g : Value} (hc : (clsIn K C).isSome = true) (ha : findIn K (.ref C) name = some (some a)) (hg : specialIn K a "__get__" = some (some g)) (ht : takesIn K a = some true) : findObj K C od name = some (.bind g a) := by
  obtain ⟨cd, hc⟩ := Option.isSome_iff_exists.mp hc
  unfold findObj
  rw [hc, Option.bind_some, ha, Option.bind_some]
  simp [hg, ht]
theorem dl_classE {Q : Option Value → Shared → Prop} (C : L2.ExcC K D)
    (X : K.In s.heap) (I : InstAt s.heap x ox D od) (h : Q (some (.ref D)) { s with toks := s.toks + 1 }) : wpAny (model prog w) A (getAttr? (.ref x) "__class__") Q E s := by
  have hf : findObj K D od "__class__" = some (.bind (.builtin "getset_descriptor.__get__") (.builtin "object.__class__")) := dl_findObj (by obtain ⟨cd, hc, _⟩ := any_some C.hd; rw [hc]; rfl) C.ha C.hn C.ht
  obtain ⟨hp, g, d, t, os⟩ := s
  have L0 := I.type (M := model prog w)
  have L1 := looks_findIn (M := model prog w) X C.hg
  have L2 := looks_findIn (M := model prog w) X C.hk
  have L3 := looks_find (M := model prog w) X I hf
  have sub : Looks (model prog w) hp (isInstance (.ref x) (.type "BaseException")) true := L0.andThen (looks_subIn X C.hs)
  have hx0 : (false && onTheHeap (Value.builtin "BaseException.__getattribute__")) = false := rfl
  have hx2 : (Value.builtin "BaseException.__getattribute__" == Value.builtin "object.__getattribute__") = false := by decide +kernel
  have hx1 : (onTheHeap (Value.ref D) && Value.builtin "BaseException.__getattribute__" == Value.builtin "object.__getattribute__") = false := by rw [hx2]; rfl
  unfold getAttr? getAttrBy? getAttrBy
  refine wpAny_bind (wpAny_mkText (wpAny_bind (wpAny_attempt (wpAny_holding (wpAny_bind (L0.at (wpAny_bind (L1.at ?_))))))))
  show wpAny _ _ (if (onTheHeap (Value.ref D) && Value.builtin "BaseException.__getattribute__" == Value.builtin "object.__getattribute__") = true then _ else _) _ _ _
  rw [hx1, if_neg Bool.false_ne_true]
  unfold getAttrByItsOwn hookBefore
  refine wpAny_bind ?_
  rw [if_pos (show onTheHeap (Value.ref D) = true from rfl)]
  refine L2.at ?_
  refine wpAny_bind (wpAny_attempt (wpAny_holding ?_))
  unfold callGetattribute
  rw [hx0, if_neg Bool.false_ne_true]
  unfold boundAndCalled
  rw [PySem.F.excAttr_ValueError.ga.bind (.ref x)]
  refine wpAny_bind (wpAny_pure ?_)
  show wpAny _ _ (call (.builtin "BaseException.__getattribute__") [.ref x, .str "__class__" t]) _ _ _
  refine wpAny_call (codeAny_call_builtin PySem.F.excAttr_ValueError.ga.plain PySem.F.entry_bexc_ga ?_)
  refine @check_slot (model prog w) _ _ ⟨hp, g, d, t + 1, os⟩ "BaseException.__getattribute__" "BaseException" "__getattribute__" (.ref x) [.str "__class__" t] [] _ (by decide +kernel) (by decide +kernel) sub (PySem.F.args_bexc_ga (.ref x) (.str "__class__" t)) ?_
  unfold Builtin.«object.__getattribute__»
  refine wpAny_bind (wpAny_of_eq (a := ((Value.ref x : Value), [Value.str "__class__" t])) (by first | rfl | (simp only [slotArgs]; rfl)) ?_)
  refine wpAny_bind (wpAny_pure (wpAny_bind (L0.at (wpAny_bind (L3.at ?_)))))
  show wpAny _ _ (holding [Value.builtin "object.__class__"] (call (.builtin "getset_descriptor.__get__") [.builtin "object.__class__", .ref x, .ref D]) >>= ret) _ _ _
  refine wpAny_bind (wpAny_holding (wpAny_call (class_get (s := ⟨hp, g, d, t + 1, os⟩) (ox := ox) (od := od) X I C.hm ?_)))
  refine wpAny_pure ?_
  show wpAny _ _ (handedOut (.ref D)) _ _ _
  rw [handedOut_of (v := .ref D) rfl]
  first
    | exact wpAny_pure (wpAny_pure h)
    | exact wpAny_pure h
    | exact wpAny_pure (wpAny_bind (wpAny_pure (wpAny_pure h)))
theorem dl_kitx (C : L2.ExcC K D) : KitX K (.ref x) (.ref D) (fun h => ∃ ox od, InstAt h x ox D od) where
  ty := fun _ _ _ ⟨_, _, I⟩ => I.type
  it := fun _ _ X _ => by
    obtain ⟨cdD, hcD, _⟩ := any_some C.hd
    unfold clsIn at hcD
    split at hcD
    · rename_i c' d' cd' sl' ho
      intro A' Q' E' s' k q
      unfold isType loadHead
      exact wpAny_bind (wpAny_loadPart (k _ _ (X _ _ ho)) (wpAny_pure q))
    · cases hcD
  ne := fun h tp dd its n sl X htp => by
    obtain ⟨cdD, hcD, _⟩ := any_some C.hd
    refine Bool.eq_false_iff.mpr fun q => ?_
    have e : D = tp := Value.ref.inj (beq_iff_eq.mp q)
    subst e
    unfold clsIn at hcD
    split at hcD
    · rename_i c' d' cd' sl' ho
      have z := (X _ _ ho).symm.trans htp
      cases z
    · cases hcD
  ca := fun X ⟨_, _, I⟩ k => dl_classE C X I k
end
end PySem.W
namespace DL
open PySem PySem.Calls L2 PyProof.Rows PySem.Spec HotX L2H
/-- isinstance(e, c), e the exception at a that is pinned -/
def rIsP (K : Kf) (D a : Addr) (d : Option Addr) : List V → Hp → VK → Prop := fun xs H Q => ∃ (c : V) (cv : Value) (b : Bool), xs = [.ref a, c] ∧ (∀ u, RelV c u → u = cv) ∧ PySem.W.kitOne K (.ref D) cv = some b ∧ XdOk d H ∧ Q (.bl b) H
theorem cr_isP {X : Cx} {a D : Addr} {d : Option Addr} {oe : Obj} (C : ExcC X.K D) (hm : (a, oe) ∈ X.pn) (hz : L2N.Zn (.ref D) d oe) (hf : ∃ vs, oe.data = .fields vs) : CallR X (.builtin "isinstance") (rIsP X.K D a d) := by
  intro pins s σ H xs us Q I r h
  obtain ⟨c, cv, b, rfl, hcv, e, hd, q⟩ := h
  cases r with
  | cons rx rr =>
    cases rr with
    | cons rt rr =>
      cases rr
      cases rx
      have ec := hcv _ rt
      subst ec
      obtain ⟨hget, _⟩ := I.pin (a, oe) (List.mem_append_left _ hm)
      obtain ⟨vs, hv⟩ := hf
      have J : ∃ ox od, PySem.W.InstAt s.heap a ox D od := by
        obtain ⟨oc, ode, oda, osl⟩ := oe
        obtain ⟨h1, h2, _⟩ := hz
        dsimp only at h1 h2 hv
        subst h1 h2 hv
        cases ode with
        | none => exact ⟨_, none, hget, rfl, rfl, trivial⟩
        | some dx =>
          obtain ⟨fs, hx⟩ := hd
          obtain ⟨_, ⟨o, _, _, e, _⟩, _⟩ := I.hok dx _ hx
          exact ⟨_, some o, hget, rfl, rfl, e⟩
      exact PySem.W.kia_one (PySem.W.dl_kitx C) I.kIn J e (fun z => nomatch z) fun tk => ⟨.bl b, H, I.kept (t' := tk) fun _ _ z => z, rfl, q⟩
section
variable {K : Kf} {es : Es} {ta tb te to : TE}
theorem ev_isP {D a : Addr} {d : Option Addr} {i : Nat} {c : V} {cv : Value} {b : Bool} (h : es[i]? = some (.e (.ref a) d)) (hc : ∀ u, RelV c u → u = cv) (hk : PySem.W.kitOne K (.ref D) cv = some b) :
    EvD K (tCB (rIsP K D a d) (tCons (tVar i) (tCons (tC c) tNil))) es (.bool b) := ev_cb (ea_two (ev_var h) (ev_r (v := c))) fun G H vs ex k Q q => by
  obtain ⟨v, u, rfl, k1, k2⟩ := skA2 k
  obtain ⟨k1, kd⟩ := k1
  cases k1
  cases (show some u = some c from k2)
  exact ⟨c, cv, b, rfl, hc, hk, kd.ex ex, q _ G H (Gn.refl ex) (.of (.bl b))⟩
theorem wk_zipH {G : Hp} {a b : Addr} {xs ys : List V} {ds fs : List PyData} (h1 : SqL K G a xs) (h2 : DpAll K G xs ds) (h3 : SqL K G b ys) (h4 : DpAll K G ys fs) (hl : ds.length = fs.length) : Wk K (ItzH K a b) G (zipD ds fs) := fun G' H' e1 e2 =>
  ⟨fun i hi => ⟨xs, ex_l (e1.trans e2) h1, by rw [dpa_len h2]; unfold zipD at hi; rw [List.length_map, List.length_zip] at hi; omega⟩, (wk_zipL h1 h2 h3 h4 G' H' e1 e2).2⟩
theorem ei_zipH {ds fs : List PyData} {ta : TA} (h : EvA K ta es [.d (.list ds), .d (.list fs)]) (hl : ds.length = fs.length) : EvI K (iZipH K ta) es (zipD ds fs) := fun σ G H e s R r => h σ G H e s _ fun v G1 H1 g1 k1 => by
  obtain ⟨x, y, rfl, k1, k2⟩ := skA2 k1
  obtain ⟨a, xs, rfl, a1, a2⟩ := dp_lst k1
  obtain ⟨b, ys, rfl, b1, b2⟩ := dp_lst k2
  exact ⟨a, b, xs, ys, rfl, ex_l g1.s a1, ex_l g1.s b1, r _ G1 H1 g1 (wk_zipH a1 a2 b1 b2 hl)⟩
theorem dpa_strs {G : Hp} : ∀ (ys : List Str), DpAll K G (ys.map V.str) (ys.map .str)
  | [] => .nil
  | y :: ys => .cons (.str y) (dpa_strs ys)
theorem dpa_strs_eq {G : Hp} : ∀ {ys : List Str} {xs : List V}, DpAll K G xs (ys.map .str) → xs = ys.map V.str
  | [], _, h => by cases h; rfl
  | y :: ys, _, h => by
    cases h with | cons h1 h2 =>
    cases h1
    rw [dpa_strs_eq h2]; rfl
theorem ev_split {a b : Str} (h1 : EvD K to es (.str a)) (h2 : EvD K te es (.str b)) (hb : (b.length == 0) = false) (ha : a.length + 2 ≤ sizeLine) :
    EvD K (tM1 (fun x xs H Q => ∃ a b, x = .str a ∧ xs = [.str b] ∧ (b.length == 0) = false ∧ a.length + 2 ≤ sizeLine ∧ rNewStrs (Txt.split a b) H Q) to te) es (.list ((Txt.split a b).map .str)) := fun σ G H e s Q q => h1 σ G H e s _ fun v G1 H1 g1 k1 => by
  have k1 := k1.dp
  cases k1
  refine ⟨⟨a, rfl⟩, h2 σ G1 H1 g1.s (s.ex g1.g) _ fun u G2 H2 g2 k2 => ?_⟩
  have k2 := k2.dp
  cases k2
  exact ⟨a, b, rfl, rfl, hb, ha, fun p hp => q _ _ _ ((g1.trans g2).trans (Gn.new g2.s hp)) (.of (.lst (SqL.of upd_same) (dpa_strs _)))⟩
theorem ev_join {a : Str} {ys : List Str} (h1 : EvD K to es (.str a)) (h2 : EvD K te es (.list (ys.map .str))) (hz : (ys.map (·.length)).sum + ys.length * a.length ≤ 16777216) :
    EvD K (tM1 (fun x xs H Q => ∃ a p, ∃ ys : List Str, x = .str a ∧ xs = [.ref p] ∧ (SqL K H p (ys.map V.str) ∨ SqT K H p (ys.map V.str)) ∧
      (ys.map (·.length)).sum + ys.length * a.length ≤ 16777216 ∧ Q (.str (Txt.join a ys)) H) to te) es (.str (Txt.join a ys)) := fun σ G H e s Q q => h1 σ G H e s _ fun v G1 H1 g1 k1 => by
  have k1 := k1.dp
  cases k1
  refine ⟨⟨a, rfl⟩, h2 σ G1 H1 g1.s (s.ex g1.g) _ fun u G2 H2 g2 k2 => ?_⟩
  obtain ⟨p, xs, rfl, a1, a2⟩ := dp_lst k2
  rw [dpa_strs_eq a2] at a1
  exact ⟨a, p, ys, rfl, rfl, .inl (ex_l g2.s a1), hz, q _ _ _ (g1.trans g2) (.of (.str _))⟩
end
def labels : List Str := ["field", "plane", "point", "things", "number", "row", "unlike", "many", "value"]
def labTxt : Str := "field plane point things number row unlike many value"
theorem lab_split : Txt.split labTxt " " = labels := by decide +kernel
def namesOf (bs : List Bool) : List Str := ((labels.zip bs).filter fun p => p.2).map fun p => p.1
theorem sh_bools (bs : List Bool) (h : bs.length = 9) : ((namesOf bs).map (·.length)).sum + (namesOf bs).length * (Str.length " ") ≤ 16777216 := by
  obtain ⟨b1, b2, b3, b4, b5, b6, b7, b8, b9, rfl⟩ : ∃ b1 b2 b3 b4 b5 b6 b7 b8 b9, bs = [b1, b2, b3, b4, b5, b6, b7, b8, b9] := by
    match bs, h with
    | [b1, b2, b3, b4, b5, b6, b7, b8, b9], _ => exact ⟨_, _, _, _, _, _, _, _, _, rfl⟩
  revert b1 b2 b3 b4 b5 b6 b7 b8 b9
  decide +kernel
end DL

-- H4
set_option Elab.async false
set_option linter.all false
set_option maxRecDepth 100000
set_option maxHeartbeats 4000000
/-! _law_names, walked within an except suite. -/
namespace DL
open PySem PySem.Calls L2 PyProof.Rows PySem.Spec HotX L2H
/-- the own classes by name -/
structure Cls9 (mg : Str → Option Value) (c1 c2 c3 c4 c5 c6 c7 c8 : Addr) : Prop where
  g1 : mg "InvalidField" = some (.ref c1)
  g2 : mg "InvalidPlane" = some (.ref c2)
  g3 : mg "InvalidPoint" = some (.ref c3)
  g4 : mg "InvalidCars" = some (.ref c4)
  g5 : mg "InvalidNumber" = some (.ref c5)
  g6 : mg "InvalidRow" = some (.ref c6)
  g7 : mg "Unlike" = some (.ref c7)
  g8 : mg "TooMany" = some (.ref c8)
  g9 : mg "ValueError" = none
/-- what isinstance says of D's instances -/
structure Lab9 (K : Kf) (D c1 c2 c3 c4 c5 c6 c7 c8 : Addr) (b1 b2 b3 b4 b5 b6 b7 b8 b9 : Bool) : Prop where
  k1 : PySem.W.kitOne K (.ref D) (.ref c1) = some b1
  k2 : PySem.W.kitOne K (.ref D) (.ref c2) = some b2
  k3 : PySem.W.kitOne K (.ref D) (.ref c3) = some b3
  k4 : PySem.W.kitOne K (.ref D) (.ref c4) = some b4
  k5 : PySem.W.kitOne K (.ref D) (.ref c5) = some b5
  k6 : PySem.W.kitOne K (.ref D) (.ref c6) = some b6
  k7 : PySem.W.kitOne K (.ref D) (.ref c7) = some b7
  k8 : PySem.W.kitOne K (.ref D) (.ref c8) = some b8
  k9 : PySem.W.kitOne K (.ref D) (.type "ValueError") = some b9
abbrev s__law_names : Stmt := topS 43
abbrev N__law_names : List Str := ["_law_e", "_law_some", "_law_labels", "_law_label_so", "_law_good"]
theorem sc__law_names : FnScope N__law_names ["_law_e"] (defScope s__law_names) := ⟨rfl, rfl, rfl, by decide +kernel, rfl, by decide +kernel, by decide +kernel⟩
theorem rv_ref {C : Addr} : ∀ u, RelV (.ref C) u → u = Value.ref C := fun _ h => h
section
variable {P : Program} {w : World} {K : Kf} {mg : Str → Option Value} {base : Heap}
variable {D c1 c2 c3 c4 c5 c6 c7 c8 : Addr} {b1 b2 b3 b4 b5 b6 b7 b8 b9 : Bool}
theorem names_body (T : Bl mg) (CC : Cls9 mg c1 c2 c3 c4 c5 c6 c7 c8) (L : Lab9 K D c1 c2 c3 c4 c5 c6 c7 c8 b1 b2 b3 b4 b5 b6 b7 b8 b9) (EC : ExcC K D) {f : Addr} {cdv : Value} {A : Around} {outer : List Env} {s : Shared} {H : Hp} {E : XK} {a : Addr} {oe : Obj} {d : Option Addr}
    (hz : L2N.Zn (.ref D) d oe) (hv : ∃ vs, oe.data = .fields vs) (hot : Hot1 A (a, oe)) :
    ∃ t, PSs (cxH CX0 P w K mg base N__law_names "_law_names" (defScope s__law_names) f cdv A outer s H E (a, oe)) (defBody s__law_names) t ∧
      Run K t [.e (.ref a) d, .no, .no, .no, .no] [] { nx := fun _ _ => False, rt := fun x _ => x = .d (.str (Txt.join " " (namesOf [b1, b2, b3, b4, b5, b6, b7, b8, b9]))) } := by
  have hm : (a, oe) ∈ (cxH CX0 P w K mg base N__law_names "_law_names" (defScope s__law_names) f cdv A outer s H E (a, oe)).pn := List.mem_cons_self ..
  have ci : CallR (cxH CX0 P w K mg base N__law_names "_law_names" (defScope s__law_names) f cdv A outer s H E (a, oe)) (.builtin "isinstance") (rIsP K D a d) := cr_isP EC hm hz hv
  have hot' : Hot1 (cxH CX0 P w K mg base N__law_names "_law_names" (defScope s__law_names) f cdv A outer s H E (a, oe)).A (a, oe) := hot
  refine ⟨_, (pss_cons (ps_set (i := 1) sc__law_names.nd rfl (.inl rfl) (pe_lst (pa_cons (pe_callB ci (by rfl) T.isinstance (by decide +kernel) (pa_cons (pv 0) (pa_cons (pe_glob (v := .ref c1) (by rfl) CC.g1 rfl) pa_nil)))
      (pa_cons (pe_callB ci (by rfl) T.isinstance (by decide +kernel) (pa_cons (pv 0) (pa_cons (pe_glob (v := .ref c2) (by rfl) CC.g2 rfl) pa_nil))) (pa_cons (pe_callB ci (by rfl) T.isinstance (by decide +kernel) (pa_cons (pv 0) (pa_cons (pe_glob (v := .ref c3) (by rfl) CC.g3 rfl) pa_nil))) pa_nil)))))
    (pss_cons (ps_set (i := 1) sc__law_names.nd rfl (.inl rfl) (pe_op (opK_catS (K := K)) (pv 1) (pe_lst (pa_cons (pe_callB ci (by rfl) T.isinstance (by decide +kernel) (pa_cons (pv 0) (pa_cons (pe_glob (v := .ref c4) (by rfl) CC.g4 rfl) pa_nil)))
      (pa_cons (pe_callB ci (by rfl) T.isinstance (by decide +kernel) (pa_cons (pv 0) (pa_cons (pe_glob (v := .ref c5) (by rfl) CC.g5 rfl) pa_nil))) (pa_cons (pe_callB ci (by rfl) T.isinstance (by decide +kernel) (pa_cons (pv 0) (pa_cons (pe_glob (v := .ref c6) (by rfl) CC.g6 rfl) pa_nil))) pa_nil))))))
    (pss_cons (ps_set (i := 1) sc__law_names.nd rfl (.inl rfl) (pe_op (opK_catS (K := K)) (pv 1) (pe_lst (pa_cons (pe_callB ci (by rfl) T.isinstance (by decide +kernel) (pa_cons (pv 0) (pa_cons (pe_glob (v := .ref c7) (by rfl) CC.g7 rfl) pa_nil)))
      (pa_cons (pe_callB ci (by rfl) T.isinstance (by decide +kernel) (pa_cons (pv 0) (pa_cons (pe_glob (v := .ref c8) (by rfl) CC.g8 rfl) pa_nil))) (pa_cons (pe_callB ci (by rfl) T.isinstance (by decide +kernel) (pa_cons (pv 0) (pa_cons (pe_bltn (v := .ty "ValueError") (u := .type "ValueError") (by rfl) CC.g9 (by decide +kernel) rfl) pa_nil))) pa_nil))))))
    (pss_cons (ps_set (i := 2) sc__law_names.nd rfl (.inl rfl) pe_str)
    (pss_one (ps_ret (pe_join pe_str (pe_lcZipH (own := [("_law_label_so", 3), ("_law_good", 4)]) (g := gTup K 2 (gCons (gName 3) (gCons (gName 4) gNil))) hot' hm sc__law_names.nd (by rfl) T.zip (pa_cons (pe_split (pv 2) pe_str) (pa_cons (pv 1) pa_nil))
      (blkOk_by (own := [("_law_label_so", 3), ("_law_good", 4)]) (N := N__law_names) (sc := defScope s__law_names) (by decide +kernel))
      (fun _ _ _ _ _ hI => pg_tupH hI (pgs_cons (pg_name (i := 3) sc__law_names.nd rfl (Or.inl rfl)) (pgs_cons (pg_name (i := 4) sc__law_names.nd rfl (Or.inl rfl)) pgs_nil)))
      (fun _ _ _ _ _ => pts_one (pt_val (pv 4))) (fun _ _ _ _ _ => pv 3))))))))), ?_⟩
  refine run_seq (run_asg (x := .d (.list ([b1, b2, b3].map .bool))) (ev_lstD (ead_cons (ev_isP rfl rv_ref L.k1) (ead_cons (ev_isP rfl rv_ref L.k2) (ead_cons (ev_isP rfl rv_ref L.k3) ead_nil)))) ?_)
  refine run_seq (run_asg (x := .d (.list ([b1, b2, b3, b4, b5, b6].map .bool))) (ev_catL (ds := [b1, b2, b3].map .bool) (fs := [b4, b5, b6].map .bool) (ev_var rfl) (ev_lstD (ead_cons (ev_isP rfl rv_ref L.k4) (ead_cons (ev_isP rfl rv_ref L.k5) (ead_cons (ev_isP rfl rv_ref L.k6) ead_nil)))) (show 3 + 3 ≤ 100000 by decide)) ?_)
  refine run_seq (run_asg (x := .d (.list ([b1, b2, b3, b4, b5, b6, b7, b8, b9].map .bool))) (ev_catL (ds := [b1, b2, b3, b4, b5, b6].map .bool) (fs := [b7, b8, b9].map .bool) (ev_var rfl) (ev_lstD (ead_cons (ev_isP rfl rv_ref L.k7) (ead_cons (ev_isP rfl rv_ref L.k8) (ead_cons (ev_isP rfl (fun _ h => h) L.k9) ead_nil)))) (show 6 + 3 ≤ 100000 by decide)) ?_)
  refine run_seq (run_asg (x := .d (.str labTxt)) ev_str ?_)
  generalize hbs : [b1, b2, b3, b4, b5, b6, b7, b8, b9] = bs
  have hl : bs.length = 9 := by rw [← hbs]; rfl
  refine run_ret (x := .d (.str (Txt.join " " (namesOf bs)))) ?_ rfl
  refine ev_join ev_str ?_ (sh_bools bs hl)
  refine (ev_lcM (js := [3, 4]) (fun p : Str × Bool => PyData.tuple [.str p.1, .bool p.2]) (labels.zip bs) (fun p => p.2) (fun p => .str p.1) ((ei_zipH (ds := labels.map .str) (fs := bs.map .bool) (ea_two ((ev_split (ev_var (x := .d (.str labTxt)) rfl) ev_str (by decide +kernel) (by decide +kernel)).to (by rw [lab_split])) (ev_var rfl)) (by rw [List.length_map, List.length_map, hl]; rfl)).to ?_) (fun a b q => ?_) (fun p _ => ⟨_, eg_tup2, et_B (ev_var rfl), fun _ => ev_var rfl⟩) (by decide) (by rw [List.length_zip, hl]; decide)).to (by unfold namesOf; rw [List.map_map]; rfl)
  · unfold zipD
    rw [List.zip_map, List.map_map]
    rfl
  · injection q with q
    injection q with q1 q2
    injection q2 with q2 _
    injection q1 with q1
    injection q2 with q2
    exact Prod.ext q1 q2
theorem names_run {k : Nat} {f : Addr} {fd : FuncData} (F : Fun K "_law_names" "_law_names" s__law_names f fd) (T : Bl mg) (CC : Cls9 mg c1 c2 c3 c4 c5 c6 c7 c8) (L : Lab9 K D c1 c2 c3 c4 c5 c6 c7 c8 b1 b2 b3 b4 b5 b6 b7 b8 b9) (EC : ExcC K D) {A : Around} {outer : List Env} {s : Shared} {H : Hp} {E : XK} {a : Addr} {oe : Obj} {d : Option Addr}
    (hz : L2N.Zn (.ref D) d oe) (hv : ∃ vs, oe.data = .fields vs) (hot : Hot1 A (a, oe)) (hr : RoomH (k + 1) A) (hpin : PinOk outer H s (a, oe)) (e0 : Env0 P w K mg base A outer s H) (hx : XdOk d H) {Q : VK} (q : ∀ H', Ex H H' → Q (.str (Txt.join " " (namesOf [b1, b2, b3, b4, b5, b6, b7, b8, b9]))) H') :
    codeAny (model P w) A (.call (.ref f) ⟨[.ref a], []⟩) (CR CX0 outer P w H s Q E) s := by
  have hb := F.binds (ps := ["_law_e"]) fun _ _ _ _ _ _ us hl => match us, hl with | [_], _ => rfl
  obtain ⟨oc, od, kV, doc, pm, an, cdv, ct, osl, rfl, lk, hcd⟩ := F.ex
  have S := sc__law_names
  have KX : K.In s.heap := e0.mod.kin.keeps fun b o e => (e0.bs b o e).1
  have lim : s.heap.NoLimit := e0.mod.nolimit.keeps fun b o e => (e0.bs b o e).1
  have b := hb s [.ref a] KX rfl
  have hkind : ∀ y ∈ (["_law_e"] : List Str).zip [Value.ref a], (defScope s__law_names).names.lookup y.1 = some .local ∨ ((defScope s__law_names).names.lookup y.1 = some .cell ∧ ((cellsFrom (s.heap.objs.size + 1) (defScope s__law_names).names []).lookup y.1).isSome = true) := fun ⟨n, v⟩ hy => by
    rcases S.par n (List.of_mem_zip hy).1 with q | q
    · exact .inl q
    · exact .inr ⟨q, PySem.W.cellsFrom_some _ _ _ (.inl q)⟩
  refine codeAny_call_function hr.depth (KX _ _ lk) rfl S.co S.gen rfl (PySem.W.codeRec_of KX hcd) (b _ _ _ _ ?_)
  refine wpAny_newFunctionEnv_cells S.kind hkind fun env he s1 x => ?_
  subst he
  refine ⟨lim.keeps x.toInCall.keep, codeAny_func ?_⟩
  obtain ⟨t, ht, hq⟩ := names_body (P := P) (w := w) (base := base) T CC L EC (f := f) (cdv := cdv) (outer := outer) (s := s) (H := H) (E := E) hz hv hot
  have I : Inv (cxH CX0 P w K mg base N__law_names "_law_names" (defScope s__law_names) f cdv A outer s H E (a, oe)) [] (L2.start N__law_names [.ref a]) H s1 := inv_startH S hpin e0 (vs := [.ref a]) (us := [.ref a]) rfl (.cons rfl .nil) x
  have hs : Sd K H (L2.start N__law_names [.ref a]) [.e (.ref a) d, .no, .no, .no, .no] := sd_start (NN := N__law_names) (vs := [.ref a]) (xs := [.e (.ref a) d]) (.cons ⟨rfl, hx⟩ .nil) (show 1 ≤ 5 by decide)
  have hq := hq _ H H (Ex.refl H) hs So.nil { nx := fun _ H' => Q .non H', rt := Q } ⟨fun _ _ _ _ _ _ _ _ n => n.elim, fun v G' H' x ow' g k o n => by
    subst n
    have k := k.dp
    cases k
    exact q H' (g.g.trans g.s), fun _ _ _ _ _ _ _ _ n => n.elim, fun _ _ _ _ _ _ _ _ n => n.elim⟩
  refine wpAny_mono (ht.run [] s1 (L2.start N__law_names [.ref a]) H _ I hq) (fun fl s' hs => ?_) fun e s' hs => hs
  have fin : ∀ {σ' : L2.St} {H' : Hp} {v : V} {u : Value}, Inv (cxH CX0 P w K mg base N__law_names "_law_names" (defScope s__law_names) f cdv A outer s H E (a, oe)) [] σ' H' s' → RelV v u → Q v H' → CE outer P w H s Q u s' :=
    fun {σ' H' v u} J rv q => ⟨v, H', J.os, J.bare, J.base, J.hok, rv, q⟩
  cases fl with
  | ret u =>
    obtain ⟨v, σ', H', J, rv, q⟩ := hs
    exact fin J rv q
  | next =>
    obtain ⟨σ', H', J, q⟩ := hs
    exact fin (v := V.non) (u := Value.none) J rfl q
  | brk =>
    obtain ⟨_, _, _, q⟩ := hs
    exact False.elim q
  | cont =>
    obtain ⟨_, _, _, q⟩ := hs
    exact False.elim q
/-- _law_names(e), in the suite that holds e -/
theorem pe_names {X : Cx} {k i : Nat} {f : Addr} {fd : FuncData} {y : Str} {a : Addr} {oe : Obj} {d : Option Addr} {p1 p2 pos : Pos} (F : Fun X.K "_law_names" "_law_names" s__law_names f fd) (hm : X.mg "_law_names" = some (.ref f)) (T : Bl X.mg) (CC : Cls9 X.mg c1 c2 c3 c4 c5 c6 c7 c8)
    (L : Lab9 X.K D c1 c2 c3 c4 c5 c6 c7 c8 b1 b2 b3 b4 b5 b6 b7 b8 b9) (EC : ExcC X.K D) (hz : L2N.Zn (.ref D) d oe) (hv : ∃ vs, oe.data = .fields vs) (hot : Hot1 X.A (a, oe)) (hp : (a, oe) ∈ X.pn) (hr : RoomH (k + 1) X.A) (hg : Gl X "_law_names") (he : PE X (.Name y p2) (tVar i))
    (hst : starEach [.Name y p2] X.env = (false, eval (.Name y p2) X.env) :: starEach [] X.env := by rfl) :
    PE X (.Call (.Name "_law_names" p1) [.Name y p2] [] pos) (fun σ H Q => σ[i]? = some (some (.ref a)) ∧ XdOk d H ∧ ∀ H', Ex H H' → Q (.str (Txt.join " " (namesOf [b1, b2, b3, b4, b5, b6, b7, b8, b9]))) H') := by
  refine ⟨fun pins s σ H Q I h => ?_⟩
  obtain ⟨h1, h2, h3⟩ := h
  refine wpAny_Call_Name_kw (ld_glob I hg hm ?_ (by decide))
  refine PySem.W.callWith_K (h₀ := X.base) I.ok.mod.kin F.kp (PyProof.Rows.args_cons (thn (he.run pins s σ H (fun v H1 => v = .ref a ∧ H1 = H) I ⟨.ref a, h1, rfl, rfl⟩) fun u s1 ⟨v, H1, I1, r1, q1⟩ => PyProof.Rows.args_nil ?_) hst) hst (by rfl)
  obtain ⟨ev, eH⟩ := q1
  subst ev
  rw [eH] at I1
  obtain rfl : u = Value.ref a := r1
  refine ⟨I1.kIn, ?_⟩
  have P1 := I1.pin (a, oe) (List.mem_append_left _ hp)
  have hpin : PinOk X.stack H s1 (a, oe) := ⟨P1.1, P1.2.1, fun hm => (List.mem_cons.mp (I1.stkSub a hm)).elim P1.2.2.1 P1.2.2.2.1, P1.2.2.2.2⟩
  refine wpAny_call (codeAny_mono (names_run (E := fun _ _ _ => False) F T CC L EC hz hv hot hr hpin I1.env0 h2 h3) fun r s' hq => ?_)
  cases r with
  | error e => exact (show False from hq).elim
  | ok fl =>
    cases fl with
    | ret u => exact I1.after hq
    | next => exact False.elim hq
    | brk => exact False.elim hq
    | cont => exact False.elim hq
end
end DL

-- L1
set_option Elab.async false
set_option linter.all false
set_option maxRecDepth 100000
set_option maxHeartbeats 4000000
/-! A lambda made and handed to _law_error. -/
namespace DL
open PySem PySem.Calls L2 PyProof.Rows PySem.Spec L2H LamX
/-- all but P's table stays -/
def ExtP (P : Addr) (H H' : Hp) : Prop := ∀ b o, H b = some o → b ≠ P → H' b = some o
theorem ExtP.refl (P : Addr) (H : Hp) : ExtP P H H := fun _ _ h _ => h
section
variable {X : Cx} {pins : List (Addr × Obj)} {σ : L2.St} {H HZ : Hp} {s s1 : Shared}
theorem lam_makeN {c P : Addr} {params : Arguments} {body : Expr} {scope : Scope} {pos : Pos} {E : Value → Shared → Prop} {Q : Value → Shared → Prop} (I : Inv X pins σ H s) (TB : TabB X.base X.mg c P) (hcode : X.env.code = .ref c)
    (hT : TabS H P (X.env.qual ++ "<lambda>")) (hdef : defaultsOf params X.env = ([], [])) (hfree : ∀ y ∈ scope.names, y.2 = .free → ∃ c, X.env.cells.lookup y.1 = some c)
    (h : ∀ (f c' : Addr) (pm ctv : Value) (H1 : Hp) (s' : Shared), Inv X pins σ H1 s' → ExtP P H H1 → TabS H1 P (X.env.qual ++ "<lambda>") →
      s'.heap.get? f = some (PySem.W.kla_obj "<lambda>" (X.env.qual ++ "<lambda>") params body scope (cloFrom X.env.cells scope.names []) pm c' ctv) → H1 f = none → f ∉ frs X.stack → H1 c' = some (CodeO c' (X.env.qual ++ "<lambda>")) → Q (.ref f) s') :
    wpAny (model X.prog X.w) X.A (eval (.Lambda params body scope pos) X.env) Q E s := by
  obtain ⟨ps, hP, ht, ha⟩ := hT
  refine PySem.W.kla_eval hdef ?_
  have bP : s.heap.BuiltinsAt X.mg P := TB.bm.keeps I.bk
  have hP' : s.heap.get? P = some { cls := .none, data := .fields ps } := I.hok P _ hP
  have nofr : ∀ f, s.heap.objs.size ≤ f → f ∉ frs X.stack := fun f hf z => by
    rcases List.mem_cons.mp (I.stkSub _ z) with e | e
    · have h1 := I.lt
      rw [← e] at h1
      exact Nat.lt_irrefl _ (Nat.lt_of_lt_of_le h1 hf)
    · exact I.nofs hf e
  cases hc : codeAmong pos ps.toList with
  | none =>
    refine PySem.W.kla_makeFunction (mg := X.mg) (c := c) (P := P) (ps := ps) (closure_ok hfree) I.ok.glob (I.mod.glob.keeps I.bk) hcode (TB.code.keeps I.bk) hP' ht hc TB.gP bP fun c' ctv h' tk hx hge hlt hrec htb => ?_
    obtain ⟨c2, oc, vs, t, e2, hoc, hd, hv⟩ := hrec
    cases e2
    have hsz : s.heap.objs.size ≤ h'.objs.size := Nat.le_trans hge (Nat.le_of_lt hlt)
    have nC : H c' = none := I.hok.fresh hge
    have I1 := inv_table (t' := tk) (more := #[rawInt pos.line, rawInt pos.col, .ref c']) (h' := h'.push (PySem.W.kla_obj "<lambda>" (X.env.qual ++ "<lambda>") params body scope (cloFrom X.env.cells scope.names []) ((X.mg "__name__").getD .none) c' ctv)) I hP
      (fun b o hb e => Heap.get?_push_of_some _ (hx b o hb e)) (Heap.get?_push_of_some _ htb) hge ⟨oc, vs, t, Heap.get?_push_of_some _ hoc, hd, hv⟩
    have hE : ExtP P H (upd (upd H P (.tbl (ps ++ #[rawInt pos.line, rawInt pos.col, .ref c']))) c' (CodeO c' (X.env.qual ++ "<lambda>"))) := fun b o e n => by
      rw [upd_ne (ne_of_none e nC), upd_ne n]
      exact e
    have eL : (ps ++ #[rawInt pos.line, rawInt pos.col, .ref c']).toList = ps.toList ++ [rawInt pos.line, rawInt pos.col, .ref c'] := by simp
    have nPT : ∀ c0, H c0 = some (CodeO c0 (X.env.qual ++ "<lambda>")) → c0 ≠ P := fun c0 e z => by
      rw [z, hP] at e
      exact codeO_ne ps (Option.some.inj e).symm
    refine h h'.objs.size c' ((X.mg "__name__").getD .none) ctv _ _ I1 hE ⟨_, by rw [upd_ne (ne_of_none hP nC), upd_same], by rw [eL]; exact PySem.TriplesOk_snoc _ _ _ _ ht, fun p' cv hcv => ?_⟩ (Heap.get?_push_size _ rfl) ?_ (nofr _ hsz) upd_same
    · rw [eL] at hcv
      rcases among_app _ ht hcv with z | z
      · obtain ⟨c0, e1, e2⟩ := ha p' cv z
        exact ⟨c0, e1, hE _ _ e2 (nPT _ e2)⟩
      · exact ⟨c', z, upd_same⟩
    · have n1 : h'.objs.size ≠ c' := Nat.ne_of_gt hlt
      have n2 : h'.objs.size ≠ P := Nat.ne_of_gt (Nat.lt_of_lt_of_le (Heap.lt_size hP') hsz)
      rw [upd_ne n1, upd_ne n2]
      exact I.hok.fresh hsz
  | some cv =>
    obtain ⟨c', e, hco⟩ := ha pos cv hc
    subst e
    refine PySem.W.kla_makeFunctionHit (mg := X.mg) (c := c) (P := P) (ps := ps) (closure_ok hfree) I.ok.glob (I.mod.glob.keeps I.bk) hcode (TB.code.keeps I.bk) hP' ht hc bP fun ctv h' tk hx hsz => ?_
    have I1 : Inv X pins σ H { s with heap := h'.push (PySem.W.kla_obj "<lambda>" (X.env.qual ++ "<lambda>") params body scope (cloFrom X.env.cells scope.names []) ((X.mg "__name__").getD .none) c' ctv), toks := tk } := I.kept fun b o e => Heap.get?_push_of_some _ (hx b o e)
    exact h h'.objs.size c' ((X.mg "__name__").getD .none) ctv H _ I1 (ExtP.refl P H) ⟨ps, hP, ht, ha⟩ (Heap.get?_push_size _ rfl) (I.hok.fresh hsz) (nofr _ hsz) hco
/-- the lambda's context -/
def lamN (X : Cx) (A : Around) (outer : List Env) (s : Shared) (H : Hp) (E : XK) (scope : Scope) (f c' : Addr) : Cx :=
  (lamCx X A outer s H E scope f c').tr [] fun e s' => wpAny (model X.prog X.w) (A.deeper (lamEnv X scope s.heap.objs.size f c')) (leaving (lamEnv X scope s.heap.objs.size f c') e) (fun _ s'' => L2N.CX X.prog X.w outer H s E e s'') (fun e' s'' => L2N.CX X.prog X.w outer H s E e' s'') s'
theorem lamN_takes {A : Around} {outer : List Env} {E : XK} {scope : Scope} {f c' : Addr} : L2N.Takes (lamN X A outer s H E scope f c') (fun cls d _ H => E cls d H) := L2N.takes_of rfl rfl rfl rfl
theorem pe_actN {CXg : CXT} {Eg : XK} {Ng : List Str} {qg : Str} {sg : Scope} {g f c' : Addr} {cdg pm ctv : Value} {params : Arguments} {body : Expr} {scope : Scope} {k i : Nat} {a : Str} {pn : List (Addr × Obj)} {xe : Value → Shared → Prop} {W : WX} {t : XK → TE} {p1 p2 : Pos}
    (I : Inv X pins σ H s) (L : LamS X.env.scope scope) (hf : s.heap.get? f = some (PySem.W.kla_obj "<lambda>" (X.env.qual ++ "<lambda>") params body scope (cloFrom X.env.cells scope.names []) pm c' ctv)) (hfn : H f = none) (hfr : f ∉ frs X.stack)
    (hbind : bindArgs (PySem.W.kla_fn "<lambda>" (X.env.qual ++ "<lambda>") params body scope (cloFrom X.env.cells scope.names []) pm (.ref c') ctv) ⟨[], []⟩ = pure [])
    (tk : L2N.Takes ((cxOf CXg X.prog X.w X.K X.mg X.base Ng qg sg g cdg X.A X.stack s H Eg).tr pn xe) W) (hr : Room (k + 1) (X.A.deeper (envOfC qg sg s.heap.objs.size g cdg)))
    (hbody : ∀ (A : Around) (outer : List Env) (s : Shared) (H : Hp) (E : XK), Room k (A.deeper (lamEnv X scope s.heap.objs.size f c')) → PE (lamN X A outer s H E scope f c') body (t E))
    (hN : Ng[i]? = some a) (hv : Vis sg a) (hd : (a == ("__debug__" : Str)) = false := by decide) (hcd : (a == ("__classdict__" : Str)) = false := by decide) :
    PE ((cxOf CXg X.prog X.w X.K X.mg X.base Ng qg sg g cdg X.A X.stack s H Eg).tr pn xe) (.Call (.Name a p1) [] [] p2)
      (fun σZ HZ Q => σZ[i]? = some (some (.ref f)) ∧ HZ c' = some (CodeO c' (X.env.qual ++ "<lambda>")) ∧ t (WE W σZ) σ HZ Q) := by
  refine ⟨fun pinsZ sZ σZ HZ Q IZ h => ?_⟩
  obtain ⟨hs, hc, ht⟩ := h
  refine wpAny_Call_Name_kw (thn ((pe_var (pos := p1) (i := i) hN hv hd hcd).run pinsZ sZ σZ HZ (fun v H1 => v = .ref f ∧ H1 = HZ) IZ ⟨.ref f, hs, rfl, rfl⟩) fun u s1 ⟨v, H1, I1, r1, q1⟩ => ?_)
  obtain ⟨ev, eH⟩ := q1
  subst ev
  rw [eH] at I1
  obtain rfl : u = Value.ref f := r1
  have of1 : s1.heap.get? f = some (PySem.W.kla_obj "<lambda>" (X.env.qual ++ "<lambda>") params body scope (cloFrom X.env.cells scope.names []) pm c' ctv) := I1.base.keep f _ hf hfn hfr (fun z => nomatch (show f ∈ ([] : List Addr) from z))
  refine PySem.W.callWith_F0 ⟨_, _, _, _, of1⟩ ?_
  have un : Un (frs X.stack) [] H HZ s.heap s1.heap := I1.base
  obtain ⟨⟨oc, vs, t, hoc, hdc, hvc⟩, _, _⟩ := I1.hok c' _ hc
  have rc : codeAny (model X.prog X.w) (X.A.deeper (envOfC qg sg s.heap.objs.size g cdg)) (.call (.ref f) ⟨[], []⟩) (CR (L2N.CX X.prog X.w) (envOfC qg sg s.heap.objs.size g cdg :: X.stack) X.prog X.w HZ s1 Q (WE W σZ)) s1 := by
    refine PySem.W.kla_callFunE hr.depth of1 rfl L.co L.gen rfl ⟨c', oc, vs, t, rfl, hoc, hdc, hvc⟩ ?_
    rw [hbind]
    refine wpAny_pure (wpAny_newFunctionEnv (fun y hy => (L.own y hy).2) (fun y hy => absurd hy (by simp)) (fun h₁ hns hsb => ⟨I1.nolimit.fresh _ hsb, ?_⟩) L.kind)
    show codeAny _ _ (.expr body (lamEnv X scope s1.heap.objs.size f c')) _ _
    have kp : ∀ b o, s1.heap.get? b = some o → h₁.get? b = some o := fun b o e => hsb.extBut b o (Nat.ne_of_lt (Heap.lt_size e)) (Heap.get?_push_of_some _ e)
    have J : Inv (lamCx X (X.A.deeper (envOfC qg sg s.heap.objs.size g cdg)) (envOfC qg sg s.heap.objs.size g cdg :: X.stack) s1 HZ (WE W σZ) scope f c') [] σ HZ { s1 with heap := h₁, toks := s1.toks + ([] : List (Str × Value)).length } :=
      lam_start2 I L I1.env0 hr.hd un hns kp
    have J2 : Inv (lamN X (X.A.deeper (envOfC qg sg s.heap.objs.size g cdg)) (envOfC qg sg s.heap.objs.size g cdg :: X.stack) s1 HZ (WE W σZ) scope f c') [] σ HZ { s1 with heap := h₁, toks := s1.toks + ([] : List (Str × Value)).length } := J.toTry _
    refine PySem.W.kla_codeExpr (wpAny_mono ((hbody _ _ s1 HZ _ (hr.deeper _)).run [] _ _ HZ Q J2 ht) (fun v s' hq => ?_) fun e s' hq => hq)
    obtain ⟨w', H', J', rv, q⟩ := hq
    exact ⟨w', H', J'.os, J'.bare, J'.base, J'.hok, rv, q⟩
  have hx := L2N.passAt tk σZ
  refine wpAny_call (codeAny_mono rc fun r s' hq => ?_)
  cases r with
  | error e => exact hx pinsZ HZ s1 e s' I1 hq
  | ok fl =>
    cases fl with
    | ret u => exact I1.after hq
    | next => exact False.elim hq
    | brk => exact False.elim hq
    | cont => exact False.elim hq
end
abbrev s__law_error : Stmt := topS 44
abbrev N__law_error : List Str := ["_law_call", "_law_e"]
theorem sc__law_error : FnScope N__law_error ["_law_call"] (defScope s__law_error) := ⟨rfl, rfl, rfl, by decide +kernel, rfl, by decide +kernel, by decide +kernel⟩
/-- what _law_names answers of D's instances -/
def Known (K : Kf) (CS c1 c2 c3 c4 c5 c6 c7 c8 D : Addr) (txt : Str) : Prop := ExcC K D ∧ PySem.W.exmOne K (.ref D) (.ref CS) = some true ∧ ∃ b1 b2 b3 b4 b5 b6 b7 b8 b9, Lab9 K D c1 c2 c3 c4 c5 c6 c7 c8 b1 b2 b3 b4 b5 b6 b7 b8 b9 ∧ txt = Txt.join " " (namesOf [b1, b2, b3, b4, b5, b6, b7, b8, b9])
structure ErrK (K : Kf) (mg : Str → Option Value) (CS c1 c2 c3 c4 c5 c6 c7 c8 : Addr) : Prop where
  T : Bl mg
  CC : Cls9 mg c1 c2 c3 c4 c5 c6 c7 c8
  gP : mg "ParkError" = some (.ref CS)
  names : ∃ f fd, Fun K "_law_names" "_law_names" s__law_names f fd ∧ mg "_law_names" = some (.ref f)
  err : ∃ f fd, Fun K "_law_error" "_law_error" s__law_error f fd ∧ mg "_law_error" = some (.ref f)
/-- _law_error(lambda: ..), t the lambda's reading -/
def tErr (K : Kf) (P : Addr) (q : Str) (CS c1 c2 c3 c4 c5 c6 c7 c8 : Addr) (t : XK → TE) : TE := fun σ H Q => TabS H P q ∧ ∀ H1, ExtP P H H1 → TabS H1 P q →
  ∀ E : XK, (∀ cls d H', (∃ D txt, cls = .ref D ∧ Known K CS c1 c2 c3 c4 c5 c6 c7 c8 D txt ∧ XdOk d H' ∧ ∀ H'', Ex H' H'' → Q (.str txt) H'') → E cls d H') → t E σ H1 fun _ H' => Q (.str "") H'
theorem takes0N {X : Cx} : L2N.Takes X (fun _ _ _ _ => False) := fun _ _ x => by
  obtain ⟨_, _, _, _, _, _, _, _, _, _, _, _, _, _, _, _, z⟩ := x
  exact z.elim
section
variable {X : Cx} {CS c1 c2 c3 c4 c5 c6 c7 c8 : Addr}
theorem error_body {k : Nat} {g f c' : Addr} {cdg : Value} {q : Str} {s : Shared} {H : Hp} {Q : VK} {tl : XK → Hp → VK → Prop} (EK : ErrK X.K X.mg CS c1 c2 c3 c4 c5 c6 c7 c8) (hr : Room (k + 1) (X.A.deeper (envOfC "_law_error" (defScope s__law_error) s.heap.objs.size g cdg)))
    (act : ∀ (W : WX) (pn : List (Addr × Obj)) (xe : Value → Shared → Prop) (p1 p2 : Pos), L2N.Takes ((cxOf C8.CX0 X.prog X.w X.K X.mg X.base N__law_error "_law_error" (defScope s__law_error) g cdg X.A X.stack s H C8.E0).tr pn xe) W →
      PE ((cxOf C8.CX0 X.prog X.w X.K X.mg X.base N__law_error "_law_error" (defScope s__law_error) g cdg X.A X.stack s H C8.E0).tr pn xe) (.Call (.Name "_law_call" p1) [] [] p2) (fun σZ HZ Q => σZ[0]? = some (some (.ref f)) ∧ HZ c' = some (CodeO c' q) ∧ tl (WE W σZ) HZ Q))
    (hc : H c' = some (CodeO c' q))
    (h : ∀ E : XK, (∀ cls d H', (∃ D txt, cls = .ref D ∧ Known X.K CS c1 c2 c3 c4 c5 c6 c7 c8 D txt ∧ XdOk d H' ∧ ∀ H'', Ex H' H'' → Q (.str txt) H'') → E cls d H') → tl E H fun _ H' => Q (.str "") H') :
    ∃ t, PSs (cxOf C8.CX0 X.prog X.w X.K X.mg X.base N__law_error "_law_error" (defScope s__law_error) g cdg X.A X.stack s H C8.E0).nox (defBody s__law_error) t ∧ t { nx := fun _ H' => Q .non H', rt := Q } (L2.start N__law_error [.ref f]) H := by
  obtain ⟨fN, fdN, FN, gN⟩ := EK.names
  have hgl : Gl (cxOf C8.CX0 X.prog X.w X.K X.mg X.base N__law_error "_law_error" (defScope s__law_error) g cdg X.A X.stack s H C8.E0).nox "ParkError" := by rfl
  refine ⟨_, pss_cons (L2N.ps_try_as (X := (cxOf C8.CX0 X.prog X.w X.K X.mg X.base N__law_error "_law_error" (defScope s__law_error) g cdg X.A X.stack s H C8.E0).nox) (c := .ref CS) (i := 1)
      (tb := fun W D σ H => σ[0]? = some (some (.ref f)) ∧ H c' = some (CodeO c' q) ∧ tl (WE W σ) H fun _ H' => D.nx σ H')
      (ts := fun a cls d Dn σ H => ∃ D txt, cls = .ref D ∧ Known X.K CS c1 c2 c3 c4 c5 c6 c7 c8 D txt ∧ σ[1]? = some (some (.ref a)) ∧ XdOk d H ∧ ∀ H', Ex H H' → Dn.rt (.str txt) H')
      rfl rfl sc__law_error.nd rfl (by rfl) ⟨hgl, by decide, .inl EK.gP⟩ takes0N (fun W pn xe tk _ => ?_) (fun a oe cls d pn hz hv => ?_)) (pss_one (ps_ret pe_str)), ?_⟩
  · exact pss_one (ps_expr (act W pn xe _ _ tk))
  · refine pss_one ⟨fun pins s' σ H' Dn I h' => ?_⟩
    obtain ⟨D, txt, e1, ⟨EC, _, b1, b2, b3, b4, b5, b6, b7, b8, b9, L, e2⟩, h1, h2, h3⟩ := h'
    subst e1 e2
    have hot : Hot1 ((cxOf C8.CX0 X.prog X.w X.K X.mg X.base N__law_error "_law_error" (defScope s__law_error) g cdg X.A X.stack s H C8.E0).nox.suite a ((a, oe) :: pn)).A (a, oe) := by
      obtain ⟨vs, e⟩ := hv
      exact ⟨rfl, vs, e, hz.2.2 vs e⟩
    have rr : RoomH (k + 1) ((cxOf C8.CX0 X.prog X.w X.K X.mg X.base N__law_error "_law_error" (defScope s__law_error) g cdg X.A X.stack s H C8.E0).nox.suite a ((a, oe) :: pn)).A := ⟨hr.dp, hr.un⟩
    have pe := pe_names (X := (cxOf C8.CX0 X.prog X.w X.K X.mg X.base N__law_error "_law_error" (defScope s__law_error) g cdg X.A X.stack s H C8.E0).nox.suite a ((a, oe) :: pn)) (i := 1) (y := "_law_e") (p1 := ⟨162, 15, 162, 25⟩) (p2 := ⟨162, 26, 162, 32⟩) (pos := ⟨162, 15, 162, 33⟩) FN gN EK.T EK.CC L EC hz hv hot (List.mem_cons_self ..) rr (by rfl) (pv 1)
    exact (ps_ret pe).run pins s' σ H' Dn I ⟨h1, h2, h3⟩
  · refine ⟨rfl, hc, h _ fun cls d H' ⟨D, txt, e1, kn, hx, hq⟩ => ?_⟩
    subst e1
    exact ⟨true, kn.2.1, fun _ a _ => ⟨D, txt, rfl, kn, rfl, hx, hq⟩, fun z => by cases z⟩
theorem pe_error {k : Nat} {c P : Addr} {params : Arguments} {body : Expr} {scope : Scope} {t : XK → TE} {p lpos pos : Pos} (EK : ErrK X.K X.mg CS c1 c2 c3 c4 c5 c6 c7 c8) (hg : Gl X "_law_error")
    (TB : TabB X.base X.mg c P) (hcode : X.env.code = .ref c) (hr : Room (k + 2) X.A) (L : LamS X.env.scope scope) (hdef : defaultsOf params X.env = ([], []))
    (hbind : ∀ (q : Str) (cl : List (Str × Addr)) (pm cv ctv : Value), bindArgs (PySem.W.kla_fn "<lambda>" q params body scope cl pm cv ctv) ⟨[], []⟩ = pure [])
    (hbody : ∀ (A : Around) (outer : List Env) (s : Shared) (H : Hp) (E : XK) (f c' : Addr), Room k (A.deeper (lamEnv X scope s.heap.objs.size f c')) → PE (lamN X A outer s H E scope f c') body (t E)) :
    PE X (.Call (.Name "_law_error" p) [.Lambda params body scope lpos] [] pos) (tErr X.K P (X.env.qual ++ "<lambda>") CS c1 c2 c3 c4 c5 c6 c7 c8 t) := by
  obtain ⟨g, fd, FE, gE⟩ := EK.err
  have hb := FE.binds (ps := ["_law_call"]) fun _ _ _ _ _ _ us hl => match us, hl with | [_], _ => rfl
  have kp := FE.kp
  obtain ⟨oc, od, kV, doc, pm, an, cdv, ct, osl, rfl, lk, hcg⟩ := FE.ex
  refine ⟨fun pins s σ H Q I h => ?_⟩
  obtain ⟨hT, h⟩ := h
  refine wpAny_Call_Name_kw (ld_glob I hg gE ?_ (by decide))
  refine PySem.W.callWith_K (h₀ := X.base) I.ok.mod.kin kp ?_ (by rfl) (by rfl)
  show wpAny _ _ (spliced ((false, eval (.Lambda params body scope lpos) X.env) :: backTo pos (starEach [] X.env))) _ _ s
  refine Calls.spliced_cons (lam_makeN I TB hcode hT hdef (L.has I.ok) fun f c' pm' ctv H1 s' I1 eN T1 hf hfn hfr hco => ?_)
  refine Calls.spliced_nil ⟨I1.kIn, ?_⟩
  have rc : codeAny (model X.prog X.w) X.A (.call (.ref g) ⟨[.ref f], []⟩) (CR C8.CX0 X.stack X.prog X.w H1 s' Q C8.E0) s' := by
    refine run_ofS (N := N__law_error) (ps := ["_law_call"]) (us := [.ref f]) (vs := [.ref f]) lk hcg sc__law_error hr I1.env0 (hb s' [.ref f] I1.kIn rfl) (.cons rfl .nil) rfl fun hr' => ?_
    obtain ⟨t', ht', hq'⟩ := error_body (f := f) (c' := c') (q := X.env.qual ++ "<lambda>") (s := s') (H := H1) (Q := Q) (tl := fun E H' Q' => t E σ H' Q') EK hr' (fun W pn xe p1 p2 tk => pe_actN (i := 0) I1 L hf hfn hfr (hbind _ _ _ _ _) tk hr' (fun A outer s H E hr2 => hbody A outer s H E f c' hr2) rfl (.inl rfl)) hco (h H1 eN T1)
    exact ⟨t', ht'.nox, hq'⟩
  refine wpAny_call (codeAny_mono rc fun r s2 hq => ?_)
  cases r with
  | error e => exact (show False from hq).elim
  | ok fl =>
    cases fl with
    | ret u => exact I1.after hq
    | next => exact False.elim hq
    | brk => exact False.elim hq
    | cont => exact False.elim hq
end
end DL

-- W1
set_option Elab.async false
set_option linter.all false
set_option maxRecDepth 100000
set_option maxHeartbeats 4000000
/-! Expressions that change own lists and the table. -/
namespace DL
open PySem PySem.Calls L2 PyProof.Rows PySem.Spec LamX
def EvW (K : Kf) (te : TE) (es : Es) (ow : Ow) (R : Sl → Ow → Prop) : Prop := ∀ σ G H, Ex G H → Sd K G σ es → So K G H ow → ∀ Q : VK, (∀ v G' H' x ow', Gs G H ow G' H' ow' → Sk K G' (some v) x → So K G' H' ow' → R x ow' → Q v H') → te σ H Q
def EvAW (K : Kf) (ta : TA) (es : Es) (ow : Ow) (R : List Sl → Ow → Prop) : Prop := ∀ σ G H, Ex G H → Sd K G σ es → So K G H ow → ∀ Q : List V → Hp → Prop, (∀ vs G' H' xs ow', Gs G H ow G' H' ow' → SkA K G' vs xs → So K G' H' ow' → R xs ow' → Q vs H') → ta σ H Q
def EvTW (K : Kf) (tt : TT) (es : Es) (ow : Ow) (R : Bool → Ow → Prop) : Prop := ∀ σ G H, Ex G H → Sd K G σ es → So K G H ow → ∀ Q : Bool → Hp → Prop, (∀ b G' H' ow', Gs G H ow G' H' ow' → So K G' H' ow' → R b ow' → Q b H') → tt σ H Q
section
variable {K : Kf} {es : Es} {ow ow' : Ow} {ta tb te tc : TE} {t u : TT} {a1 : TA} {x y z : Sl} {R : Sl → Ow → Prop} {N : DEnds} {ts us : TS} {i : Nat} {d : PyData}
theorem w_pure (h : Ev K te es x) (r : R x ow) : EvW K te es ow R := fun σ G H e s o Q q => h σ G H e s _ fun v G1 H1 g1 k1 => q v G1 H1 x ow g1.gs k1 (o.gn g1) r
theorem wt_pure {b : Bool} {R : Bool → Ow → Prop} (h : EvT K t es b) (r : R b ow) : EvTW K t es ow R := fun σ G H e s o Q q => h σ G H e s _ fun G1 H1 g1 => q b G1 H1 ow g1.gs (o.gn g1) r
theorem w_mono {R' : Sl → Ow → Prop} (h : EvW K te es ow R) (m : ∀ x o, R x o → R' x o) : EvW K te es ow R' := fun σ G H e s o Q q => h σ G H e s o Q fun v G1 H1 x ow' g k o' r => q v G1 H1 x ow' g k o' (m x ow' r)
theorem wa_nil {R : List Sl → Ow → Prop} (r : R [] ow) : EvAW K tNil es ow R := fun σ G H e s o Q q => q [] G H [] ow (Gs.refl e) .nil o r
theorem wa_cons {R : List Sl → Ow → Prop} {tr : TA} (h : EvW K ta es ow fun x o1 => EvAW K tr es o1 fun xs o2 => R (x :: xs) o2) : EvAW K (tCons ta tr) es ow R := fun σ G H e s o Q q => h σ G H e s o _ fun v G1 H1 x o1 g1 k1 s1 h1 =>
  h1 σ G1 H1 g1.s (s.ex g1.g) s1 _ fun vs G2 H2 xs o2 g2 k2 s2 r => q (v :: vs) G2 H2 (x :: xs) o2 (g1.trans g2) (.cons (k1.ex g2.g) k2) s2 r
theorem w_op {r : R2} (h : EvW K ta es ow fun x o1 => EvW K tb es o1 fun y o2 => ∃ z, RV K r x y z ∧ R z o2) : EvW K (tOp r ta tb) es ow R := fun σ G H e s o Q q => h σ G H e s o _ fun v G1 H1 x o1 g1 k1 s1 h1 =>
  h1 σ G1 H1 g1.s (s.ex g1.g) s1 _ fun w G2 H2 y o2 g2 k2 s2 ⟨z, rv, r2⟩ => rv G2 H2 v w g2.s (k1.ex g2.g) k2 Q fun u G3 H3 g3 k3 => q u G3 H3 z o2 ((g1.trans g2).trans g3.gs) k3 (s2.gn g3) r2
theorem w_cb {r : List V → Hp → VK → Prop} (h : EvAW K a1 es ow fun xs o1 => ∃ z, RC K r xs z ∧ R z o1) : EvW K (tCB r a1) es ow R := fun σ G H e s o Q q => h σ G H e s o _ fun vs G1 H1 xs o1 g1 k1 s1 ⟨z, rc, r1⟩ =>
  rc G1 H1 vs g1.s k1 Q fun u G2 H2 g2 k2 => q u G2 H2 z o1 (g1.trans g2.gs) k2 (s1.gn g2) r1
theorem w_lst (h : EvAW K a1 es ow fun xs o1 => ∃ ds : List PyData, xs = ds.map .d ∧ ds.length ≤ 100000 ∧ R (.d (.list ds)) o1) : EvW K (tLst a1) es ow R := fun σ G H e s o Q q => h σ G H e s o _ fun vs G1 H1 xs o1 g1 k1 s1 ⟨ds, ex, hl, r1⟩ => by
  subst ex
  have h2 := k1.dpa
  refine ⟨by rw [dpa_len h2, sizeLine_eq]; omega, fun p hp => ?_⟩
  have g2 : Gn G1 H1 (upd G1 p (.lst vs)) (upd H1 p (.lst vs)) := Gn.new g1.s hp
  exact q _ _ _ _ o1 (g1.trans g2.gs) (.of (.lst (SqL.of upd_same) (dpa_ex (Ex.new (g1.s.free hp)) _ _ h2))) (s1.gn g2) r1
theorem w_if (h : EvTW K t es ow fun b o1 => (b = true → EvW K ta es o1 R) ∧ (b = false → EvW K tb es o1 R)) : EvW K (tIf t ta tb) es ow R := fun σ G H e s o Q q => h σ G H e s o _ fun b G1 H1 o1 g1 s1 ⟨h1, h2⟩ => by
  cases b with
  | true => exact iteT (h1 rfl σ G1 H1 g1.s (s.ex g1.g) s1 Q fun v G2 H2 x o2 g2 k2 s2 r => q v G2 H2 x o2 (g1.trans g2) k2 s2 r)
  | false => exact iteF (h2 rfl σ G1 H1 g1.s (s.ex g1.g) s1 Q fun v G2 H2 x o2 g2 k2 s2 r => q v G2 H2 x o2 (g1.trans g2) k2 s2 r)
theorem wt_test {R : Bool → Ow → Prop} (h : EvW K te es ow fun x o1 => ∃ b, x = .d (.bool b) ∧ R b o1) : EvTW K (tTest te) es ow R := fun σ G H e s o Q q => h σ G H e s o _ fun v G1 H1 x o1 g1 k1 s1 ⟨b, ex, r⟩ => by
  subst ex
  have k1 := k1.dp
  cases k1
  exact ⟨b, rfl, q b G1 H1 o1 g1 s1 r⟩
theorem wt_B {R : Bool → Ow → Prop} (h : EvW K te es ow fun x o1 => ∃ b, x = .d (.bool b) ∧ R b o1) : EvTW K (tB te) es ow R := fun σ G H e s o Q q => h σ G H e s o _ fun v G1 H1 x o1 g1 k1 s1 ⟨b, ex, r⟩ => by
  subst ex
  have k1 := k1.dp
  cases k1
  exact ⟨b, rfl, q b G1 H1 o1 g1 s1 r⟩
theorem wt_not {R : Bool → Ow → Prop} (h : EvTW K t es ow fun b o1 => R (!b) o1) : EvTW K (tNot t) es ow R := fun σ G H e s o Q q => h σ G H e s o _ fun b G1 H1 o1 g1 s1 r => q _ G1 H1 o1 g1 s1 r
theorem wt_or {R : Bool → Ow → Prop} (h : EvTW K t es ow fun b o1 => (b = true → R true o1) ∧ (b = false → EvTW K u es o1 R)) : EvTW K (tOr t u) es ow R := fun σ G H e s o Q q => h σ G H e s o _ fun b G1 H1 o1 g1 s1 ⟨h1, h2⟩ => by
  cases b with
  | true => exact iteT (q true G1 H1 o1 g1 s1 (h1 rfl))
  | false => exact iteF (h2 rfl σ G1 H1 g1.s (s.ex g1.g) s1 Q fun b G2 H2 o2 g2 s2 r => q b G2 H2 o2 (g1.trans g2) s2 r)
/-- the item of an own list -/
theorem w_ixO {l : Addr} {ds : List PyData} {n : Int} (hi : es[i]? = some (.r (.ref l))) (hm : (l, some ds) ∈ ow) (ha : atI ds n = some d) (r : R (.d d) ow) : EvW K (tOp (rIxL K) (tVar i) (tC (.int n))) es ow R := fun σ G H e s o Q q => by
  obtain ⟨_, _, o3, _⟩ := o _ hm
  obtain ⟨vs, v1, v2⟩ := o3 ds rfl
  have v1 : H l = some (.lst vs) := v1
  show tVar i σ H fun x H1 => rIxL K x (.int n) H1 Q
  refine (ev_var (K := K) hi) σ G H e s _ fun v G0 H0 g0 k0 => ?_
  cases (show some v = some (V.ref l) from k0)
  obtain ⟨w, e1, e2⟩ := atI_dp v2 ha
  have hh := gn_ext e g0 _ _ v1
  exact ⟨l, vs, n, w, rfl, rfl, SqL.of hh, e1, q _ G0 H0 _ ow g0.gs (.of (dp_ex g0.g _ _ e2)) (o.gn g0) r⟩
/-! statements -/
theorem run_asgW (h : EvW K te es ow fun x o1 => N.nx (es.set i x) o1) : Run K (tAsg te (gName i)) es ow N := fun σ G H e s o D k => h σ G H e s o _ fun v G1 H1 x o1 g1 k1 s1 r => k.nx _ G1 H1 _ o1 g1 ((s.ex g1.g).set k1) s1 r
theorem run_retW (h : EvW K te es ow N.rt) : Run K (tRet te) es ow N := fun σ G H e s o D k => h σ G H e s o _ fun v G1 H1 x o1 g1 k1 s1 r => k.rt v G1 H1 x o1 g1 k1 s1 r
theorem run_ifW (h : EvTW K t es ow fun b o1 => (b = true → Run K ts es o1 N) ∧ (b = false → Run K us es o1 N)) : Run K (tIfS t ts us) es ow N := fun σ G H e s o D k => h σ G H e s o _ fun b G1 H1 o1 g1 s1 ⟨h1, h2⟩ => by
  cases b with
  | true => exact iteT (h1 rfl σ G1 H1 g1.s (s.ex g1.g) s1 D (k.step g1))
  | false => exact iteF (h2 rfl σ G1 H1 g1.s (s.ex g1.g) s1 D (k.step g1))
theorem run_parW {j : Nat} (h : EvAW K a1 es ow fun xs o1 => ∃ x y, xs = [x, y] ∧ N.nx ((es.set i x).set j y) o1) : Run K (tPar i j a1) es ow N := fun σ G H e s o D k => h σ G H e s o _ fun vs G1 H1 xs o1 g1 k1 s1 ⟨x, y, ex, r⟩ => by
  subst ex
  obtain ⟨v, u, rfl, k1, k2⟩ := skA2 k1
  exact ⟨v, u, rfl, k.nx _ G1 H1 _ o1 g1 (((s.ex g1.g).set k1).set k2) s1 r⟩
/-- a new own list, as a value -/
theorem w_newO (h : EvAW K a1 es ow fun xs o1 => ∃ ds : List PyData, xs = ds.map .d ∧ ds.length ≤ 100000 ∧ ∀ l, (∀ p ∈ o1, p.1 ≠ l) → R (.r (.ref l)) ((l, some ds) :: o1)) : EvW K (tLst a1) es ow R := fun σ G H e s o Q q => h σ G H e s o _ fun vs G1 H1 xs o1 g1 k1 s1 ⟨ds, ex, hl, r1⟩ => by
  subst ex
  have h2 := k1.dpa
  refine ⟨by rw [dpa_len h2, sizeLine_eq]; omega, fun p hp => ?_⟩
  have ne : ∀ q ∈ o1, q.1 ≠ p := fun q hq z => (s1 q hq).2.1 (by rw [z]; exact hp)
  have ex1 : Ex G1 (upd H1 p (.lst vs)) := g1.s.trans (Ex.new hp)
  have gs : Gs G1 H1 o1 G1 (upd H1 p (.lst vs)) ((p, some ds) :: o1) := ⟨Ex.refl _, ex1, fun b q hb hn _ => ⟨by rw [upd_ne (ne_of_none hb hp)]; exact hb, hn⟩, fun b hb => by
    rcases List.mem_cons.mp hb with rfl | hb
    · exact .inr hp
    · exact .inl hb⟩
  refine q _ G1 _ _ _ (g1.trans gs) (show Sk K G1 (some (V.ref p)) (.r (.ref p)) from rfl) (fun q hq => ?_) (r1 p ne)
  rcases List.mem_cons.mp hq with rfl | hq
  · exact ⟨g1.s.free hp, by rw [upd_same]; simp, fun ds' e' => by cases e'; exact ⟨vs, upd_same, h2⟩, fun z => by cases z⟩
  · obtain ⟨a1, a2, a3, a4⟩ := s1 q hq
    have nq := ne q hq
    exact ⟨a1, by rw [upd_ne nq]; exact a2, fun ds' e' => by rw [upd_ne nq]; exact a3 ds' e', fun z => ⟨(a4 z).1.ext (Ex.new hp), ex1⟩⟩
/-- an own list is written -/
theorem so_upd {G H : Hp} {l : Addr} {ds ds' : List PyData} {vs vs' : List V} {rest : Ow} (o : So K G H ((l, some ds) :: rest)) (hr : ∀ p ∈ rest, p.1 ≠ l) (h : H l = some (.lst vs)) (e : Ex G H) (hd : DpAll K G vs' ds') :
    Gs G H ((l, some ds) :: rest) G (upd H l (.lst vs')) ((l, some ds') :: rest) ∧ So K G (upd H l (.lst vs')) ((l, some ds') :: rest) := by
  obtain ⟨o1, _, _, _⟩ := o (l, some ds) (List.mem_cons_self ..)
  have o1 : G l = none := o1
  have gs : Gs G H ((l, some ds) :: rest) G (upd H l (.lst vs')) ((l, some ds') :: rest) := ⟨Ex.refl _, fun b q hb => by
      have : b ≠ l := fun z => by rw [z, o1] at hb; cases hb
      rw [upd_ne this]; exact e b q hb,
    fun b q hb hn no => ⟨by rw [upd_ne (fun z => no (by rw [z]; simp))]; exact hb, hn⟩, fun b hb => .inl (by simpa using hb)⟩
  refine ⟨gs, fun q hq => ?_⟩
  rcases List.mem_cons.mp hq with rfl | hq
  · exact ⟨o1, by show upd H l _ l ≠ none; rw [upd_same]; simp, fun ds2 e2 => by cases e2; exact ⟨_, upd_same, hd⟩, fun z => by cases z⟩
  · obtain ⟨a1, a2, a3, a4⟩ := o q (List.mem_cons_of_mem _ hq)
    have nq := hr q hq
    exact ⟨a1, by rw [upd_ne nq]; exact a2, fun ds2 e2 => by rw [upd_ne nq]; exact a3 ds2 e2, fun z => ⟨tab_upd (a4 z).1 nq h, gs.s⟩⟩
theorem dpa_set {G : Hp} {v : V} {d : PyData} (h : Dp K G v d) : ∀ {ds : List PyData} {vs : List V} (j : Nat), DpAll K G vs ds → DpAll K G (vs.set j v) (ds.set j d)
  | [], _, _, k => by cases k; exact .nil
  | _ :: _, _, 0, k => by cases k with | cons k1 k2 => exact .cons h k2
  | _ :: _, _, j + 1, k => by cases k with | cons k1 k2 => exact .cons k1 (dpa_set h j k2)
/-- l[n] = e, l an own list -/
theorem run_setO {l : Addr} {ds : List PyData} {rest : Ow} {j : Nat} {n : Int} (hi : es[i]? = some (.r (.ref l))) (hr : ∀ p ∈ rest, p.1 ≠ l) (hj : ixN ds.length n = some j) (h : EvW K te es ((l, some ds) :: rest) fun x o => ∃ d, x = .d d ∧ o = (l, some ds) :: rest ∧ N.nx es ((l, some (ds.set j d)) :: rest)) :
    Run K (tAsg te (gSub (tVar i) (tC (.int n)) rSetL)) es ((l, some ds) :: rest) N := fun σ G H e s o D k => h σ G H e s o _ fun v G1 H1 x o1 g1 k1 s1 ⟨d, ex, eo, r⟩ => by
  subst ex eo
  show tVar i σ H1 fun o H2 => rSetL o (.int n) v H2 fun H3 => D.nx σ H3
  refine (ev_var (K := K) hi) σ G1 H1 g1.s (s.ex g1.g) _ fun w G2 H2 g2 k2 => ?_
  cases (show some w = some (V.ref l) from k2)
  have s2 := s1.gn g2
  obtain ⟨_, _, o3, _⟩ := s2 _ (List.mem_cons_self ..)
  obtain ⟨vs, v1, v2⟩ := o3 ds rfl
  have v1 : H2 l = some (.lst vs) := v1
  refine ⟨l, vs, n, j, rfl, rfl, v1, by rw [dpa_len v2]; exact hj, ?_⟩
  obtain ⟨gs, so⟩ := so_upd s2 hr v1 g2.s (dpa_set (dp_ex g2.g _ _ k1.dp) j v2)
  exact k.nx σ G2 _ es _ ((g1.trans g2.gs).trans gs) (s.ex (g1.g.trans g2.g)) so r
/-- l.append(e), l an own list -/
theorem run_appendW {l : Addr} {ds : List PyData} {rest : Ow} (hi : es[i]? = some (.r (.ref l))) (hr : ∀ p ∈ rest, p.1 ≠ l) (hl : ds.length < 100000) (h : EvW K te es ((l, some ds) :: rest) fun x o => ∃ d, x = .d d ∧ o = (l, some ds) :: rest ∧ N.nx es ((l, some (ds ++ [d])) :: rest)) :
    Run K (tDrop (tBM K "list" rAppend (tVar i) (tCons te tNil))) es ((l, some ds) :: rest) N := fun σ G H e s o D k => by
  obtain ⟨_, _, o3, _⟩ := o (l, some ds) (List.mem_cons_self ..)
  obtain ⟨vs0, v1, v2⟩ := o3 ds rfl
  have v1 : H l = some (.lst vs0) := v1
  show tVar i σ H fun x H1 => tyV K "list" x H1 ∧ tCons te tNil σ H1 fun xs H2 => rAppend x xs H2 fun _ H3 => D.nx σ H3
  refine (ev_var (K := K) hi) σ G H e s _ fun v G0 H0 g0 k0 => ?_
  cases (show some v = some (V.ref l) from k0)
  have s0 := o.gn g0
  have v1' := gn_ext e g0 _ _ v1
  refine ⟨.inl ⟨rfl, _, .inl (.inl v1')⟩, ?_⟩
  refine h σ G0 H0 g0.s (s.ex g0.g) s0 _ fun v G1 H1 x o1 g1 k1 s1 ⟨d, ex, eo, r⟩ => ?_
  subst ex eo
  obtain ⟨_, _, p3, _⟩ := s1 _ (List.mem_cons_self ..)
  obtain ⟨vs, w1, w2⟩ := p3 ds rfl
  have w1 : H1 l = some (.lst vs) := w1
  refine ⟨l, vs, v, rfl, rfl, w1, by rw [dpa_len w2, sizeLine_eq]; omega, ?_⟩
  obtain ⟨gs, so⟩ := so_upd s1 hr w1 g1.s (dpa_app w2 (.cons k1.dp .nil))
  exact k.nx σ G1 _ es _ ((g0.gs.trans g1).trans gs) (s.ex (g0.g.trans g1.g)) so r
/-! promises -/
def spW (K : Kf) (n : Nat) (rel : List Sl → Ow → (Sl → Ow → Prop) → Prop) : Sp := fun vs H Q _ => vs.length = n ∧ ∃ G xs ow R, Ex G H ∧ SkA K G vs xs ∧ So K G H ow ∧ rel xs ow R ∧ ∀ v G' H' y ow', Gs G H ow G' H' ow' → Sk K G' (some v) y → So K G' H' ow' → R y ow' → Q v H'
theorem w_call {n : Nat} {rel : List Sl → Ow → (Sl → Ow → Prop) → Prop} {E : XK} (h : EvAW K a1 es ow fun xs o1 => xs.length = n ∧ rel xs o1 R) : EvW K (tCall (spW K n rel) [] E a1) es ow R := fun σ G H e s o Q q => h σ G H e s o _ fun vs G1 H1 xs o1 g1 k1 s1 ⟨hl, hr⟩ => by
  show spW K n rel (vs ++ []) H1 Q E
  rw [List.append_nil]
  exact ⟨k1.len.trans hl, G1, xs, o1, R, g1.s, k1, s1, hr, fun v G2 H2 y o2 g2 k2 s2 r => q v G2 H2 y o2 (g1.trans g2) k2 s2 r⟩
theorem body_ofW {NN : List Str} {n : Nat} {rel : List Sl → Ow → (Sl → Ow → Prop) → Prop} {vs : List V} {H : Hp} {Q : VK} {E : XK} (h : spW K n rel vs H Q E) (hn : n ≤ NN.length)
    (hb : ∀ xs ow R, rel xs ow R → xs.length = n → Run K ts (startE NN.length xs) ow { nx := fun _ o => R (.d .none) o, rt := R }) : ts { nx := fun _ H' => Q .non H', rt := Q } (L2.start NN vs) H := by
  obtain ⟨hl, G, xs, ow, R, e, k, so, r, q⟩ := h
  exact hb xs ow R r (k.len.symm.trans hl) _ G H e (sd_start k (by omega)) so _ ⟨fun σ' G' H' es' ow' g s o n => q _ G' H' _ ow' g (.of .non) o n, fun v G' H' x ow' g s o n => q v G' H' x ow' g s o n, fun σ' G' H' es' ow' g s o n => n.elim, fun σ' G' H' es' ow' g s o n => n.elim⟩
theorem spW_len {n : Nat} {rel : List Sl → Ow → (Sl → Ow → Prop) → Prop} : ∀ vs H Q E, spW K n rel vs H Q E → vs.length = n := fun _ _ _ _ h => h.1
end
section
variable {P : Program} {w : World} {K : Kf} {mg : Str → Option Value} {base : Heap}
theorem dfw_ok {x : Str} {st : Stmt} {f : Addr} {fd : FuncData} {NN ps : List Str} {n k : Nat} {rel : List Sl → Ow → (Sl → Ow → Prop) → Prop} (F : Fun K x x st f fd) (g : mg x = some (.ref f)) (S : FnScope NN ps (defScope st)) (hp : ps.length = n) (hb : Binds K fd ps [])
    (body : ∀ (cdv : Value) (A : Around) (outer : List Env) (s : Shared) (H : Hp) (E : XK), Room k (A.deeper (envOfC x (defScope st) s.heap.objs.size f cdv)) →
      ∃ t, PSs (cxOf CX0 P w K mg base NN x (defScope st) f cdv A outer s H E).nox (defBody st) t ∧ ∀ xs ow R, rel xs ow R → xs.length = n → Run K t (startE NN.length xs) ow { nx := fun _ o => R (.d .none) o, rt := R }) :
    Df P w K mg base CX0 (k + 1) x ps (spW K n rel) := by
  have hpn : n ≤ NN.length := by have := congrArg List.length S.pre; rw [List.length_take] at this; omega
  refine ⟨f, fd, F.ok S (fun vs H Q E h => (spW_len vs H Q E h).trans hp.symm) (fun cdv A outer s H vs Q E hr h => ?_), g, F.kp, hb⟩
  obtain ⟨t, h1, h2⟩ := body cdv A outer s H E hr
  exact ⟨t, h1, body_ofW (E := E) h hpn h2⟩
end
end DL

-- W2
set_option Elab.async false
set_option linter.all false
set_option maxRecDepth 100000
set_option maxHeartbeats 4000000
/-! _law_error's text; [.. for x in (v1, v2)] with effects; [s] * n; not in. -/
namespace DL
open PySem PySem.Calls L2 PyProof.Rows PySem.Spec LamX
/-- the lambda raises an instance of D, the own lists then ow' with O ow' -/
def EvXW (K : Kf) (te : TE) (es : Es) (ow : Ow) (E : XK) (D : Addr) (O : Ow → Prop) : Prop := ∀ σ G H, Ex G H → Sd K G σ es → So K G H ow → (∀ d G' H' ow', Gs G H ow G' H' ow' → So K G' H' ow' → O ow' → XdOk d H' → E (.ref D) d H') → ∀ Q : VK, te σ H Q
section
variable {K : Kf} {es : Es} {ow : Ow} {te : TE} {ta : TA} {E : XK} {D : Addr} {O : Ow → Prop} {R : Sl → Ow → Prop} {P CS c1 c2 c3 c4 c5 c6 c7 c8 : Addr} {txt : Str}
theorem xw_pure (h : EvX K te es E (.ref D)) (o : O ow) : EvXW K te es ow E D O := fun σ G H e s so q Q => h σ G H e s (fun d G' H' g x => q d G' H' ow g.gs (so.gn g) o x) Q
theorem xw_callE {n : Nat} {rel : List Sl → Sl → Prop} {relE : List Sl → Value → Prop} (h : EvAW K ta es ow fun xs o1 => xs.length = n ∧ relE xs (.ref D) ∧ O o1) : EvXW K (tCall (spE K n rel relE) [] E ta) es ow E D O := fun σ G H e s so q Q => h σ G H e s so _ fun vs G1 H1 xs o1 g1 k1 s1 ⟨hl, hr, ho⟩ => by
  show spE K n rel relE (vs ++ []) H1 Q E
  rw [List.append_nil]
  exact ⟨k1.len.trans hl, G1, xs, g1.s, k1, .inr ⟨_, hr, fun d G2 H2 g2 x => q d G2 H2 o1 (g1.trans g2.gs) (s1.gn g2) ho x⟩⟩
/-- P's table is the one that ow tells -/
structure OwP (P : Addr) (ow : Ow) : Prop where
  mem : (P, none) ∈ ow
  one : ∀ p ∈ ow, p.2 = none → p.1 = P
theorem tab_ne {H : Hp} {P c : Addr} {q : Str} {ps : Array Value} (h : H P = some (.tbl ps)) (hc : H c = some (CodeO c q)) : c ≠ P := fun z => by
  rw [z, h] at hc
  exact codeO_ne ps (Option.some.inj hc).symm
theorem so_tab {G H H1 : Hp} (o : So K G H ow) (op : OwP P ow) (e : Ex G H) (eP : ExtP P H H1) (T1 : TabS H1 P tabQ) : Gs G H ow G H1 ow ∧ So K G H1 ow := by
  obtain ⟨p1, p2, _, p4⟩ := o _ op.mem
  have p1 : G P = none := p1
  obtain ⟨⟨ps, hP, _, _⟩, _⟩ := p4 rfl
  have hP : H P = some (.tbl ps) := hP
  have e1 : Ex G H1 := fun b u h => eP b u (e b u h) fun z => by rw [z, p1] at h; cases h
  refine ⟨⟨Ex.refl _, e1, fun b u h n no => ⟨eP b u h fun z => no (by rw [z]; exact List.mem_map.mpr ⟨_, op.mem, rfl⟩), n⟩, fun _ h => .inl h⟩, fun p hp => ?_⟩
  obtain ⟨a1, a2, a3, a4⟩ := o p hp
  by_cases hb : p.1 = P
  · refine ⟨a1, ?_, fun ds z => ?_, fun z => ⟨by rw [hb]; exact T1, e1⟩⟩
    · obtain ⟨ps1, h1, _⟩ := T1
      rw [hb, h1]; simp
    · obtain ⟨vs, v1, _⟩ := a3 ds z
      rw [hb, hP] at v1; cases v1
  · cases hh : H p.1 with
    | none => exact absurd hh a2
    | some u =>
      have hk := eP _ _ hh hb
      refine ⟨a1, by rw [hk]; simp, fun ds z => ?_, fun z => absurd (op.one p hp z) hb⟩
      obtain ⟨vs, v1, v2⟩ := a3 ds z
      rw [hh] at v1
      exact ⟨vs, by rw [hk]; exact v1, v2⟩
/-- _law_error(lambda: ..) -/
theorem w_err {q : Str} {t : XK → TE} (hq : q = tabQ) (op : OwP P ow) (kn : Known K CS c1 c2 c3 c4 c5 c6 c7 c8 D txt) (h : ∀ E, EvXW K (t E) es ow E D fun o' => R (.d (.str txt)) o') : EvW K (tErr K P q CS c1 c2 c3 c4 c5 c6 c7 c8 t) es ow R := fun σ G H e s o Q qq => by
  subst hq
  obtain ⟨_, _, _, p4⟩ := o _ op.mem
  refine ⟨(p4 rfl).1, fun H1 eP T1 E hE => ?_⟩
  obtain ⟨g1, s1⟩ := so_tab o op e eP T1
  refine h E σ G H1 g1.s s s1 (fun d G' H' ow' g2 s2 r x => hE _ d H' ⟨D, txt, rfl, kn, x, fun H'' e2 => ?_⟩) _
  have g3 : Gs G' H' ow' G' H'' ow' := ⟨Ex.refl _, g2.s.trans e2, fun b u hb n _ => ⟨e2 b u hb, n⟩, fun _ h => .inl h⟩
  refine qq _ G' H'' _ ow' ((g1.trans g2).trans g3) (.of (.str txt)) (fun p hp => ?_) r
  obtain ⟨a1, a2, a3, a4⟩ := s2 p hp
  cases hh : H' p.1 with
  | none => exact absurd hh a2
  | some u =>
    have hk := e2 _ _ hh
    refine ⟨a1, by rw [hk]; simp, fun ds z => ?_, fun z => ⟨(a4 z).1.ext e2, g2.s.trans e2⟩⟩
    obtain ⟨vs, v1, v2⟩ := a3 ds z
    rw [hh] at v1
    exact ⟨vs, by rw [hk]; exact v1, v2⟩
/-- [s] * n -/
theorem ev_rep {x : Str} {n : Nat} (hn : n ≤ 100) : EvD K (tOp rRep (tLst (tCons (tC (.str x)) tNil)) (tC (.int n))) es (.list (List.replicate n (.str x))) := fun σ G H e s Q q => by
  refine ⟨by show 1 ≤ sizeLine; decide, fun p hp => ?_⟩
  refine ⟨p, n, [V.str x], rfl, rfl, upd_same, by omega, by omega, by rw [sizeLine_eq]; show 1 * (n : Int).toNat ≤ _; omega, fun p2 hp2 => ?_⟩
  have g1 : Gn G H G (upd H p (.lst [V.str x])) := ⟨Ex.refl _, e.trans (Ex.new hp), fun b u hb hn => ⟨by rw [upd_ne (ne_of_none hb hp)]; exact hb, hn⟩⟩
  refine q _ _ _ (g1.trans (Gn.new g1.s hp2)) (.of (.lst (SqL.of upd_same) ?_))
  have : ∀ k : Nat, DpAll K (upd G p2 (.lst (List.replicate (n : Int).toNat [V.str x]).flatten)) (List.replicate k [V.str x]).flatten (List.replicate k (.str x)) := fun k => by
    induction k with
    | zero => exact .nil
    | succ k ih =>
      rw [List.replicate_succ, List.replicate_succ, List.flatten_cons]
      exact .cons (.str x) ih
  have h2 := this (n : Int).toNat
  rw [Int.toNat_natCast] at h2 ⊢
  exact h2
end
end DL

-- J1
set_option Elab.async false
set_option linter.all false
set_option maxRecDepth 100000
set_option maxHeartbeats 4000000
/-! The jar. -/
namespace DL
open PySem PySem.Calls L2 PyProof.Rows PySem.Spec LamX
def cellM (ns : List Int) : Int := if ns.headD 0 < 0 then -(ns.headD 0) else ns.headD 0
def jarM (ns : List Int) : Int × Int := (if cellM ns ≥ 10 ^ 18 then cellM ns / 13 + 71 * 5 else 0, (cellM ns * 101 + 1291 * 5) % 2077504273 + 97)
def jarL (j : Int × Int) : List PyData := [.int j.1, .int j.2]
def dipX (j : Int × Int) : Int := (j.2 * 30671 + 8807) % 2147483549
def dipJ (j : Int × Int) (m : Int) : Int × Int := if 0 < j.1 then (j.1 / m, j.2) else (j.1, dipX j)
def dipR (j : Int × Int) (m : Int) : Int := if 0 < j.1 then j.1 % m else (dipX j * (dipX j + 103)) % 2147483587 / 617 % m
def JarOk (j : Int × Int) : Prop := 0 ≤ j.2 ∧ j.2 < 2 ^ 32
theorem jar_ok (ns : List Int) : JarOk (jarM ns) := by
  unfold JarOk jarM
  have h1 := Int.emod_nonneg (cellM ns * 101 + 1291 * 5) (show (2077504273 : Int) ≠ 0 by decide)
  have h2 := Int.emod_lt_of_pos (cellM ns * 101 + 1291 * 5) (show (0 : Int) < 2077504273 by decide)
  constructor
  · show 0 ≤ _ % _ + 97; omega
  · show _ % _ + 97 < _; omega
theorem dipX_ok (j : Int × Int) : 0 ≤ dipX j ∧ dipX j < 2147483549 := ⟨Int.emod_nonneg _ (by decide), Int.emod_lt_of_pos _ (by decide)⟩
theorem dip_ok {j : Int × Int} {m : Int} (h : JarOk j) : JarOk (dipJ j m) := by
  unfold JarOk dipJ at *
  have := dipX_ok j
  split
  · exact h
  · exact ⟨this.1, by show dipX j < _; omega⟩
theorem dipR_ok {j : Int × Int} {m : Int} (h : 0 < m) : 0 ≤ dipR j m ∧ dipR j m < m := by
  unfold dipR
  split
  · exact ⟨Int.emod_nonneg _ (by omega), Int.emod_lt_of_pos _ h⟩
  · exact ⟨Int.emod_nonneg _ (by omega), Int.emod_lt_of_pos _ h⟩
section
variable {K : Kf} {es : Es} {ta tb te : TE}
theorem rc_int1 {i : Int} : RC K (fun xs H Q => (∃ i, xs = [.int i] ∧ Q (.int i) H) ∨ ∃ k, xs = [.bl k] ∧ Q (.int (if k then 1 else 0)) H) [.d (.int i)] (.d (.int i)) := fun G H vs ex k Q q => by
  obtain ⟨v, rfl, k1⟩ := skA1 k
  rw [dp_int k1]
  exact .inl ⟨i, rfl, q _ G H (Gn.refl ex) (.of (.int i))⟩
theorem rc_abs {i : Int} : RC K (fun xs H Q => ∃ i, xs = [.int i] ∧ Q (.int (if i < 0 then -i else i)) H) [.d (.int i)] (.d (.int (if i < 0 then -i else i))) := fun G H vs ex k Q q => by
  obtain ⟨v, rfl, k1⟩ := skA1 k
  rw [dp_int k1]
  exact ⟨i, rfl, q _ G H (Gn.refl ex) (.of (.int _))⟩
theorem ev_int1 {i : Int} (h : EvD K te es (.int i)) : EvD K (tCB (fun xs H Q => (∃ i, xs = [.int i] ∧ Q (.int i) H) ∨ ∃ k, xs = [.bl k] ∧ Q (.int (if k then 1 else 0)) H) (tCons te tNil)) es (.int i) := ev_cb (ea_one h) rc_int1
theorem ev_abs {i : Int} (h : EvD K te es (.int i)) : EvD K (tCB (fun xs H Q => ∃ i, xs = [.int i] ∧ Q (.int (if i < 0 then -i else i)) H) (tCons te tNil)) es (.int (if i < 0 then -i else i)) := ev_cb (ea_one h) rc_abs
theorem ev_mulS {i j : Int} (h1 : EvD K ta es (.int i)) (h2 : EvD K tb es (.int j)) (hc : CMul i j) : EvD K (tOp (rI CMul fun i j => .int (i * j)) ta tb) es (.int (i * j)) := ev_op h1 h2 (rv_I hc rfl)
theorem ev_divS {i j : Int} (h1 : EvD K ta es (.int i)) (h2 : EvD K tb es (.int j)) (hc : CDiv i j) : EvD K (tOp (rI CDiv fun i j => .int (i / j)) ta tb) es (.int (i / j)) := ev_op h1 h2 (rv_I hc rfl)
end
section
variable {P : Program} {w : World} {K : Kf} {mg : Str → Option Value} {base : Heap}
def rel__law_jar (xs : List Sl) (ow : Ow) (R : Sl → Ow → Prop) : Prop := ∃ ns : List Int, xs = [.d (.list (ns.map .int)), .d (.int 5)] ∧ ns.length ≤ 1000 ∧ ∀ l, (∀ p ∈ ow, p.1 ≠ l) → R (.r (.ref l)) ((l, some (jarL (jarM ns))) :: ow)
abbrev s__law_jar : Stmt := topS 35
abbrev N__law_jar : List Str := ["_law_script", "_law_turn", "_law_cell", "_law_great"]
theorem sc__law_jar : FnScope N__law_jar ["_law_script", "_law_turn"] (defScope s__law_jar) := ⟨rfl, rfl, rfl, by decide +kernel, rfl, by decide +kernel, by decide +kernel⟩
theorem df__law_jar {f : Addr} {fd : FuncData} {k : Nat} (F : Fun K "_law_jar" "_law_jar" s__law_jar f fd) (g : mg "_law_jar" = some (.ref f)) (T : Bl mg) :
    Df P w K mg base CX0 (k + 1) "_law_jar" ["_law_script", "_law_turn"] (spW K 2 rel__law_jar) := by
  refine dfw_ok F g sc__law_jar rfl (F.binds fun _ _ _ _ _ _ us hl => match us, hl with | [_, _], _ => rfl) fun cdv A outer s H E hr => ⟨_, (pss_cons (ps_set (i := 2) sc__law_jar.nd rfl (.inl rfl) (pe_callB call_abs (by rfl) T.abs (by decide +kernel) (pa_cons (pe_callTy call_int1 (by rfl) T.int (by decide +kernel) (pa_cons (pe_ix (ixK_list (K := K)) (pe_op (opK_catS (K := K)) (pe_callTy (crK_lstOf (K := K)) (by rfl) T.list (by decide +kernel) (pa_cons (pv 0) pa_nil)) (pe_lst (pa_cons pe_int pa_nil))) pe_int (fun _ _ => rfl)) pa_nil)) pa_nil)))
      (pss_cons (ps_set (i := 3) sc__law_jar.nd rfl (.inl rfl) (pe_ifExp (pt_cmpR op_ge (pv 2) (pe_op op_pow pe_int pe_int) (nomark _)) (pe_op op_add (pe_op op_fdiv (pv 2) pe_int) (pe_op op_mul pe_int (pv 1))) pe_int))
      (pss_one (ps_ret (pe_lst (pa_cons (pv 3) (pa_cons (pe_op op_add (pe_op op_mod (pe_callTy call_int1 (by rfl) T.int (by decide +kernel) (pa_cons (pe_op op_add (pe_op op_mul (pv 2) pe_int) (pe_op op_mul pe_int (pv 1))) pa_nil)) pe_int) pe_int) pa_nil))))))), fun xs ow R r hl => ?_⟩
  obtain ⟨ns, rfl, hn, hR⟩ := r
  have hat : atI (ns.map PyData.int ++ [.int 0]) 0 = some (.int (ns.headD 0)) := by
    cases ns with
    | nil => exact atI_nat (j := 0) rfl
    | cons a l => exact atI_nat (j := 0) rfl
  refine run_seq (run_asg (x := .d (.int (cellM ns))) (ev_abs (ev_int1 (ev_ixL (ev_catL (ds := ns.map .int) (fs := [.int 0]) (ev_lstOf (ev_var rfl)) (ev_lstD (ead_cons ev_int ead_nil)) (by rw [List.length_map]; show ns.length + 1 ≤ _; omega)) ev_int hat))) ?_)
  have e18 : ∀ es, EvD K (tOp (rI CPow fun i j => .int (i ^ j.toNat)) (tC (.int 10)) (tC (.int 18))) es (.int (10 ^ 18)) := fun es => (ev_pow ev_int ev_int ⟨by decide, by decide, by decide⟩).to (by rfl)
  refine run_seq (run_asg (x := .d (.int (if cellM ns ≥ 10 ^ 18 then cellM ns / 13 + 71 * 5 else 0))) (ev_if (et_test (ev_ge (ev_var rfl) (e18 _))) (fun z => ?_) (fun z => ?_)) ?_)
  · rw [if_pos (of_decide_eq_true z)]
    exact ev_add (ev_divS (ev_var rfl) ev_int ⟨by decide, by decide⟩) (ev_mulS ev_int (ev_var rfl) (.inl ⟨by decide, by decide⟩))
  · rw [if_neg (of_decide_eq_false z)]
    exact ev_int
  refine run_retW (w_newO (wa_cons (w_pure (x := .d (.int (jarM ns).1)) (ev_var rfl) (wa_cons (w_pure (x := .d (.int (jarM ns).2)) (ev_add (ev_mod (ev_int1 (ev_add (ev_mulS (ev_var rfl) ev_int (.inr ⟨by decide, by decide⟩)) (ev_mulS ev_int (ev_var rfl) (.inl ⟨by decide, by decide⟩)))) ev_int (by decide)) ev_int) (wa_nil ⟨jarL (jarM ns), rfl, show 2 ≤ 100000 by decide, hR⟩))))))
def rel__law_dip (xs : List Sl) (ow : Ow) (R : Sl → Ow → Prop) : Prop := ∃ (J : Addr) (j : Int × Int) (m : Int) (rest : Ow), xs = [.r (.ref J), .d (.int m)] ∧ ow = (J, some (jarL j)) :: rest ∧ (∀ p ∈ rest, p.1 ≠ J) ∧ 0 < m ∧ m < 1000000000 ∧ JarOk j ∧ R (.d (.int (dipR j m))) ((J, some (jarL (dipJ j m))) :: rest)
abbrev s__law_dip : Stmt := topS 36
abbrev N__law_dip : List Str := ["_law_jar_here", "_law_many", "_law_found", "_law_deep"]
theorem sc__law_dip : FnScope N__law_dip ["_law_jar_here", "_law_many"] (defScope s__law_dip) := ⟨rfl, rfl, rfl, by decide +kernel, rfl, by decide +kernel, by decide +kernel⟩
theorem df__law_dip {f : Addr} {fd : FuncData} {k : Nat} (F : Fun K "_law_dip" "_law_dip" s__law_dip f fd) (g : mg "_law_dip" = some (.ref f)) (T : Bl mg) :
    Df P w K mg base CX0 (k + 1) "_law_dip" ["_law_jar_here", "_law_many"] (spW K 2 rel__law_dip) := by
  refine dfw_ok F g sc__law_dip rfl (F.binds fun _ _ _ _ _ _ us hl => match us, hl with | [_, _], _ => rfl) fun cdv A outer s H E hr => ⟨_, (pss_cons (ps_if (pt_cmpR op_gt (pe_ix (ixK_list (K := K)) (pv 0) pe_int (fun _ _ => rfl)) pe_int (nomark _)) (pss_cons (ps_set (i := 2) sc__law_dip.nd rfl (.inl rfl) (pe_op op_mod (pe_callTy call_int1 (by rfl) T.int (by decide +kernel) (pa_cons (pe_ix (ixK_list (K := K)) (pv 0) pe_int (fun _ _ => rfl)) pa_nil)) (pv 1)))
      (pss_cons (ps_asg (pe_op op_fdiv (pe_ix (ixK_list (K := K)) (pv 0) pe_int (fun _ _ => rfl)) (pv 1)) (pg_sub (pv 0) pe_int set_list))
      (pss_one (ps_ret (pv 2))))) pss_nil)
      (pss_cons (ps_asg (pe_op op_mod (pe_callTy call_int1 (by rfl) T.int (by decide +kernel) (pa_cons (pe_op op_add (pe_op op_mul (pe_ix (ixK_list (K := K)) (pv 0) pe_int (fun _ _ => rfl)) pe_int) pe_int) pa_nil)) pe_int) (pg_sub (pv 0) pe_int set_list))
      (pss_cons (ps_set (i := 3) sc__law_dip.nd rfl (.inl rfl) (pe_op op_mod (pe_callTy call_int1 (by rfl) T.int (by decide +kernel) (pa_cons (pe_op op_mul (pe_ix (ixK_list (K := K)) (pv 0) pe_int (fun _ _ => rfl)) (pe_op op_add (pe_ix (ixK_list (K := K)) (pv 0) pe_int (fun _ _ => rfl)) pe_int)) pa_nil)) pe_int))
      (pss_one (ps_ret (pe_op op_mod (pe_callTy call_int1 (by rfl) T.int (by decide +kernel) (pa_cons (pe_op op_fdiv (pv 3) pe_int) pa_nil)) (pv 1))))))), fun xs ow R r hl => ?_⟩
  obtain ⟨J, j, m, rest, rfl, rfl, hrest, hm, hm2, hj, hR⟩ := r
  have a0 : ∀ j : Int × Int, atI (jarL j) 0 = some (.int j.1) := fun j => atI_nat (j := 0) rfl
  have a1 : ∀ j : Int × Int, atI (jarL j) 1 = some (.int j.2) := fun j => atI_nat (j := 1) rfl
  have hx := dipX_ok j
  refine run_seq (run_ifW (wt_test (w_op (w_ixO (l := J) (ds := jarL j) rfl (List.mem_cons_self ..) (a0 j) (w_pure ev_int ⟨.d (.bool (decide (0 < j.1))), rv_I0 rfl, _, rfl, fun hp => ?_, fun hp => run_next ?_⟩)))))
  · have hp := of_decide_eq_true hp
    refine run_seq (run_asgW (w_op (w_cb (wa_cons (w_ixO (l := J) (ds := jarL j) rfl (List.mem_cons_self ..) (a0 j) (wa_nil ⟨.d (.int j.1), rc_int1, w_pure (x := .d (.int m)) (ev_var rfl) ⟨.d (.int (j.1 % m)), rv_I (C := fun _ j => 0 < j) hm rfl, ?_⟩⟩))))))
    refine run_seq (run_setO (l := J) (ds := jarL j) (j := 0) (n := 0) rfl hrest rfl (w_op (w_ixO (l := J) (ds := jarL j) rfl (List.mem_cons_self ..) (a0 j) (w_pure (x := .d (.int m)) (ev_var rfl) ⟨.d (.int (j.1 / m)), rv_I (C := CDiv) ⟨hm, by omega⟩ rfl, _, rfl, rfl, ?_⟩))))
    refine run_ret (x := .d (.int (j.1 % m))) (ev_var rfl) ?_
    unfold dipR dipJ at hR
    rw [if_pos hp, if_pos hp] at hR
    exact hR
  · have hp : ¬ 0 < j.1 := of_decide_eq_false hp
    unfold dipR dipJ at hR
    rw [if_neg hp, if_neg hp] at hR
    refine run_seq (run_setO (l := J) (ds := jarL j) (j := 1) (n := 1) rfl hrest rfl (w_op (w_cb (wa_cons (w_op (w_op (w_ixO (l := J) (ds := jarL j) rfl (List.mem_cons_self ..) (a1 j) (w_pure ev_int ⟨.d (.int (j.2 * 30671)), rv_I (C := CMul) (.inr ⟨by decide, by decide⟩) rfl, w_pure ev_int ⟨.d (.int (j.2 * 30671 + 8807)), rv_I0 rfl, wa_nil ⟨_, rc_int1, w_pure ev_int ⟨.d (.int (dipX j)), rv_I (C := fun _ j => 0 < j) (by decide) rfl, _, rfl, rfl, ?_⟩⟩⟩⟩))))))))
    have b1 : atI (jarL (j.1, dipX j)) 1 = some (.int (dipX j)) := a1 _
    refine run_seq (run_asgW (w_op (w_cb (wa_cons (w_op (w_ixO (l := J) (ds := jarL (j.1, dipX j)) rfl (List.mem_cons_self ..) b1 (w_op (w_ixO (l := J) (ds := jarL (j.1, dipX j)) rfl (List.mem_cons_self ..) b1 (w_pure ev_int ⟨.d (.int (dipX j + 103)), rv_I0 rfl, ⟨.d (.int (dipX j * (dipX j + 103))), rv_I (C := CMul) (.inl ⟨by omega, by omega⟩) rfl, wa_nil ⟨_, rc_int1, w_pure ev_int ⟨.d (.int ((dipX j * (dipX j + 103)) % 2147483587)), rv_I (C := fun _ j => 0 < j) (by decide) rfl, ?_⟩⟩⟩⟩)))))))))
    exact run_ret (x := .d (.int ((dipX j * (dipX j + 103)) % 2147483587 / 617 % m))) (ev_mod (ev_int1 (ev_divS (ev_var rfl) ev_int ⟨by decide, by decide⟩)) (ev_var rfl) hm) hR
end
end DL

-- W3
set_option Elab.async false
set_option linter.all false
set_option maxRecDepth 100000
set_option maxHeartbeats 4000000
/-! [.. for x in (v1, v2)] with effects; not in. -/
namespace DL
open PySem PySem.Calls L2 PyProof.Rows PySem.Spec LamX
section
variable {K : Kf} {es : Es} {ow : Ow} {te ta tb : TE} {R : Sl → Ow → Prop}
theorem ev_rd {i : Int} (h : Ev K te es (.r (.int i))) : EvD K te es (.int i) := fun σ G H e s Q q => h σ G H e s _ fun v G1 H1 g1 k1 => by
  cases (show some v = some (V.int i) from k1)
  exact q _ G1 H1 g1 (.of (.int i))
theorem rv_neS {x y : Str} : RV K rNe (.d (.str x)) (.d (.str y)) (.d (.bool (!decide (x = y)))) := fun G H v u ex k1 k2 Q q => by
  have k1 := k1.dp
  have k2 := k2.dp
  cases k1
  cases k2
  refine ⟨rfl, ?_⟩
  have : decide (V.str x = V.str y) = decide (x = y) := by
    by_cases h : x = y
    · subst h; simp
    · rw [decide_eq_false h, decide_eq_false fun z => h (V.str.inj z)]
  rw [this]
  exact q _ G H (Gn.refl ex) (.of (.bl _))
theorem rv_notInD {d : PyData} {ds : List PyData} (s1 : SeqAt.shaped d = true) (s2 : SeqAt.shaped (.list ds) = true) : RV K (rNotInD K) (.d d) (.d (.list ds)) (.d (.bool (!ds.any fun z => PyData.eqv z d))) := fun G H v u ex k1 k2 Q q =>
  ⟨d, ds, dp_ex ex _ _ k1.dp, dp_ex ex _ _ k2.dp, s1, s2, q _ G H (Gn.refl ex) (.of (.bl _))⟩
theorem ev_notInD {d : PyData} {ds : List PyData} (h1 : EvD K ta es d) (h2 : EvD K tb es (.list ds)) (s1 : SeqAt.shaped d = true) (s2 : SeqAt.shaped (.list ds) = true) : EvD K (tOp (rNotInD K) ta tb) es (.bool (!ds.any fun z => PyData.eqv z d)) := ev_op h1 h2 (rv_notInD s1 s2)
theorem opK_notInD {X : Cx} (hu : X.A.units + 65 < cLine) (h : X.K = K := by rfl) : OpR X (compareOp .NotIn) (rNotInD K) := h ▸ op_notInD hu
theorem set_wipe {σ : L2.St} {u : Nat} : ∀ ws : List Nat, u ∈ ws → (wipe σ ws).set u none = wipe σ ws
  | w :: ws, h => by
    show ((wipe σ ws).set w none).set u none = (wipe σ ws).set w none
    by_cases hw : u = w
    · subst hw; rw [List.set_set]
    · rw [List.set_comm _ _ (fun z => hw z.symm), set_wipe ws ((List.mem_cons.mp h).resolve_left hw)]
theorem wipe_wipe {σ : L2.St} {vs : List Nat} : ∀ us : List Nat, (∀ u ∈ us, u ∈ vs) → wipe (wipe σ vs) us = wipe σ vs
  | [], _ => rfl
  | u :: us, h => by
    show (wipe (wipe σ vs) us).set u none = wipe σ vs
    rw [wipe_wipe us fun a ha => h a (List.mem_cons_of_mem _ ha), set_wipe vs (h u (List.mem_cons_self ..))]
theorem w_lc2 {v1 v2 : V} {j : Nat} {vs : List Nat} {y1 y2 : PyData} (hj : j ∈ vs) (h1 : ∀ D, EvW K te ((wipeE es vs).set j (.r v1)) ((D, some []) :: ow) fun x o => x = .d y1 ∧ o = (D, some []) :: ow)
    (h2 : ∀ D, EvW K te ((wipeE es vs).set j (.r v2)) ((D, some [y1]) :: ow) fun x o => x = .d y2 ∧ o = (D, some [y1]) :: ow) (r : R (.d (.list [y1, y2])) ow) :
    EvW K (tLc (iTup K (tTup (tCons (tC v1) (tCons (tC v2) tNil)))) (gName j) tYes te vs) es ow R := fun σ G H e s o Q q => by
  refine ⟨by show 2 ≤ sizeLine; decide, fun T hT => ?_⟩
  have g0 : Gn G H (upd G T (.tup [v1, v2])) (upd H T (.tup [v1, v2])) := Gn.new e hT
  generalize hG1 : upd G T (.tup [v1, v2]) = G1 at g0
  generalize hH1 : upd H T (.tup [v1, v2]) = H1 at g0
  have t1 : SqT K G1 T [v1, v2] := by rw [← hG1]; exact SqT.of upd_same
  have s1 := s.ex g0.g
  have o1 := o.gn g0
  refine ⟨T, rfl, ⟨_, ex_t g0.s t1⟩, fun D hD => ?_⟩
  have ne : ∀ p ∈ ow, p.1 ≠ D := fun p hp z => (o1 p hp).2.1 (by rw [z]; exact hD)
  refine ⟨fun i m H' => m = 2 - i ∧ i ≤ 2 ∧ ∃ G', Gs G1 H1 ow G' H' ((D, some ([y1, y2].take i)) :: ow) ∧ So K G' H' ((D, some ([y1, y2].take i)) :: ow), ⟨2, rfl, by omega, G1, ?_⟩, ?_⟩
  · have ex1 : Ex G1 (upd H1 D (.lst [])) := g0.s.trans (Ex.new hD)
    refine ⟨⟨Ex.refl _, ex1, fun b q hb hn _ => ⟨by rw [upd_ne (ne_of_none hb hD)]; exact hb, hn⟩, fun b hb => ?_⟩, fun q hq => ?_⟩
    · rcases List.mem_cons.mp hb with rfl | hb
      · exact .inr hD
      · exact .inl hb
    · rcases List.mem_cons.mp hq with rfl | hq
      · exact ⟨g0.s.free hD, by show upd H1 D _ D ≠ none; rw [upd_same]; simp, fun ds e' => by cases e'; exact ⟨[], upd_same, .nil⟩, fun z => by cases z⟩
      · obtain ⟨a1, a2, a3, a4⟩ := o1 q hq
        have nq := ne q hq
        exact ⟨a1, by rw [upd_ne nq]; exact a2, fun ds' e' => by rw [upd_ne nq]; exact a3 ds' e', fun z => ⟨(a4 z).1.ext (Ex.new hD), ex1⟩⟩
  · rintro i m H' ⟨rfl, hi, G', gs, so⟩
    have tH : SqT K H' T [v1, v2] := ex_t (gs.g.trans gs.s) t1
    have step : ∀ (k : Nat) (v : V) (y : PyData), i = k → k < 2 → [v1, v2][k]? = some v → [y1, y2].take (k + 1) = [y1, y2].take k ++ [y] → EvW K te ((wipeE es vs).set j (.r v)) ((D, some ([y1, y2].take k)) :: ow) (fun x o => x = .d y ∧ o = (D, some ([y1, y2].take k)) :: ow) →
        (∃ xs x, SqT K H' T xs ∧ xs[i]? = some x) ∧ ∃ Nx : Hp → Prop, (∀ H'', Nx H'' → ∃ m', m' < 2 - i ∧ (m' = 2 - (i + 1) ∧ i + 1 ≤ 2 ∧ ∃ G', Gs G1 H1 ow G' H'' ((D, some ([y1, y2].take (i + 1))) :: ow) ∧ So K G' H'' ((D, some ([y1, y2].take (i + 1))) :: ow))) ∧
          ∀ x H'', (Itt K T).yld i H' x H'' → gName j x (wipe σ vs) H'' fun σ2 H2 => wipe σ2 vs = wipe σ vs ∧ tYes σ2 H2 fun b H3 => if b = true then te σ2 H3 fun y H4 => ∃ acc, H4 D = some (.lst acc) ∧ acc.length < sizeLine ∧ Nx (upd H4 D (.lst (acc ++ [y]))) else Nx H3 := by
      intro k v y ek hk hv ht hE
      subst ek
      refine ⟨⟨_, v, tH, hv⟩, fun H2 => ∃ G2, Gs G1 H1 ow G2 H2 ((D, some ([y1, y2].take (i + 1))) :: ow) ∧ So K G2 H2 ((D, some ([y1, y2].take (i + 1))) :: ow), fun H2 ⟨G2, a1, a2⟩ => ⟨2 - (i + 1), by omega, rfl, by omega, G2, a1, a2⟩, fun x H2 hy => ?_⟩
      obtain ⟨rfl, hy⟩ := hy
      have := hy _ tH
      rw [hv] at this
      cases this
      have sw : Sd K G' (wipe σ vs) (wipeE es vs) := (s1.ex gs.g).wipe vs
      refine ⟨?_, ?_⟩
      · rw [By.set vs (fun a ha => by have : a = j := by simpa using ha
                                      rw [this]; exact hj)]
        exact wipe_wipe vs fun _ h => h
      · refine hE _ G' H2 gs.s (sw.set (show Sk K G' (some v) (.r v) from rfl)) so _ fun u G3 H3 x o3 g3 k3 s3 ⟨ex, eo⟩ => ?_
        subst ex eo
        obtain ⟨_, _, p3, _⟩ := s3 _ (List.mem_cons_self ..)
        obtain ⟨acc, w1, w2⟩ := p3 _ rfl
        have w1 : H3 D = some (.lst acc) := w1
        obtain ⟨g4, s4⟩ := so_upd s3 ne w1 g3.s (dpa_app w2 (.cons k3.dp .nil))
        have hlen : acc.length < sizeLine := by rw [dpa_len w2, List.length_take, sizeLine_eq]; show min i 2 < _; omega
        refine ⟨acc, w1, hlen, G3, ?_, ?_⟩
        · rw [ht]; exact (gs.trans g3).trans g4
        · rw [ht]; exact s4
    match i, hi with
    | 0, _ => exact .inr (step 0 v1 y1 rfl (by decide) rfl rfl (h1 D))
    | 1, _ => exact .inr (step 1 v2 y2 rfl (by decide) rfl rfl (h2 D))
    | 2, _ =>
      refine .inl ⟨⟨_, tH, show 2 ≤ 2 by decide⟩, ?_⟩
      obtain ⟨z1, _, p3, _⟩ := so _ (List.mem_cons_self ..)
      obtain ⟨acc, w1, w2⟩ := p3 _ rfl
      have w1 : H' D = some (.lst acc) := w1
      have z1 : G' D = none := z1
      have eg := Ex.new (o := .lst acc) z1
      have g5 : Gs G' H' ((D, some [y1, y2]) :: ow) (upd G' D (.lst acc)) H' ow := ⟨eg, fun b u hb => by
          by_cases hbl : b = D
          · rw [hbl, upd_same] at hb; cases hb; rw [hbl]; exact w1
          · rw [upd_ne hbl] at hb; exact gs.s b u hb,
        fun b u hb hn no => ⟨hb, by rw [upd_ne (fun z => no (by rw [z]; simp))]; exact hn⟩, fun b hb => .inl (List.mem_cons_of_mem _ hb)⟩
      refine q _ _ H' _ ow ((g0.gs.trans gs).trans g5) (.of (.lst (SqL.of upd_same) (dpa_ex eg _ _ w2))) (fun p hp => ?_) r
      obtain ⟨a1, a2, a3, a4⟩ := so p (List.mem_cons_of_mem _ hp)
      exact ⟨by rw [upd_ne (ne p hp)]; exact a1, a2, fun ds' e' => by
        obtain ⟨ws, u1, u2⟩ := a3 ds' e'
        exact ⟨ws, u1, dpa_ex eg _ _ u2⟩, fun z => ⟨(a4 z).1, g5.s⟩⟩
end
/-- a call of a captured name that holds one of several defs -/
theorem pe_callV {X : Cx} {CX : CXT} {S : Addr → Prop} {spC : Sp} {k i : Nat} {E : XK} {x : Str} {p pos : Pos} {e : Expr} {es : List Expr} {t : TA} (hS : ∀ f, S f → ∃ fd ps, FnOk X.prog X.w X.K X.mg X.base CX k f fd ps spC ∧ PySem.W.keepIn X.K (.ref f) = true ∧ Binds X.K fd ps [])
    (hr : Room k X.A) (hN : X.N[i]? = some x) (hv : Vis X.env.scope x) (hx : Passes CX X E) (ha : PA X (e :: es) t)
    (hdb : (x == ("__debug__" : Str)) = false := by decide) (hcd : (x == ("__classdict__" : Str)) = false := by decide)
    (he : starEach (e :: es) X.env = (false, eval e X.env) :: starEach es X.env := by rfl) (hpl : (backTo pos (starEach es X.env)).any (·.1) = false := by rfl) :
    PE X (.Call (.Name x p) (e :: es) [] pos) (fun σ H Q => ∃ f, S f ∧ σ[i]? = some (some (.ref f)) ∧ t σ H fun vs H1 => spC (vs ++ []) H1 Q E) := by
  refine ⟨fun pins s σ H Q I ⟨f, h1, h2, h3⟩ => ?_⟩
  obtain ⟨fd, ps, F, hk, hb⟩ := hS f h1
  exact (pe_callL (i := i) (f := f) (sp := spC) (dvs := []) (E := E) F hr hN hv hk hb .nil hx ha hdb hcd he hpl).run pins s σ H Q I ⟨h2, h3⟩
end DL

-- R1
set_option Elab.async false
set_option linter.all false
set_option maxRecDepth 100000
set_option maxHeartbeats 8000000
/-! _law_refused. -/
namespace DL
open PySem PySem.Calls L2 PyProof.Rows PySem.Spec LamX
theorem pe_errorK {X : Cx} {K : Kf} {CS c1 c2 c3 c4 c5 c6 c7 c8 : Addr} {k : Nat} {c P : Addr} {params : Arguments} {body : Expr} {scope : Scope} {t : XK → TE} {p lpos pos : Pos} (EK : ErrK K X.mg CS c1 c2 c3 c4 c5 c6 c7 c8) (hg : Gl X "_law_error")
    (TB : TabB X.base X.mg c P) (hcode : X.env.code = .ref c) (hr : Room (k + 2) X.A) (L : LamS X.env.scope scope) (hdef : defaultsOf params X.env = ([], []))
    (hbind : ∀ (q : Str) (cl : List (Str × Addr)) (pm cv ctv : Value), bindArgs (PySem.W.kla_fn "<lambda>" q params body scope cl pm cv ctv) ⟨[], []⟩ = pure [])
    (hbody : ∀ (A : Around) (outer : List Env) (s : Shared) (H : Hp) (E : XK) (f c' : Addr), Room k (A.deeper (lamEnv X scope s.heap.objs.size f c')) → PE (lamN X A outer s H E scope f c') body (t E)) (hK : X.K = K := by rfl) (hq : X.env.qual ++ "<lambda>" = tabQ := by rfl) :
    PE X (.Call (.Name "_law_error" p) [.Lambda params body scope lpos] [] pos) (tErr K P tabQ CS c1 c2 c3 c4 c5 c6 c7 c8 t) := by
  subst hK
  rw [← hq]
  exact pe_error EK hg TB hcode hr L hdef hbind hbody
/-- the code object of the def at f -/
def CodeAt (K : Kf) (f c : Addr) : Prop := ∃ o fd, K.lookup f = some o ∧ o.data = .func fd ∧ fd.code = .ref c
theorem xw_callV {K : Kf} {es : Es} {ow : Ow} {E : XK} {D : Addr} {O : Ow → Prop} {n i : Nat} {f : Addr} {S : Addr → Prop} {ta : TA} {xs : List Sl} {rel : List Sl → Sl → Prop} {relE : List Sl → Value → Prop} (hi : es[i]? = some (.r (.ref f))) (hS : S f) (h : EvA K ta es xs) (hr : relE xs (.ref D)) (o : O ow) (hl : xs.length = n := by rfl) :
    EvXW K (fun σ H Q => ∃ f, S f ∧ σ[i]? = some (some (.ref f)) ∧ ta σ H fun vs H1 => spE K n rel relE (vs ++ []) H1 Q E) es ow E D O := fun σ G H e s so q Q => by
  obtain ⟨v, hv, ev⟩ := (ev_var (K := K) hi) σ G H e s (fun v _ => v = .ref f) fun v G' H' g k => Option.some.inj (show some v = some (V.ref f) from k)
  subst ev
  refine ⟨f, hS, hv, h σ G H e s _ fun vs G1 H1 g1 k1 => ?_⟩
  rw [List.append_nil]
  exact ⟨k1.len.trans hl, G1, xs, g1.s, k1, .inr ⟨_, hr, fun d G2 H2 g2 x => q d G2 H2 ow (g1.trans g2).gs (so.gn (g1.trans g2)) o x⟩⟩
theorem fold_jar : ∀ (l : List PyData) (j : Int × Int), JarOk j → JarOk (l.foldl (fun j _ => dipJ j 12) j)
  | [], _, h => h
  | _ :: l, _, h => fold_jar l _ (dip_ok h)
section
variable {P : Program} {w : World} {K : Kf} {mg : Str → Option Value} {base : Heap}
theorem fn_weak {CX : CXT} {k n : Nat} {f : Addr} {fd : FuncData} {ps : List Str} {rel : List Sl → Sl → Prop} {relE : List Sl → Value → Prop} (F : FnOk P w K mg base CX k f fd ps (spE K n rel relE)) : FnOk P w K mg base CX k f fd ps (spE K n (fun _ _ => False) relE) := by
  have key : ∀ vs H Q E, spE K n (fun _ _ => False) relE vs H Q E → spE K n rel relE vs H Q E := fun vs H Q E ⟨h1, G, xs, h2, h3, h4⟩ => ⟨h1, G, xs, h2, h3, h4.elim (fun ⟨_, z, _⟩ => z.elim) .inr⟩
  exact ⟨fun vs H Q E h => F.len vs H Q E (key vs H Q E h), fun A outer s H args us vs Q E h1 h2 h3 h4 h5 => F.run A outer s H args us vs Q E h1 h2 h3 h4 (key _ _ _ _ h5)⟩
theorem dfwR_ok {x : Str} {st : Stmt} {f c : Addr} {fd : FuncData} {NN ps : List Str} {n k : Nat} {rel : List Sl → Ow → (Sl → Ow → Prop) → Prop} (F : Fun K x x st f fd) (g : mg x = some (.ref f)) (hc : CodeAt K f c) (S : FnScope NN ps (defScope st)) (hp : ps.length = n) (hb : Binds K fd ps [])
    (body : ∀ (A : Around) (outer : List Env) (s : Shared) (H : Hp) (E : XK), Room k (A.deeper (envOfC x (defScope st) s.heap.objs.size f (.ref c))) →
      ∃ t, PSs (cxOf CX0 P w K mg base NN x (defScope st) f (.ref c) A outer s H E).nox (defBody st) t ∧ ∀ xs ow R, rel xs ow R → xs.length = n → Run K t (startE NN.length xs) ow { nx := fun _ o => R (.d .none) o, rt := R }) :
    Df P w K mg base CX0 (k + 1) x ps (spW K n rel) := by
  have hpn : n ≤ NN.length := by have := congrArg List.length S.pre; rw [List.length_take] at this; omega
  have kp := F.kp
  obtain ⟨oc, od, kV, doc, pm, an, cdv, ct, osl, rfl, lk, hcd⟩ := F.ex
  obtain ⟨o, fd', e1, e2, e3⟩ := hc
  rw [lk] at e1
  cases e1
  cases e2
  have e3 : cdv = .ref c := e3
  subst e3
  refine ⟨f, _, fn_of lk hcd S (fun vs H Q E h => (spW_len vs H Q E h).trans hp.symm) (fun A outer s H vs Q E hr h => ?_), g, kp, hb⟩
  obtain ⟨t, h1, h2⟩ := body A outer s H E hr
  exact ⟨t, h1.nox, body_ofW (E := E) h hpn h2⟩
def rel__law_refused (PT : Addr) (xs : List Sl) (ow : Ow) (R : Sl → Ow → Prop) : Prop := ∃ (J : Addr) (j : Int × Int), xs = [.r (.ref J)] ∧ ow = [(J, some (jarL j)), (PT, none)] ∧ PT ≠ J ∧ JarOk j ∧ ∀ j', JarOk j' → R (.d (.bool true)) [(J, some (jarL j')), (PT, none)]
def oddA : List PyData := [.none, .int 0, .int 13, .bool true, .str "3"]
def oddB : List PyData := [.none, .int 0, .int 61, .bool true, .str "3"]
def oddC : List PyData := [.none, .int 0, .int (-1), .int (10 ^ 30 + 1), .bool true]
theorem odd_a : ∀ d ∈ oddA, Scal d ∧ isW d 1 12 = false := by
  intro d hd
  simp only [oddA, List.mem_cons, List.not_mem_nil, or_false] at hd
  rcases hd with rfl | rfl | rfl | rfl | rfl <;> exact ⟨trivial, rfl⟩
theorem odd_b : ∀ d ∈ oddB, Scal d ∧ isW d 1 60 = false := by
  intro d hd
  simp only [oddB, List.mem_cons, List.not_mem_nil, or_false] at hd
  rcases hd with rfl | rfl | rfl | rfl | rfl <;> exact ⟨trivial, rfl⟩
theorem odd_c : ∀ d ∈ oddC, Scal d ∧ isW d 1 (10 ^ 30) = false := by
  intro d hd
  simp only [oddC, List.mem_cons, List.not_mem_nil, or_false] at hd
  rcases hd with rfl | rfl | rfl | rfl | rfl <;> exact ⟨trivial, by decide +kernel⟩
abbrev s__law_refused : Stmt := topS 47
abbrev N__law_refused : List Str := ["_law_jar_here", "_law_words", "_law_odd", "_law_call", "_law_many"]
theorem sc__law_refused : FnScope N__law_refused ["_law_jar_here"] (defScope s__law_refused) := ⟨rfl, rfl, rfl, by decide +kernel, rfl, by decide +kernel, by decide +kernel⟩
theorem df__law_refused {f c PT CS c1 c2 c3 c6 c7 C1 C2 C3 : Addr} {fd : FuncData} {k : Nat} (F : Fun K "_law_refused" "_law_refused" s__law_refused f fd) (g : mg "_law_refused" = some (.ref f)) (T : Bl mg) (hc : CodeAt K f c) (TB : TabB base mg c PT) (EK : ErrK K mg CS c1 c2 c3 C1 C3 c6 c7 C2)
    (kn1 : Known K CS c1 c2 c3 C1 C3 c6 c7 C2 C1 "things value") (kn3 : Known K CS c1 c2 c3 C1 C3 c6 c7 C2 C3 "number value") (kn2 : Known K CS c1 c2 c3 C1 C3 c6 c7 C2 C2 "many value") (D__law_dip : Df P w K mg base CX0 k "_law_dip" ["_law_jar_here", "_law_many"] (spW K 2 rel__law_dip)) (D_all_fields : Df P w K mg base (L2N.CX P w) k "all_fields" ["things"] (spE K 1 rel_all_fields (relE_all_fields C1 C2))) (D_count_closed_fields : Df P w K mg base (L2N.CX P w) k "count_closed_fields" ["many"] (spE K 1 rel_count_closed_fields (relE_count_fields C1))) (D_count_fields : Df P w K mg base (L2N.CX P w) k "count_fields" ["many"] (spE K 1 rel_count_fields (relE_count_fields C1))) (D_count_off_planes : Df P w K mg base (L2N.CX P w) k "count_off_planes" ["things", "number"] (spE K 2 rel_count_off_planes (relE_count_off_planes C1 C3))) (D_middle_field : Df P w K mg base (L2N.CX P w) k "middle_field" ["things"] (spE K 1 rel_middle_field (relE_middle_field C1))) :
    Df P w K mg base CX0 (k + 3) "_law_refused" ["_law_jar_here"] (spW K 1 (rel__law_refused PT)) := by
  obtain ⟨fa, fda, Fa, ga, ka, ba⟩ := D_count_fields.ex
  obtain ⟨fb, fdb, Fb, gb, kb, bb⟩ := D_count_closed_fields.ex
  have hS : ∀ f, (f = fa ∨ f = fb) → ∃ fd ps, FnOk P w K mg base (L2N.CX P w) k f fd ps (spE K 1 (fun _ _ => False) (relE_count_fields C1)) ∧ PySem.W.keepIn K (.ref f) = true ∧ Binds K fd ps [] := fun f h => by
    rcases h with rfl | rfl
    · exact ⟨_, _, fn_weak Fa, ka, ba⟩
    · exact ⟨_, _, fn_weak Fb, kb, bb⟩
  refine dfwR_ok F g hc sc__law_refused rfl (F.binds fun _ _ _ _ _ _ us hl => match us, hl with | [_], _ => rfl) fun A outer s H E hr => ⟨_, (pss_cons (ps_for PassesOwn.never rfl (piK_tup (K := K) (pe_tup (pa_cons pe_non (pa_cons pe_int (pa_cons pe_int (pa_cons pe_bl (pa_cons pe_str pa_nil))))))) (pg_name (i := 2) sc__law_refused.nd rfl (Or.inr rfl)) (pss_cons (ps_set (i := 1) sc__law_refused.nd rfl (.inl rfl) (pe_lst (pa_cons (pe_errorK (K := K) (k := k) (c := c) (P := PT) EK (by rfl) TB (by rfl) hr (lamS_by (sc := defScope s__law_refused) (by decide +kernel)) (by rfl) (fun _ _ _ _ _ => rfl) (fun A2 outer2 s2 H2 E2 f2 c2 hr2 => (pe_df (E := E2) D_middle_field hr2 (by rfl) (L2N.passes_call lamN_takes fun _ _ _ _ h => h) (pa_cons (pv 2) pa_nil)))) pa_nil)))
      (pss_cons (ps_expr (pe_bm PySem.F.plainAttrs_list PySem.F.slot_list_append PySem.F.type_list_append mt_append (pv 1) (pa_cons (pe_errorK (K := K) (k := k) (c := c) (P := PT) EK (by rfl) TB (by rfl) hr (lamS_by (sc := defScope s__law_refused) (by decide +kernel)) (by rfl) (fun _ _ _ _ _ => rfl) (fun A2 outer2 s2 H2 E2 f2 c2 hr2 => (pe_df (E := E2) D_count_off_planes hr2 (by rfl) (L2N.passes_call lamN_takes fun _ _ _ _ h => h) (pa_cons (pv 2) (pa_cons pe_non pa_nil))))) pa_nil)))
      (pss_one (ps_if (pt_cmpR (opK_neD (K := K) hr.units) (pe_op (opK_catS (K := K)) (pv 1) (pe_lst (pa_cons (pe_errorK (K := K) (k := k) (c := c) (P := PT) EK (by rfl) TB (by rfl) hr (lamS_by (sc := defScope s__law_refused) (by decide +kernel)) (by rfl) (fun _ _ _ _ _ => rfl) (fun A2 outer2 s2 H2 E2 f2 c2 hr2 => (pe_df (E := E2) D_all_fields hr2 (by rfl) (L2N.passes_call lamN_takes fun _ _ _ _ h => h) (pa_cons (pv 2) pa_nil)))) pa_nil))) (pe_op op_rep (pe_lst (pa_cons pe_str pa_nil)) pe_int) (nomark _)) (pss_one (ps_ret pe_bl)) pss_nil)))))
      (pss_cons (ps_for PassesOwn.never rfl (piK_tup (K := K) (pe_tup (pa_cons pe_non (pa_cons pe_int (pa_cons pe_int (pa_cons pe_bl (pa_cons pe_str pa_nil))))))) (pg_name (i := 2) sc__law_refused.nd rfl (Or.inr rfl)) (pss_one (ps_if (pt_cmpR (opK_neD (K := K) hr.units) (pe_lc (own := [("_law_call", 3)]) (g := (gName 3)) rfl sc__law_refused.nd (piK_tup (K := K) (pe_tup (pa_cons (pe_glob (v := .ref fa) (by rfl) ga rfl) (pa_cons (pe_glob (v := .ref fb) (by rfl) gb rfl) pa_nil)))) (blkOk_by (own := [("_law_call", 3)]) (N := N__law_refused) (sc := defScope s__law_refused) (by decide +kernel)) (fun _ _ _ _ _ => (pg_name (i := 3) sc__law_refused.nd rfl (Or.inr rfl))) (fun _ _ _ _ _ => pts_nil) (fun _ _ _ _ _ => (pe_errorK (K := K) (k := k) (c := c) (P := PT) EK (by rfl) TB (by rfl) hr (lamS_by (sc := relS _ (defScope s__law_refused)) (by decide +kernel)) (by rfl) (fun _ _ _ _ _ => rfl) (fun A2 outer2 s2 H2 E2 f2 c2 hr2 => (pe_callV (i := 3) (k := k) (E := E2) (spC := spE K 1 (fun _ _ => False) (relE_count_fields C1)) hS hr2 (by rfl) (.inr (.inr (by rfl))) (L2N.passes_call lamN_takes fun _ _ _ _ h => h) (pa_cons (pv 2) pa_nil)))))) (pe_op op_rep (pe_lst (pa_cons pe_str pa_nil)) pe_int) (nomark _)) (pss_one (ps_ret pe_bl)) pss_nil)))
      (pss_cons (ps_for PassesOwn.never rfl (piK_tup (K := K) (pe_tup (pa_cons pe_non (pa_cons pe_int (pa_cons (pe_un un_neg pe_int) (pa_cons (pe_op op_add (pe_op op_pow pe_int pe_int) pe_int) (pa_cons pe_bl pa_nil))))))) (pg_name (i := 2) sc__law_refused.nd rfl (Or.inr rfl)) (pss_one (ps_if (pt_cmpR op_ne (pe_errorK (K := K) (k := k) (c := c) (P := PT) EK (by rfl) TB (by rfl) hr (lamS_by (sc := defScope s__law_refused) (by decide +kernel)) (by rfl) (fun _ _ _ _ _ => rfl) (fun A2 outer2 s2 H2 E2 f2 c2 hr2 => (pe_df (E := E2) D_count_off_planes hr2 (by rfl) (L2N.passes_call lamN_takes fun _ _ _ _ h => h) (pa_cons (pe_op op_add pe_int (pe_df D__law_dip hr2 (by rfl) pass0 (pa_cons (pv 0) (pa_cons pe_int pa_nil)))) (pa_cons (pv 2) pa_nil))))) pe_str (nomark _)) (pss_one (ps_ret pe_bl)) pss_nil)))
      (pss_one (ps_ret (pe_cmpR (opK_eqD (K := K) hr.units) (pe_lc (own := [("_law_many", 4)]) (g := (gName 4)) rfl sc__law_refused.nd (piK_tup (K := K) (pe_tup (pa_cons pe_int (pa_cons pe_int pa_nil)))) (blkOk_by (own := [("_law_many", 4)]) (N := N__law_refused) (sc := defScope s__law_refused) (by decide +kernel)) (fun _ _ _ _ _ => (pg_name (i := 4) sc__law_refused.nd rfl (Or.inr rfl))) (fun _ _ _ _ _ => pts_nil) (fun _ _ _ _ _ => (pe_errorK (K := K) (k := k) (c := c) (P := PT) EK (by rfl) TB (by rfl) hr (lamS_by (sc := relS _ (defScope s__law_refused)) (by decide +kernel)) (by rfl) (fun _ _ _ _ _ => rfl) (fun A2 outer2 s2 H2 E2 f2 c2 hr2 => (pe_df (E := E2) D_all_fields hr2 (by rfl) (L2N.passes_call lamN_takes fun _ _ _ _ h => h) (pa_cons (pv 4) pa_nil)))))) (pe_op op_rep (pe_lst (pa_cons pe_str pa_nil)) pe_int) (nomark _))))))), fun xs ow R r hl => ?_⟩
  obtain ⟨J, j, rfl, rfl, hPJ, hj, hR⟩ := r
  have opJ : ∀ j, OwP PT [(J, some (jarL j)), (PT, none)] := fun j => ⟨by simp, fun p hp z => by
    rcases List.mem_cons.mp hp with rfl | hp
    · cases z
    · have : p = (PT, none) := by simpa using hp
      rw [this]⟩
  have op1 : ∀ (l : Addr) (ds : List PyData) j, OwP PT ((l, some ds) :: [(J, some (jarL j)), (PT, none)]) := fun l ds j => ⟨List.mem_cons_of_mem _ (opJ j).mem, fun p hp z => by
    rcases List.mem_cons.mp hp with rfl | hp
    · cases z
    · exact (opJ j).one p hp z⟩
  have hne : ∀ p ∈ ([(PT, none)] : Ow), p.1 ≠ J := fun p hp => by
    have : p = (PT, none) := by simpa using hp
    rw [this]; exact hPJ
  refine run_seq ?_
  refine run_foldM (β := Unit) (fun d : PyData => d) oddA (fun _ => [.r (.ref J), .no, .no, .no, .no]) (fun _ => [(J, some (jarL j)), (PT, none)]) (fun u _ => u) () [2] ((ei_tup (ev_tupD (ds := oddA) (ead_cons ev_non (ead_cons ev_int (ead_cons ev_int (ead_cons ev_bl (ead_cons ev_str ead_nil))))) (by decide))).to (by rw [List.map_id'])) (.eq (.no (.no (.no (.no .nil))))) rfl (fun i d hd => ⟨_, eg_name, ?_⟩) (fun e le => Run.le' le ?_)
  · have h21 : ([PyData.str "things value"] ++ [PyData.str "things value"]).length + [PyData.str "things value"].length ≤ 100000 := by decide
    obtain ⟨sc, hw⟩ := odd_a d (List.mem_of_getElem? hd)
    refine run_seq (run_asgW (w_newO (wa_cons (w_err rfl (opJ j) kn1 fun E => xw_pure (ex_callE (ea_one (ev_var rfl)) ⟨d, rfl, sc, hw, rfl⟩) (wa_nil ⟨[.str "things value"], rfl, show 1 ≤ 100000 by decide, fun l hl => ?_⟩)))))
    refine run_seq (run_appendW (i := 1) rfl hl (show 1 < 100000 by decide) (w_err rfl (op1 _ _ j) kn1 fun E => xw_pure (ex_callE (ea_two (ev_var rfl) ev_non) (.inl ⟨d, .none, rfl, sc, hw, rfl⟩)) ⟨_, rfl, rfl, ?_⟩))
    refine run_pub (i := 1) rfl hl ?_
    refine run_ifW (wt_test (w_op (w_op (w_pure (ev_var (x := .d (.list ([.str "things value"] ++ [.str "things value"]))) rfl) (w_lst (wa_cons (w_err rfl (opJ j) kn1 fun E => xw_pure (ex_callE (ea_one (ev_var rfl)) ⟨d, rfl, .inl ⟨sc, hw, rfl⟩⟩) (wa_nil ⟨[.str "things value"], rfl, show 1 ≤ 100000 by decide, .d (.list (([.str "things value"] ++ [.str "things value"]) ++ [.str "things value"])), rv_catL h21, w_pure (ev_rep (n := 3) (by decide)) ⟨_, rv_neD (by decide +kernel) (by decide +kernel), _, rfl, fun z => absurd z (by decide +kernel), fun _ => run_next ⟨.eq (.no (.no (.no (.no .nil)))), rfl⟩⟩⟩))))))))
  refine run_seq ?_
  refine run_foldM (β := Unit) (fun d : PyData => d) oddB (fun _ => [.r (.ref J), .no, .no, .no, .no]) (fun _ => [(J, some (jarL j)), (PT, none)]) (fun u _ => u) () [2] ((ei_tup (ev_tupD (ds := oddB) (ead_cons ev_non (ead_cons ev_int (ead_cons ev_int (ead_cons ev_bl (ead_cons ev_str ead_nil))))) (by decide))).to (by rw [List.map_id'])) (.eq (.no (.no (.no (.no .nil))))) rfl (fun i d hd => ⟨_, eg_name, ?_⟩) (fun e le => Run.le' le ?_)
  · obtain ⟨sc, hw⟩ := odd_b d (List.mem_of_getElem? hd)
    refine run_ifW (wt_test (w_op (w_lc2 (j := 3) (y1 := .str "things value") (y2 := .str "things value") (by decide) (fun D => w_err rfl (op1 _ _ j) kn1 fun E => xw_callV (f := fa) rfl (.inl rfl) (ea_one (ev_var rfl)) ⟨d, rfl, sc, hw, rfl⟩ ⟨rfl, rfl⟩) (fun D => w_err rfl (op1 _ _ j) kn1 fun E => xw_callV (f := fb) rfl (.inr rfl) (ea_one (ev_var rfl)) ⟨d, rfl, sc, hw, rfl⟩ ⟨rfl, rfl⟩)
      (w_pure (ev_rep (n := 2) (by decide)) ⟨_, rv_neD (by decide +kernel) (by decide +kernel), _, rfl, fun z => absurd z (by decide +kernel), fun _ => run_next ⟨.eq (.no (.no (.no (.no .nil)))), rfl⟩⟩))))
  refine run_seq ?_
  refine run_foldM (β := Int × Int) (fun d : PyData => d) oddC (fun _ => [.r (.ref J), .no, .no, .no, .no]) (fun j => [(J, some (jarL j)), (PT, none)]) (fun j _ => dipJ j 12) j [2] ((ei_tup (ev_tupD (ds := oddC) (ead_cons ev_non (ead_cons ev_int (ead_cons (ev_neg ev_int) (ead_cons (ev_add ev_ten ev_int) (ead_cons ev_bl ead_nil))))) (by decide))).to (by rw [List.map_id'])) (.eq (.no (.no (.no (.no .nil))))) rfl (fun i d hd => ⟨_, eg_name, ?_⟩) (fun e le => Run.le' le ?_)
  · obtain ⟨sc, hw⟩ := odd_c d (List.mem_of_getElem? hd)
    have hjj := fold_jar (oddC.take i) j hj
    generalize (oddC.take i).foldl (fun j _ => dipJ j 12) j = jj at hjj ⊢
    have hr := dipR_ok (j := jj) (m := 12) (by decide)
    refine run_ifW (wt_test (w_op (w_err rfl (opJ jj) kn3 fun E => xw_callE (wa_cons (w_op (w_pure ev_int (w_call (wa_cons (w_pure (ev_var (x := .r (.ref J)) rfl) (wa_cons (w_pure ev_int (wa_nil ⟨rfl, J, jj, 12, [(PT, none)], rfl, rfl, hne, by decide, by decide, hjj, .d (.int (1 + dipR jj 12)), rv_I0 rfl,
      wa_cons (w_pure (ev_var (x := .d d) rfl) (wa_nil ⟨rfl, .inr ⟨1 + dipR jj 12, d, rfl, by omega, by omega, sc, hw, rfl⟩, w_pure ev_str ⟨_, rv_neS, _, rfl, fun z => absurd z (by decide +kernel), fun _ => run_next ⟨.eq (.no (.no (.no (.no .nil)))), rfl⟩⟩⟩))⟩))))))))))))
  have hjj := fold_jar oddC j hj
  generalize oddC.foldl (fun j _ => dipJ j 12) j = jj at hjj ⊢
  refine run_retW (w_op (w_lc2 (j := 4) (y1 := .str "many value") (y2 := .str "many value") (by decide) (fun D => w_err rfl (op1 _ _ jj) kn2 fun E => xw_pure (ex_callE (ea_one (ev_rd (ev_var rfl))) ⟨.int 5, rfl, .inr ⟨5, rfl, by decide, by decide, rfl⟩⟩) ⟨rfl, rfl⟩) (fun D => w_err rfl (op1 _ _ jj) kn2 fun E => xw_pure (ex_callE (ea_one (ev_rd (ev_var rfl))) ⟨.int 12, rfl, .inr ⟨12, rfl, by decide, by decide, rfl⟩⟩) ⟨rfl, rfl⟩)
    (w_pure (ev_rep (n := 2) (by decide)) ⟨_, rv_eqD (by decide +kernel) (by decide +kernel), ?_⟩)))
  have e1 : PyData.eqv (.list [.str "many value", .str "many value"]) (.list (List.replicate 2 (.str "many value"))) = true := by decide +kernel
  rw [e1]
  exact hR jj hjj
end
end DL

-- L9
set_option Elab.async false
set_option linter.all false
set_option maxRecDepth 100000
set_option maxHeartbeats 8000000
/-! law. -/
namespace DL
open PySem PySem.Calls L2 PyProof.Rows PySem.Spec LamX
theorem dF_inj {a b : Fld} (h : dF a = dF b) : a = b := by
  have := eq_F a b
  rw [h, eq_F b b] at this
  simp at this
  exact this
theorem facts2 : ∀ n ∈ [1, 2, 3, 4], (everyM n).length ≤ 125 ∧ ((n : Int) + 1) ^ ((n : Int) - 1).toNat = ((everyM n).length : Int) ∧ ((n : Int) - 1) ^ ((n : Int) - 1).toNat = (((everyM n).filter closedM).length : Int) := by decide +kernel
theorem le65 {k : Nat} {A : Around} (hr : Room k A) : A.units + 65 < cLine := by have := hr.un; omega
theorem all3 : (allM 3).length = 16 := by decide +kernel
theorem w_dip {K : Kf} {es : Es} {i : Nat} {J PT : Addr} {j : Int × Int} {m : Int} {te : TE} {E : XK} {R : Sl → Ow → Prop} (hi : es[i]? = some (.r (.ref J))) (h : EvD K te es (.int m)) (h0 : 0 < m) (h1 : m < 1000000000) (hj : JarOk j) (hP : PT ≠ J)
    (r : 0 ≤ dipR j m → dipR j m < m → JarOk (dipJ j m) → R (.d (.int (dipR j m))) [(J, some (jarL (dipJ j m))), (PT, none)]) : EvW K (tCall (spW K 2 rel__law_dip) [] E (tCons (tVar i) (tCons te tNil))) es [(J, some (jarL j)), (PT, none)] R :=
  w_call (wa_cons (w_pure (ev_var (x := .r (.ref J)) hi) (wa_cons (w_pure h (wa_nil ⟨rfl, J, j, m, [(PT, none)], rfl, rfl, fun p hp => by
    have : p = (PT, none) := by simpa using hp
    rw [this]; exact hP, h0, h1, hj, r (dipR_ok h0).1 (dipR_ok h0).2 (dip_ok hj)⟩)))))
section
variable {P : Program} {w : World} {K : Kf} {mg : Str → Option Value} {base : Heap}
def rel_law (PT : Addr) (xs : List Sl) (ow : Ow) (R : Sl → Ow → Prop) : Prop := ∃ ns : List Int, xs = [.d (.list (ns.map .int))] ∧ ns.length ≤ 1000 ∧ ow = [(PT, none)] ∧ ∀ ow', R (.d (.bool true)) ow'
theorem fnw_ok {x : Str} {st : Stmt} {f : Addr} {fd : FuncData} {NN ps : List Str} {n k : Nat} {rel : List Sl → Ow → (Sl → Ow → Prop) → Prop} (F : Fun K x x st f fd) (S : FnScope NN ps (defScope st)) (hp : ps.length = n)
    (body : ∀ (cdv : Value) (A : Around) (outer : List Env) (s : Shared) (H : Hp) (E : XK), Room k (A.deeper (envOfC x (defScope st) s.heap.objs.size f cdv)) →
      ∃ t, PSs (cxOf CX0 P w K mg base NN x (defScope st) f cdv A outer s H E).nox (defBody st) t ∧ ∀ xs ow R, rel xs ow R → xs.length = n → Run K t (startE NN.length xs) ow { nx := fun _ o => R (.d .none) o, rt := R }) :
    FnOk P w K mg base CX0 (k + 1) f fd ps (spW K n rel) := by
  have hpn : n ≤ NN.length := by have := congrArg List.length S.pre; rw [List.length_take] at this; omega
  refine F.ok S (fun vs H Q E h => (spW_len vs H Q E h).trans hp.symm) (fun cdv A outer s H vs Q E hr h => ?_)
  obtain ⟨t, h1, h2⟩ := body cdv A outer s H E hr
  exact ⟨t, h1, body_ofW (E := E) h hpn h2⟩
abbrev s_law : Stmt := topS 48
abbrev N_law : List Str := ["_law_script", "_law_jar_here", "_law_few", "_law_every_here", "_law_closed", "_law_many", "_law_things", "_law_number_so", "_law_great", "_law_one", "_law_some"]
theorem sc_law : FnScope N_law ["_law_script"] (defScope s_law) := ⟨rfl, rfl, rfl, by decide +kernel, rfl, by decide +kernel, by decide +kernel⟩
theorem df_law {f PT C1 C2 C3 : Addr} {fd : FuncData} {k : Nat} (F : Fun K "law" "law" s_law f fd) (g : mg "law" = some (.ref f)) (T : Bl mg) (D__law_dip : Df P w K mg base CX0 k "_law_dip" ["_law_jar_here", "_law_many"] (spW K 2 rel__law_dip)) (D__law_every : Df P w K mg base CX0 k "_law_every" ["_law_many"] (spP K 1 rel__law_every)) (D__law_jar : Df P w K mg base CX0 k "_law_jar" ["_law_script", "_law_turn"] (spW K 2 rel__law_jar)) (D__law_middle : Df P w K mg base CX0 k "_law_middle" ["_law_many"] (spP K 1 rel__law_middle)) (D__law_off : Df P w K mg base CX0 k "_law_off" ["_law_many", "_law_number_so"] (spP K 2 rel__law_off)) (D__law_power : Df P w K mg base CX0 k "_law_power" ["_law_number_so", "_law_times"] (spP K 2 rel__law_power)) (D__law_refused : Df P w K mg base CX0 k "_law_refused" ["_law_jar_here"] (spW K 1 (rel__law_refused PT))) (D_all_fields : Df P w K mg base (L2N.CX P w) k "all_fields" ["things"] (spE K 1 rel_all_fields (relE_all_fields C1 C2))) (D_count_closed_fields : Df P w K mg base (L2N.CX P w) k "count_closed_fields" ["many"] (spE K 1 rel_count_closed_fields (relE_count_fields C1))) (D_count_fields : Df P w K mg base (L2N.CX P w) k "count_fields" ["many"] (spE K 1 rel_count_fields (relE_count_fields C1))) (D_count_off_planes : Df P w K mg base (L2N.CX P w) k "count_off_planes" ["things", "number"] (spE K 2 rel_count_off_planes (relE_count_off_planes C1 C3))) (D_is_closed_field : Df P w K mg base CX0 k "is_closed_field" ["field"] (spP K 1 rel_is_closed_field)) (D_middle_field : Df P w K mg base (L2N.CX P w) k "middle_field" ["things"] (spE K 1 rel_middle_field (relE_middle_field C1))) :
    FnOk P w K mg base CX0 (k + 1) f fd ["_law_script"] (spW K 1 (rel_law PT)) := by
  refine fnw_ok F sc_law rfl fun cdv A outer s H E hr => ⟨_, (pss_cons (ps_set (i := 1) sc_law.nd rfl (.inl rfl) (pe_df D__law_jar hr (by rfl) pass0 (pa_cons (pv 0) (pa_cons pe_int pa_nil))))
      (pss_cons (ps_set (i := 2) sc_law.nd rfl (.inl rfl) (pe_ifExp (pt_cmpR op_eq (pe_df D__law_dip hr (by rfl) pass0 (pa_cons (pv 1) (pa_cons pe_int pa_nil))) pe_int (nomark _)) pe_int (pe_op op_add pe_int (pe_df D__law_dip hr (by rfl) pass0 (pa_cons (pv 1) (pa_cons pe_int pa_nil))))))
      (pss_cons (ps_set (i := 3) sc_law.nd rfl (.inl rfl) (pe_df D__law_every hr (by rfl) pass0 (pa_cons (pv 2) pa_nil)))
      (pss_cons (ps_if (PW.pt (pw_or (pt_cmpR (opK_neD (K := K) hr.units) (pe_df (E := E0) D_all_fields hr (by rfl) passN (pa_cons (pv 2) pa_nil)) (pv 3) (nomark _)) (pw_or1 (pt_cmpR op_ne (pe_df (E := E0) D_count_fields hr (by rfl) passN (pa_cons (pv 2) pa_nil)) (pe_callB (crK_len (K := K)) (by rfl) T.len (by decide +kernel) (pa_cons (pv 3) pa_nil)) (nomark _))))) (pss_one (ps_ret pe_bl)) pss_nil)
      (pss_cons (ps_setLc (i := 4) (own := [("_law_one", 9)]) (g := (gName 9)) rfl sc_law.nd rfl rfl (sw_true rfl rfl rfl (by decide +kernel)) (piK_list (K := K) (pv 3)) (blkOk_by (own := [("_law_one", 9)]) (N := N_law) (sc := defScope s_law) (by decide +kernel)) (fun _ _ _ _ _ => (pg_name (i := 9) sc_law.nd rfl (Or.inl rfl))) (fun _ _ _ _ _ => (pts_one (pt_val (pe_df D_is_closed_field hr (by rfl) pass0 (pa_cons (pv 9) pa_nil))))) (fun _ _ _ _ _ => (pv 9)))
      (pss_cons (ps_if (PW.pt (pw_or (pt_cmpR op_ne (pe_df (E := E0) D_count_closed_fields hr (by rfl) passN (pa_cons (pv 2) pa_nil)) (pe_callB (crK_len (K := K)) (by rfl) T.len (by decide +kernel) (pa_cons (pv 4) pa_nil)) (nomark _)) (pw_or1 (pt_cmpR (opK_notInD (K := K) (le65 hr)) (pe_df (E := E0) D_middle_field hr (by rfl) passN (pa_cons (pv 2) pa_nil)) (pv 4) rfl)))) (pss_one (ps_ret pe_bl)) pss_nil)
      (pss_cons (ps_set (i := 5) sc_law.nd rfl (.inl rfl) (pe_op op_add pe_int (pe_df D__law_dip hr (by rfl) pass0 (pa_cons (pv 1) (pa_cons pe_int pa_nil)))))
      (pss_cons (ps_if (pt_cmpR op_ne (pe_op op_mulW (pe_df (E := E0) D_count_fields hr (by rfl) passN (pa_cons (pv 5) pa_nil)) (pe_op op_add (pv 5) pe_int)) (pe_df D__law_power hr (by rfl) pass0 (pa_cons (pe_op op_add (pv 5) pe_int) (pa_cons (pv 5) pa_nil))) (nomark _)) (pss_one (ps_ret pe_bl)) pss_nil)
      (pss_cons (ps_if (PW.pt (pw_and (pt_cmpR op_gt (pv 5) pe_int (nomark _)) (pw_and1 (pt_cmpR op_ne (pe_df (E := E0) D_count_closed_fields hr (by rfl) passN (pa_cons (pv 5) pa_nil)) (pe_df D__law_power hr (by rfl) pass0 (pa_cons (pe_op op_sub (pv 5) pe_int) (pa_cons (pe_op op_sub (pv 5) pe_int) pa_nil))) (nomark _))))) (pss_one (ps_ret pe_bl)) pss_nil)
      (pss_cons (ps_par (i := 6) (j := 7) (by rfl) sc_law.nd rfl rfl (by decide) rfl rfl (pa_cons (pe_op op_add pe_int (pe_df D__law_dip hr (by rfl) pass0 (pa_cons (pv 1) (pa_cons pe_int pa_nil)))) (pa_cons (pe_op op_add pe_int (pe_df D__law_dip hr (by rfl) pass0 (pa_cons (pv 1) (pa_cons pe_int pa_nil)))) pa_nil)) (by rfl))
      (pss_cons (ps_if (pt_cmpR op_ne (pe_df (E := E0) D_count_off_planes hr (by rfl) passN (pa_cons (pv 6) (pa_cons (pv 7) pa_nil))) (pe_df D__law_off hr (by rfl) pass0 (pa_cons (pv 6) (pa_cons (pv 7) pa_nil))) (nomark _)) (pss_one (ps_ret pe_bl)) pss_nil)
      (pss_cons (ps_par (i := 6) (j := 8) (by rfl) sc_law.nd rfl rfl (by decide) rfl rfl (pa_cons (pe_op op_add pe_int (pe_df D__law_dip hr (by rfl) pass0 (pa_cons (pv 1) (pa_cons pe_int pa_nil)))) (pa_cons (pe_op op_sub (pe_op op_pow pe_int pe_int) (pe_df D__law_dip hr (by rfl) pass0 (pa_cons (pv 1) (pa_cons (pe_op op_pow pe_int pe_int) pa_nil)))) pa_nil)) (by rfl))
      (pss_cons (ps_if (pt_cmpR op_ne (pe_df (E := E0) D_count_off_planes hr (by rfl) passN (pa_cons (pv 6) (pa_cons (pv 8) pa_nil))) (pe_op op_mulW (pv 8) (pe_df D__law_power hr (by rfl) pass0 (pa_cons (pe_op op_sub (pv 8) (pv 6)) (pa_cons (pe_op op_sub (pv 6) pe_int) pa_nil)))) (nomark _)) (pss_one (ps_ret pe_bl)) pss_nil)
      (pss_cons (ps_if (PW.pt (pw_or (pt_cmpR (opK_neD (K := K) hr.units) (pe_df (E := E0) D_middle_field hr (by rfl) passN (pa_cons (pe_op op_add (pe_op op_mod (pv 5) pe_int) pe_int) pa_nil)) (pe_df D__law_middle hr (by rfl) pass0 (pa_cons (pe_op op_add (pe_op op_mod (pv 5) pe_int) pe_int) pa_nil)) (nomark _)) (pw_or1 (pt_not (pt_val (pe_df D__law_refused hr (by rfl) pass0 (pa_cons (pv 1) pa_nil))))))) (pss_one (ps_ret pe_bl)) pss_nil)
      (pss_cons (ps_if (pt_cmpR op_ne (pe_callB (crK_len (K := K)) (by rfl) T.len (by decide +kernel) (pa_cons (pe_df (E := E0) D_all_fields hr (by rfl) passN (pa_cons pe_int pa_nil)) pa_nil)) pe_int (nomark _)) (pss_one (ps_ret pe_bl)) pss_nil)
      (pss_cons (ps_if (PW.pt (pw_or (pt_cmpR (opK_neD (K := K) hr.units) (pe_df (E := E0) D_all_fields hr (by rfl) passN (pa_cons pe_int pa_nil)) (pe_lst (pa_cons (pe_tup (pa_cons (pe_tup (pa_cons pe_int (pa_cons pe_int pa_nil))) (pa_cons (pe_tup pa_nil) pa_nil))) (pa_cons (pe_tup (pa_cons (pe_tup (pa_cons pe_int (pa_cons pe_int pa_nil))) (pa_cons (pe_tup (pa_cons (pe_tup (pa_cons pe_int (pa_cons pe_int pa_nil))) pa_nil)) pa_nil))) (pa_cons (pe_tup (pa_cons (pe_tup (pa_cons pe_int (pa_cons pe_int pa_nil))) (pa_cons (pe_tup pa_nil) pa_nil))) pa_nil)))) (nomark _)) (pw_or1 (pt_cmpR (opK_neD (K := K) hr.units) (pe_df (E := E0) D_middle_field hr (by rfl) passN (pa_cons pe_int pa_nil)) (pe_tup (pa_cons (pe_tup (pa_cons pe_int pa_nil)) (pa_cons (pe_tup pa_nil) pa_nil))) (nomark _))))) (pss_one (ps_ret pe_bl)) pss_nil)
      (pss_cons (ps_if (pt_cmpR (opK_neD (K := K) hr.units) (pe_lc (own := [("_law_some", 10)]) (g := (gName 10)) rfl sc_law.nd (piK_tup (K := K) (pe_tup (pa_cons pe_int (pa_cons pe_int (pa_cons pe_int (pa_cons pe_int pa_nil)))))) (blkOk_by (own := [("_law_some", 10)]) (N := N_law) (sc := defScope s_law) (by decide +kernel)) (fun _ _ _ _ _ => (pg_name (i := 10) sc_law.nd rfl (Or.inl rfl))) (fun _ _ _ _ _ => pts_nil) (fun _ _ _ _ _ => (pe_df (E := E0) D_count_fields hr (by rfl) passN (pa_cons (pv 10) pa_nil)))) (pe_lst (pa_cons pe_int (pa_cons pe_int (pa_cons pe_int (pa_cons pe_int pa_nil))))) (nomark _)) (pss_one (ps_ret pe_bl)) pss_nil)
      (pss_cons (ps_if (pt_cmpR (opK_neD (K := K) hr.units) (pe_lc (own := [("_law_some", 10)]) (g := (gName 10)) rfl sc_law.nd (piK_tup (K := K) (pe_tup (pa_cons pe_int (pa_cons pe_int (pa_cons pe_int (pa_cons pe_int pa_nil)))))) (blkOk_by (own := [("_law_some", 10)]) (N := N_law) (sc := defScope s_law) (by decide +kernel)) (fun _ _ _ _ _ => (pg_name (i := 10) sc_law.nd rfl (Or.inl rfl))) (fun _ _ _ _ _ => pts_nil) (fun _ _ _ _ _ => (pe_df (E := E0) D_count_closed_fields hr (by rfl) passN (pa_cons (pv 10) pa_nil)))) (pe_lst (pa_cons pe_int (pa_cons pe_int (pa_cons pe_int (pa_cons pe_int pa_nil))))) (nomark _)) (pss_one (ps_ret pe_bl)) pss_nil)
      (pss_one (ps_ret (pe_cmpR (opK_eqD (K := K) hr.units) (pe_lc (own := [("_law_some", 10)]) (g := (gName 10)) rfl sc_law.nd (piK_tup (K := K) (pe_tup (pa_cons pe_int (pa_cons pe_int (pa_cons pe_int (pa_cons pe_int pa_nil)))))) (blkOk_by (own := [("_law_some", 10)]) (N := N_law) (sc := defScope s_law) (by decide +kernel)) (fun _ _ _ _ _ => (pg_name (i := 10) sc_law.nd rfl (Or.inl rfl))) (fun _ _ _ _ _ => pts_nil) (fun _ _ _ _ _ => (pe_df (E := E0) D_count_off_planes hr (by rfl) passN (pa_cons pe_int (pa_cons (pv 10) pa_nil))))) (pe_lst (pa_cons pe_int (pa_cons pe_int (pa_cons pe_int (pa_cons pe_int pa_nil))))) (nomark _)))))))))))))))))))))), fun xs ow R r hl => ?_⟩
  obtain ⟨ns, rfl, hns, rfl, hR⟩ := r
  refine run_seq (run_asgW (w_call (wa_cons (w_pure (ev_var (x := .d (.list (ns.map .int))) rfl) (wa_cons (w_pure ev_int (wa_nil ⟨rfl, ns, rfl, hns, fun J hJ => ?_⟩)))))))
  have hPJ : PT ≠ J := hJ (PT, none) (by simp)
  have hj := jar_ok ns
  generalize jarM ns = j at hj ⊢
  refine run_seq (run_asgW (w_mono (R := fun x o => ∃ n ∈ [1, 2, 3, 4], ∃ j, JarOk j ∧ x = .d (.int ((n : Nat) : Int)) ∧ o = [(J, some (jarL j)), (PT, none)]) ?_ fun x o ⟨n, hn, j, hj, hx, ho⟩ => ?_))
  · refine w_if (wt_test (w_op (w_dip rfl ev_int (by decide) (by decide) hj hPJ fun a1 a2 a3 => w_pure ev_int ⟨_, rv_eqI, _, rfl, fun _ => w_pure (x := .d (.int 4)) ev_int ⟨4, by decide, _, a3, rfl, rfl⟩, fun _ => w_op (w_pure ev_int (w_dip rfl ev_int (by decide) (by decide) a3 hPJ fun b1 b2 b3 => ⟨.d (.int (1 + dipR (dipJ j 12) 3)), rv_I0 rfl, (1 + dipR (dipJ j 12) 3).toNat, ?_, _, b3, ?_, rfl⟩))⟩)))
    · simp only [List.mem_cons, List.not_mem_nil, or_false]; omega
    · rw [Int.toNat_of_nonneg (by omega)]
  subst hx ho
  have h4 := mem4 hn
  obtain ⟨_, _, fm, fb⟩ := facts1 n hn
  obtain ⟨f1, f2, f3⟩ := facts2 n hn
  refine run_seq (run_asg (x := .d (.list ((everyM n).map dF))) (ev_call (ea_one (ev_var rfl)) ⟨n, hn, rfl, rfl⟩) ?_)
  refine run_seq (run_if (et_or (a := false) (b := false) (et_test ((ev_neD (d := .list ((allM n).map dF)) (e := .list ((everyM n).map dF)) (ev_callE (ea_one (ev_var rfl)) ⟨n, hn, rfl, rfl⟩) (ev_var rfl) (sh_Fs _).shaped (sh_Fs _).shaped).to (by rw [eq_Fs, same1 n hn]; simp))) fun _ =>
    et_test ((ev_neI (ev_callE (ea_one (ev_var rfl)) ⟨n, by omega, by omega, rfl, rfl⟩) (ev_lenL (ev_var rfl))).to (by rw [List.length_map, f2]; simp))) (fun z => by cases z) (fun _ => run_next ?_))
  refine run_seq (run_asg (x := .d (.list (((everyM n).filter closedM).map dF))) (ev_lcM (js := [9]) dF (everyM n) closedM (fun f => dF f) (ei_list (ev_var rfl)) (fun _ _ => dF_inj) (fun f hf => ⟨_, eg_name, et_B (ev_call (ea_one (ev_var rfl)) ⟨f, List.all_eq_true.mp fb f hf, rfl, rfl⟩), fun _ => ev_var rfl⟩) (by decide) (by omega)) ?_)
  refine run_seq (run_if (et_or (a := false) (b := false) (et_test ((ev_neI (ev_callE (ea_one (ev_var rfl)) ⟨n, by omega, by omega, rfl, rfl⟩) (ev_lenL (ev_var rfl))).to (by rw [List.length_map, f3]; simp))) fun _ =>
    et_test ((ev_notInD (d := dF (middleM n)) (ds := ((everyM n).filter closedM).map dF) (ev_callE (ea_one (ev_var rfl)) ⟨n, by omega, by omega, rfl, rfl⟩) (ev_var rfl) (sh_F _).shaped (sh_Fs _).shaped).to ?_)) (fun z => by cases z) (fun _ => run_next ?_))
  · have : (((everyM n).filter closedM).map dF).any (fun z => PyData.eqv z (dF (middleM n))) = true := by
      rw [List.any_map]
      exact List.any_eq_true.mpr ⟨middleM n, fm, by show PyData.eqv _ _ = true; rw [eq_F]; simp⟩
    rw [this]; rfl
  -- many
  refine run_seq (run_asgW (w_op (w_pure ev_int (w_dip rfl ev_int (by decide) (by decide) hj hPJ fun a1 a2 a3 => ⟨.d (.int (1 + dipR j 60)), rv_I0 rfl, ?_⟩))))
  have hm1 : 1 ≤ 1 + dipR j 60 := by omega
  have hm2 : 1 + dipR j 60 ≤ 60 := by omega
  generalize 1 + dipR j 60 = m at hm1 hm2 ⊢
  generalize dipJ j 60 = j at a3 ⊢
  have hs1 : (m + 1).natAbs < 2 ^ 200 := Nat.lt_of_lt_of_le (show (m + 1).natAbs < 2 ^ 8 by omega) (Nat.pow_le_pow_right (by decide) (by decide))
  have hs2 : (m - 1).natAbs < 2 ^ 200 := Nat.lt_of_lt_of_le (show (m - 1).natAbs < 2 ^ 8 by omega) (Nat.pow_le_pow_right (by decide) (by decide))
  have pw : (m + 1) ^ (m - 1).toNat * (m + 1) = (m + 1) ^ m.toNat := by
    rw [← Int.pow_succ]
    congr 1
    omega
  refine run_seq (run_if (et_test (((ev_neI (ev_mul (i := (m + 1) ^ (m - 1).toNat) (j := m + 1) (ev_callE (ea_one (ev_var rfl)) ⟨m, hm1, hm2, rfl, rfl⟩) (ev_add (ev_var rfl) ev_int) (wide_mul (pow_small hs1 _) hs1 (by omega) (by omega) (by omega))) (ev_call (y := .d (.int ((m + 1) ^ m.toNat))) (ea_two (ev_add (ev_var rfl) ev_int) (ev_var rfl)) ⟨m + 1, m, rfl, by omega, by omega, hs1, rfl⟩))).to (e := .bool false) (by rw [pw]; simp))) (fun z => by cases z) (fun _ => run_next ?_))
  refine run_seq (run_if (et_and (a := decide (1 < m)) (b := false) (et_test (ev_gt (ev_var rfl) ev_int)) fun _ => et_test ((ev_neI (ev_callE (y := .d (.int ((m - 1) ^ (m - 1).toNat))) (ea_one (ev_var rfl)) ⟨m, hm1, hm2, rfl, rfl⟩) (ev_call (y := .d (.int ((m - 1) ^ (m - 1).toNat))) (ea_two (ev_sub (ev_var rfl) ev_int) (ev_sub (ev_var rfl) ev_int)) ⟨m - 1, m - 1, rfl, by omega, by omega, hs2, rfl⟩)).to (by simp))) (fun z => by rw [Bool.and_false] at z; cases z) (fun _ => run_next ?_))
  -- small
  refine run_seq (run_parW (wa_cons (w_op (w_pure ev_int (w_dip rfl ev_int (by decide) (by decide) a3 hPJ fun b1 b2 b3 => ⟨.d (.int (1 + dipR j 3)), rv_I0 rfl, wa_cons (w_op (w_pure ev_int (w_dip rfl ev_int (by decide) (by decide) b3 hPJ fun c1 c2 c3 => ⟨.d (.int (1 + dipR (dipJ j 3) 7)), rv_I0 rfl, wa_nil ⟨_, _, rfl, ?_⟩⟩)))⟩)))))
  obtain ⟨t, ht⟩ : ∃ t : Nat, 1 + dipR j 3 = (t : Int) := ⟨(1 + dipR j 3).toNat, by omega⟩
  obtain ⟨u, hu⟩ : ∃ u : Nat, 1 + dipR (dipJ j 3) 7 = (u : Int) := ⟨(1 + dipR (dipJ j 3) 7).toNat, by omega⟩
  have ht3 : t ∈ [1, 2, 3] := by simp only [List.mem_cons, List.not_mem_nil, or_false]; omega
  have hu7 : u ∈ [1, 2, 3, 4, 5, 6, 7] := by simp only [List.mem_cons, List.not_mem_nil, or_false]; omega
  have hoff := off_count t ht3 u hu7
  have ht1 : 1 ≤ t ∧ t ≤ 3 := by omega
  have hu1 : 1 ≤ u ∧ u ≤ 7 := by omega
  rw [ht, hu]
  generalize dipJ (dipJ j 3) 7 = j at c3 ⊢
  clear b1 b2 b3 c1 c2 ht hu a3
  refine run_seq (run_if (et_test ((ev_neI (ev_callE (y := .d (.int (if (u : Int) ≥ t then (u : Int) * ((u : Int) - t) ^ ((t : Int) - 1).toNat else 0))) (ea_two (ev_var rfl) (ev_var rfl)) ⟨t, u, by omega, by omega, by omega, by omega, rfl, rfl⟩) (ev_call (y := .d (.int (offM t u).length)) (ea_two (ev_var rfl) (ev_var rfl)) ⟨t, u, ht3, hu7, rfl, rfl⟩)).to (e := .bool false) ?_)) (fun z => by cases z) (fun _ => run_next ?_))
  · have e1 : ((t : Int) - 1).toNat = t - 1 := by omega
    rw [hoff, e1]; simp
  -- great
  have e6 : ∀ es, EvD K (tOp (rI CPow fun i j => .int (i ^ j.toNat)) (tC (.int 10)) (tC (.int 6))) es (.int (10 ^ 6)) := fun es => (ev_pow ev_int ev_int ⟨by decide, by decide, by decide⟩).to (by rfl)
  refine run_seq (run_parW (wa_cons (w_op (w_pure ev_int (w_dip rfl ev_int (by decide) (by decide) c3 hPJ fun b1 b2 b3 => ⟨.d (.int (1 + dipR j 12)), rv_I0 rfl, wa_cons (w_op (w_pure ev_ten (w_dip rfl (e6 _) (by decide) (by decide) b3 hPJ fun d1 d2 d3 => ⟨.d (.int (10 ^ 30 - dipR (dipJ j 12) (10 ^ 6))), rv_I0 rfl, wa_nil ⟨_, _, rfl, ?_⟩⟩)))⟩)))))
  have q1 : 1 ≤ 1 + dipR j 12 := by omega
  have q2 : 1 + dipR j 12 ≤ 12 := by omega
  have q3 : (10 : Int) ^ 29 ≤ 10 ^ 30 - dipR (dipJ j 12) (10 ^ 6) := by omega
  have q4 : 10 ^ 30 - dipR (dipJ j 12) (10 ^ 6) ≤ (10 : Int) ^ 30 := by omega
  generalize 1 + dipR j 12 = a at q1 q2 ⊢
  generalize (10 : Int) ^ 30 - dipR (dipJ j 12) (10 ^ 6) = g at q3 q4 ⊢
  generalize dipJ (dipJ j 12) (10 ^ 6) = j at d3 ⊢
  clear b1 b2 b3 d1 d2
  have hb := big_lt (i := g - a) (by omega) (by omega)
  have hg := big_lt (i := g) (by omega) (by omega)
  refine run_seq (run_if (et_test ((ev_neI (ev_callE (y := .d (.int (if g ≥ a then g * (g - a) ^ (a - 1).toNat else 0))) (ea_two (ev_var rfl) (ev_var rfl)) ⟨a, g, by omega, by omega, by omega, by omega, rfl, rfl⟩) (ev_mul (i := g) (j := (g - a) ^ (a - 1).toNat) (ev_var rfl) (ev_call (ea_two (ev_sub (ev_var rfl) (ev_var rfl)) (ev_sub (ev_var rfl) ev_int)) ⟨g - a, a - 1, rfl, by omega, by omega, hb, rfl⟩) (wide_mul hg (pow_small hb (a - 1).toNat) (by omega) (by omega) (by omega)))).to (e := .bool false) ?_)) (fun z => by cases z) (fun _ => run_next ?_))
  · rw [if_pos (by omega)]; simp
  -- the middle, and what is refused
  obtain ⟨v, hv⟩ : ∃ v : Nat, m % 12 + 1 = (v : Int) := ⟨(m % 12 + 1).toNat, by omega⟩
  have hv1 : 1 ≤ v ∧ v ≤ 12 := by omega
  have em : ∀ es, es[5]? = some (.d (.int m)) → EvD K (tOp (rI0 fun i j => .int (i + j)) (tOp (rI (fun _ j => 0 < j) fun i j => .int (i % j)) (tVar 5) (tC (.int 12))) (tC (.int 1))) es (.int v) := fun es h => (ev_add (ev_mod (ev_var h) ev_int (by decide)) ev_int).to (by rw [hv])
  refine run_seq (run_ifW (wt_or (wt_pure (et_test ((ev_neD (d := dF (middleM v)) (e := dF (middleM v)) (ev_callE (ea_one (em _ rfl)) ⟨v, by omega, by omega, rfl, rfl⟩) (ev_call (ea_one (em _ rfl)) ⟨v, rfl, by omega, rfl⟩) (sh_F _).shaped (sh_F _).shaped).to (e := .bool false) (by rw [eq_F]; simp))) ⟨fun z => (by cases z), fun _ => wt_not (wt_B (w_call (wa_cons (w_pure (ev_var (x := .r (.ref J)) rfl) (wa_nil ⟨rfl, J, j, rfl, rfl, hPJ, d3, fun j' hj' => ⟨true, rfl, fun z => (by cases z), fun _ => run_next ?_⟩⟩)))))⟩)))
  refine run_seq (run_if (et_test ((ev_neI (ev_lenL (ds := (allM 3).map dF) (ev_callE (ea_one ev_int) ⟨3, by decide, rfl, rfl⟩)) ev_int).to (e := .bool false) (by rw [List.length_map, all3]; rfl))) (fun z => by cases z) (fun _ => run_next ?_))
  refine run_seq (run_if (et_or (a := false) (b := false) (et_test ((ev_neD (d := .list ((allM 2).map dF)) (ev_callE (ea_one ev_int) ⟨2, by decide, rfl, rfl⟩) (ev_lstD (ead_cons (ev_tupD (ead_cons (ev_tupD (ead_cons ev_int (ead_cons ev_int ead_nil))) (ead_cons (ev_tupD ead_nil) ead_nil))) (ead_cons (ev_tupD (ead_cons (ev_tupD (ead_cons ev_int (ead_cons ev_int ead_nil))) (ead_cons (ev_tupD (ead_cons (ev_tupD (ead_cons ev_int (ead_cons ev_int ead_nil))) ead_nil)) ead_nil))) (ead_cons (ev_tupD (ead_cons (ev_tupD (ead_cons ev_int (ead_cons ev_int ead_nil))) (ead_cons (ev_tupD ead_nil) ead_nil))) ead_nil)))) (sh_Fs _).shaped (by decide +kernel)).to (by rw [all2]; exact congrArg PyData.bool (by decide +kernel)))) fun _ =>
    et_test ((ev_neD (d := dF (middleM 1)) (ev_callE (ea_one ev_int) ⟨1, by decide, by decide, rfl, rfl⟩) (ev_tupD (ead_cons (ev_tupD (ead_cons ev_int ead_nil)) (ead_cons (ev_tupD ead_nil) ead_nil))) (sh_F _).shaped (by decide +kernel)).to (congrArg PyData.bool (by decide +kernel)))) (fun z => by cases z) (fun _ => run_next ?_))
  refine run_seq (run_if (et_test ((ev_neD (ev_lcM (js := [10]) PyData.int [1, 2, 3, 4] (fun _ => true) (fun i => .int ((i + 1) ^ (i - 1).toNat)) ((ei_tup (ev_tupD (ds := [.int 1, .int 2, .int 3, .int 4]) (ead_cons ev_int (ead_cons ev_int (ead_cons ev_int (ead_cons ev_int ead_nil)))))).to rfl) (fun _ _ => int_inj) (fun i hi => ⟨_, eg_name, et_yes, fun _ => ev_callE (ea_one (ev_var rfl)) ⟨i, by simp only [List.mem_cons, List.not_mem_nil, or_false] at hi; omega, by simp only [List.mem_cons, List.not_mem_nil, or_false] at hi; omega, rfl, rfl⟩⟩) (by decide) (by decide)) (ev_lstD (ead_cons ev_int (ead_cons ev_int (ead_cons ev_int (ead_cons ev_int ead_nil))))) (by decide +kernel) (by decide +kernel)).to (e := .bool false) (congrArg PyData.bool (by decide +kernel)))) (fun z => by cases z) (fun _ => run_next ?_))
  refine run_seq (run_if (et_test ((ev_neD (ev_lcM (js := [10]) PyData.int [1, 2, 3, 4] (fun _ => true) (fun i => .int ((i - 1) ^ (i - 1).toNat)) ((ei_tup (ev_tupD (ds := [.int 1, .int 2, .int 3, .int 4]) (ead_cons ev_int (ead_cons ev_int (ead_cons ev_int (ead_cons ev_int ead_nil)))))).to rfl) (fun _ _ => int_inj) (fun i hi => ⟨_, eg_name, et_yes, fun _ => ev_callE (ea_one (ev_var rfl)) ⟨i, by simp only [List.mem_cons, List.not_mem_nil, or_false] at hi; omega, by simp only [List.mem_cons, List.not_mem_nil, or_false] at hi; omega, rfl, rfl⟩⟩) (by decide) (by decide)) (ev_lstD (ead_cons ev_int (ead_cons ev_int (ead_cons ev_int (ead_cons ev_int ead_nil))))) (by decide +kernel) (by decide +kernel)).to (e := .bool false) (congrArg PyData.bool (by decide +kernel)))) (fun z => by cases z) (fun _ => run_next ?_))
  refine run_ret (x := .d (.bool true)) ((ev_eqD (ev_lcM (js := [10]) PyData.int [2, 3, 4, 7] (fun _ => true) (fun i => .int (if i ≥ 3 then i * (i - 3) ^ ((3 : Int) - 1).toNat else 0)) ((ei_tup (ev_tupD (ds := [.int 2, .int 3, .int 4, .int 7]) (ead_cons ev_int (ead_cons ev_int (ead_cons ev_int (ead_cons ev_int ead_nil)))))).to rfl) (fun _ _ => int_inj) (fun i hi => ⟨_, eg_name, et_yes, fun _ => ev_callE (ea_two ev_int (ev_var rfl)) ⟨3, i, by decide, by decide, by simp only [List.mem_cons, List.not_mem_nil, or_false] at hi; omega, by simp only [List.mem_cons, List.not_mem_nil, or_false] at hi; omega, rfl, rfl⟩⟩) (by decide) (by decide)) (ev_lstD (ead_cons ev_int (ead_cons ev_int (ead_cons ev_int (ead_cons ev_int ead_nil))))) (by decide +kernel) (by decide +kernel)).to (congrArg PyData.bool (by decide +kernel))) (hR _)
end
end DL

-- A1
set_option Elab.async false
set_option linter.all false
set_option maxRecDepth 100000
set_option maxHeartbeats 8000000
/-! The end: what the top has written; the law over it. -/
namespace DL
open PySem PySem.Calls L2 PyProof.Rows PySem.Spec LamX
theorem kit_ref {K : Kf} {D C : Addr} {b : Bool} (i : PySem.W.isClsIn K C = true) (t : PySem.W.typeIn K (.ref C) = some (.type "type")) (s : PySem.W.subIn K (.ref D) (.ref C) = some b) (s0 : PySem.W.subIn K (.ref D) (.ref D) = some true) : PySem.W.kitOne K (.ref D) (.ref C) = some b := by
  unfold PySem.W.kitOne
  by_cases h : (Value.ref D == Value.ref C) = true
  · rw [if_pos h]
    have e : D = C := Value.ref.inj (beq_iff_eq.mp h)
    subst e
    exact s0.symm.trans s
  · rw [if_neg h]
    have i' : (PySem.W.clsIn K C).isSome = true := i
    show (if ((PySem.W.clsIn K C).isSome && PySem.W.typeIn K (.ref C) == some (.type "type")) = true then PySem.W.subIn K (.ref D) (.ref C) else none) = some b
    rw [if_pos (by rw [i', t]; rfl)]
    exact s
theorem kit_ty {K : Kf} {D : Addr} {T : String} (m : PySem.W.kitMeta T = true) (s : PySem.W.subIn K (.ref D) (.type T) = some true) : PySem.W.kitOne K (.ref D) (.type T) = some true := by
  unfold PySem.W.kitOne
  rw [if_neg (by intro z; cases beq_iff_eq.mp z)]
  show (if PySem.W.kitMeta T = true then PySem.W.subIn K (.ref D) (.type T) else none) = some true
  rw [if_pos m]
  exact s
theorem exm_of {K : Kf} {D C : Addr} (h1 : PySem.W.subIn K (.ref C) (.type "BaseException") = some true) (i : PySem.W.isClsIn K C = true) (t : PySem.W.typeIn K (.ref C) = some (.type "type")) (s : PySem.W.subIn K (.ref D) (.ref C) = some true) : PySem.W.exmOne K (.ref D) (.ref C) = some true := by
  have i' : (PySem.W.clsIn K C).isSome = true := i
  show (if (PySem.W.subIn K (.ref C) (.type "BaseException") == some true) = true then (if ((PySem.W.clsIn K C).isSome && PySem.W.typeIn K (.ref C) == some (.type "type")) = true then PySem.W.subIn K (.ref D) (.ref C) else none) else none) = some true
  rw [if_pos (by rw [h1]; rfl), if_pos (by rw [i', t]; rfl)]
  exact s
/-- the same def -/
theorem fn_same {P : Program} {w : World} {K : Kf} {mg : Str → Option Value} {base : Heap} {CX : CXT} {k : Nat} {f : Addr} {fd fd' : FuncData} {ps : List Str} {sp : Sp} {oc : Value} {od : Option Addr} {sl : Array (Option Value)} (F : FnOk P w K mg base CX k f fd ps sp) (e : fd = fd') : FnOk P w K mg base CX k f fd' ps sp := e ▸ F
theorem law_start {K : Kf} {cR PT : Addr} (H : Hp) (a : Addr) (ns : List Int) (hl : ns.length ≤ 63) (_ : ∀ z ∈ ns, Builtin.Int.intBits z ≤ 1048576) (hT : ∀ p ∈ [(cR, PT)], H p.2 = some (.tbl #[])) (hS : SqL K H a (ns.map V.int)) : spW K 1 (rel_law PT) [.ref a] H (fun v _ => v = .bl true) fun _ _ _ => False := by
  have hP : H PT = some (.tbl #[]) := hT (cR, PT) (List.mem_singleton.mpr rfl)
  have eG : Ex (fun b => if b = PT then none else H b) H := fun b o h => by
    by_cases hb : b = PT
    · have h : (if b = PT then none else H b) = some o := h
      rw [if_pos hb] at h; cases h
    · have h : (if b = PT then none else H b) = some o := h
      rw [if_neg hb] at h; exact h
  have gr : ∀ b o, H b = some o → (∀ ps, o ≠ .tbl ps) → (fun b => if b = PT then none else H b) b = some o := fun b o h n => by
    show (if b = PT then none else H b) = some o
    rw [if_neg fun z => by rw [z, hP] at h; exact n _ (Option.some.inj h).symm]
    exact h
  have hS2 : SqL K (fun b => if b = PT then none else H b) a (ns.map V.int) := by
    rcases hS with h | h
    · rcases h with h | ⟨o, h⟩
      · exact .inl (.inl (gr _ _ h fun ps z => by cases z))
      · exact .inl (.inr ⟨o, gr _ _ h fun ps z => by cases z⟩)
    · exact .inr h
  refine ⟨rfl, fun b => if b = PT then none else H b, [.d (.list (ns.map .int))], [(PT, none)], fun y _ => y = .d (.bool true), eG, .cons (.of (.lst hS2 (dpa_of_ints ns))) .nil, fun p hp => ?_, ⟨ns, rfl, by omega, rfl, fun _ => rfl⟩, fun v G' H' y ow' g k s r => ?_⟩
  · rw [List.mem_singleton.mp hp]
    exact ⟨if_pos rfl, by show H PT ≠ none; rw [hP]; simp, (fun ds z => by cases z), fun _ => ⟨TabS.nil hP, eG⟩⟩
  · have r : y = .d (.bool true) := r
    subst r
    have k := k.dp
    cases k
    rfl
theorem walk_tab {l : PySem.W.OpenLaw} {n k : Nat} {q : Program} {loose : List Str} {XP : (Str → Option Value) → Heap → Prop} {YP : World → Heap → Prop} {d : DefRec} {K : Params → PySem.W.Frag} {CX : World → CXT} {x y : Str}
    (hn : l.most = some n) (hn2 : n ≤ sizeLine) (hdf : d.params.defaults = []) (hr : Room k callerA) (hrec : ((recsOf q).find? fun e => e.name == y).isSome = true) (hY : ∀ (w : World) (h : Heap), YP w h → (K w.params).In h)
    (F : ∀ (w : World) (mg : Str → Option Value) (fa : Addr) (h : Heap), YP w h → (K w.params).In h → h.Ns mainGlobals mg → mg d.name = some (.ref fa) → (∀ c P, PySem.W.tabIn (K w.params) y = some (c, P) → PySem.W.CodeHd h c P ∧ h.get? P = some (PySem.W.tabObj #[])) → LawAtS l w (K w.params) (CX w) k n x mg fa h)
    (hCX : ∀ (w : World) (H : Hp) (s : Shared) (e : Value) (s' : Shared), CX w [] H s (fun _ _ _ => False) e s' → False) :
    PySem.W.WalkO q loose XP YP l.row.toRowW d [] (fun f vs => PySem.call f vs) := by
  refine Att.attach_callB hn hdf fun w s₀ s₁ mg mb fa o pm cd doc a vs ns G Y ho hd hcd hmg hobj hints hlen hbits hg => ?_
  have KX := hY w _ Y
  obtain ⟨dr, hdr⟩ := Option.isSome_iff_exists.mp hrec
  obtain ⟨fd, cs, sp, hT, nT, C, hb, hsp, hF⟩ := F w mg fa _ Y KX G.T.g hmg fun c P ht => PySem.W.tab_of G.T KX hdr ht
  exact law_callTs KX G.T.g G.T.b G.T.builtins G.T.nolimit hg hT nT C G.T.bmain hobj hints (Nat.le_trans hlen hn2) hr hF hb (fun H hH hS => hsp H a ns hlen hbits hH hS) fun H e s' => hCX w H s₁ e s'
theorem all_mk {l : PySem.W.OpenLaw} {w : World} {K : Kf} {h : Heap} {mg : Str → Option Value} {fa : Addr} (X : K.In h) (G : h.Ns mainGlobals mg) (hfa : mg "law" = some (.ref fa)) (tabs : ∀ c P, PySem.W.tabIn K "_law_refused" = some (c, P) → PySem.W.CodeHd h c P ∧ h.get? P = some (PySem.W.tabObj #[]))
    {f_is_whole : Addr} {od_is_whole an_is_whole : Option Addr} {sl_is_whole : Array (Option Value)} {oc_is_whole kV_is_whole dc_is_whole pm_is_whole ct_is_whole cd_is_whole : Value}
    {f_power_of : Addr} {od_power_of an_power_of : Option Addr} {sl_power_of : Array (Option Value)} {oc_power_of kV_power_of dc_power_of pm_power_of ct_power_of cd_power_of : Value}
    {f_spanned : Addr} {od_spanned an_spanned : Option Addr} {sl_spanned : Array (Option Value)} {oc_spanned kV_spanned dc_spanned pm_spanned ct_spanned cd_spanned : Value}
    {f_middle_by : Addr} {od_middle_by an_middle_by : Option Addr} {sl_middle_by : Array (Option Value)} {oc_middle_by kV_middle_by dc_middle_by pm_middle_by ct_middle_by cd_middle_by : Value}
    {f__law_middle : Addr} {od__law_middle an__law_middle : Option Addr} {sl__law_middle : Array (Option Value)} {oc__law_middle kV__law_middle dc__law_middle pm__law_middle ct__law_middle cd__law_middle : Value}
    {f__law_power : Addr} {od__law_power an__law_power : Option Addr} {sl__law_power : Array (Option Value)} {oc__law_power kV__law_power dc__law_power pm__law_power ct__law_power cd__law_power : Value}
    {f_lines_of : Addr} {od_lines_of an_lines_of : Option Addr} {sl_lines_of : Array (Option Value)} {oc_lines_of kV_lines_of dc_lines_of pm_lines_of ct_lines_of cd_lines_of : Value}
    {f__law_lines : Addr} {od__law_lines an__law_lines : Option Addr} {sl__law_lines : Array (Option Value)} {oc__law_lines kV__law_lines dc__law_lines pm__law_lines ct__law_lines cd__law_lines : Value}
    {f_fields_on : Addr} {od_fields_on an_fields_on : Option Addr} {sl_fields_on : Array (Option Value)} {oc_fields_on kV_fields_on dc_fields_on pm_fields_on ct_fields_on cd_fields_on : Value}
    {f__law_rising : Addr} {od__law_rising an__law_rising : Option Addr} {sl__law_rising : Array (Option Value)} {oc__law_rising kV__law_rising dc__law_rising pm__law_rising ct__law_rising cd__law_rising : Value}
    {f__law_within : Addr} {od__law_within an__law_within : Option Addr} {sl__law_within : Array (Option Value)} {oc__law_within kV__law_within dc__law_within pm__law_within ct__law_within cd__law_within : Value}
    {f__law_outer : Addr} {od__law_outer an__law_outer : Option Addr} {sl__law_outer : Array (Option Value)} {oc__law_outer kV__law_outer dc__law_outer pm__law_outer ct__law_outer cd__law_outer : Value}
    {f__law_every : Addr} {od__law_every an__law_every : Option Addr} {sl__law_every : Array (Option Value)} {oc__law_every kV__law_every dc__law_every pm__law_every ct__law_every cd__law_every : Value}
    {f_fits_order : Addr} {od_fits_order an_fits_order : Option Addr} {sl_fits_order : Array (Option Value)} {oc_fits_order kV_fits_order dc_fits_order pm_fits_order ct_fits_order cd_fits_order : Value}
    {f_fits_arc : Addr} {od_fits_arc an_fits_arc : Option Addr} {sl_fits_arc : Array (Option Value)} {oc_fits_arc kV_fits_arc dc_fits_arc pm_fits_arc ct_fits_arc cd_fits_arc : Value}
    {f_fits_field : Addr} {od_fits_field an_fits_field : Option Addr} {sl_fits_field : Array (Option Value)} {oc_fits_field kV_fits_field dc_fits_field pm_fits_field ct_fits_field cd_fits_field : Value}
    {f_need_field : Addr} {od_need_field an_need_field : Option Addr} {sl_need_field : Array (Option Value)} {oc_need_field kV_need_field dc_need_field pm_need_field ct_need_field cd_need_field : Value}
    {f_is_closed_field : Addr} {od_is_closed_field an_is_closed_field : Option Addr} {sl_is_closed_field : Array (Option Value)} {oc_is_closed_field kV_is_closed_field dc_is_closed_field pm_is_closed_field ct_is_closed_field cd_is_closed_field : Value}
    {f__law_off : Addr} {od__law_off an__law_off : Option Addr} {sl__law_off : Array (Option Value)} {oc__law_off kV__law_off dc__law_off pm__law_off ct__law_off cd__law_off : Value}
    {f_need_cars : Addr} {od_need_cars an_need_cars : Option Addr} {sl_need_cars : Array (Option Value)} {oc_need_cars kV_need_cars dc_need_cars pm_need_cars ct_need_cars cd_need_cars : Value}
    {f_need_few : Addr} {od_need_few an_need_few : Option Addr} {sl_need_few : Array (Option Value)} {oc_need_few kV_need_few dc_need_few pm_need_few ct_need_few cd_need_few : Value}
    {f_middle_field : Addr} {od_middle_field an_middle_field : Option Addr} {sl_middle_field : Array (Option Value)} {oc_middle_field kV_middle_field dc_middle_field pm_middle_field ct_middle_field cd_middle_field : Value}
    {f_count_fields : Addr} {od_count_fields an_count_fields : Option Addr} {sl_count_fields : Array (Option Value)} {oc_count_fields kV_count_fields dc_count_fields pm_count_fields ct_count_fields cd_count_fields : Value}
    {f_count_closed_fields : Addr} {od_count_closed_fields an_count_closed_fields : Option Addr} {sl_count_closed_fields : Array (Option Value)} {oc_count_closed_fields kV_count_closed_fields dc_count_closed_fields pm_count_closed_fields ct_count_closed_fields cd_count_closed_fields : Value}
    {f_all_fields : Addr} {od_all_fields an_all_fields : Option Addr} {sl_all_fields : Array (Option Value)} {oc_all_fields kV_all_fields dc_all_fields pm_all_fields ct_all_fields cd_all_fields : Value}
    {f_count_off_planes : Addr} {od_count_off_planes an_count_off_planes : Option Addr} {sl_count_off_planes : Array (Option Value)} {oc_count_off_planes kV_count_off_planes dc_count_off_planes pm_count_off_planes ct_count_off_planes cd_count_off_planes : Value}
    {f__law_names : Addr} {od__law_names an__law_names : Option Addr} {sl__law_names : Array (Option Value)} {oc__law_names kV__law_names dc__law_names pm__law_names ct__law_names cd__law_names : Value}
    {f__law_error : Addr} {od__law_error an__law_error : Option Addr} {sl__law_error : Array (Option Value)} {oc__law_error kV__law_error dc__law_error pm__law_error ct__law_error cd__law_error : Value}
    {f__law_jar : Addr} {od__law_jar an__law_jar : Option Addr} {sl__law_jar : Array (Option Value)} {oc__law_jar kV__law_jar dc__law_jar pm__law_jar ct__law_jar cd__law_jar : Value}
    {f__law_dip : Addr} {od__law_dip an__law_dip : Option Addr} {sl__law_dip : Array (Option Value)} {oc__law_dip kV__law_dip dc__law_dip pm__law_dip ct__law_dip cd__law_dip : Value}
    {f__law_refused : Addr} {od__law_refused an__law_refused : Option Addr} {sl__law_refused : Array (Option Value)} {oc__law_refused kV__law_refused dc__law_refused pm__law_refused ct__law_refused : Value}
    {f_law : Addr} {od_law an_law : Option Addr} {sl_law : Array (Option Value)} {oc_law kV_law dc_law pm_law ct_law cd_law : Value}
    {cR PT : Addr} {eR : Value} {dR : Option Addr} {vR : Array Value} {sR : Array (Option Value)}
    {t_CARS : Tok}
    {t_DRAWN : Tok}
    {t_TOLD : Tok}
    {CS c1 c2 c3 c4 c5 c6 c7 c8 : Addr}
    {nm q : Str} {N : Addr} {bs bm : List Value} {sn : List Str} {sub : List Value} {ab : Bool} {col : Option Bool} {dd : Option Addr} {m0 m1 m2 m3 m5 : Option Value}
    {fI cc cda : Addr} {ocI kVI dcI pmI ctI ccl ccl2 : Value} {odI anI cdd cld : Option Addr} {slI ccs csl : Array (Option Value)} {vM : Array Value} {file : Str} {tf : Tok} {cdM : ClassData}
    (a_is_whole : PySem.W.nsIn K mainGlobals "is_whole" = some (some (.ref f_is_whole)))
    (l_is_whole : K.lookup f_is_whole = some ⟨oc_is_whole, od_is_whole, .func (PySem.W.fnOf "is_whole" "is_whole" (defArgs s_is_whole) (defBody s_is_whole) (defScope s_is_whole) .none kV_is_whole dc_is_whole pm_is_whole an_is_whole cd_is_whole ct_is_whole), sl_is_whole⟩)
    (c_is_whole : PySem.W.codeIn K cd_is_whole "is_whole" = true)
    (k_is_whole : PySem.W.keepIn K (.ref f_is_whole) = true)
    (a_power_of : PySem.W.nsIn K mainGlobals "power_of" = some (some (.ref f_power_of)))
    (l_power_of : K.lookup f_power_of = some ⟨oc_power_of, od_power_of, .func (PySem.W.fnOf "power_of" "power_of" (defArgs s_power_of) (defBody s_power_of) (defScope s_power_of) .none kV_power_of dc_power_of pm_power_of an_power_of cd_power_of ct_power_of), sl_power_of⟩)
    (c_power_of : PySem.W.codeIn K cd_power_of "power_of" = true)
    (k_power_of : PySem.W.keepIn K (.ref f_power_of) = true)
    (a_spanned : PySem.W.nsIn K mainGlobals "spanned" = some (some (.ref f_spanned)))
    (l_spanned : K.lookup f_spanned = some ⟨oc_spanned, od_spanned, .func (PySem.W.fnOf "spanned" "spanned" (defArgs s_spanned) (defBody s_spanned) (defScope s_spanned) .none kV_spanned dc_spanned pm_spanned an_spanned cd_spanned ct_spanned), sl_spanned⟩)
    (c_spanned : PySem.W.codeIn K cd_spanned "spanned" = true)
    (k_spanned : PySem.W.keepIn K (.ref f_spanned) = true)
    (a_middle_by : PySem.W.nsIn K mainGlobals "middle_by" = some (some (.ref f_middle_by)))
    (l_middle_by : K.lookup f_middle_by = some ⟨oc_middle_by, od_middle_by, .func (PySem.W.fnOf "middle_by" "middle_by" (defArgs s_middle_by) (defBody s_middle_by) (defScope s_middle_by) .none kV_middle_by dc_middle_by pm_middle_by an_middle_by cd_middle_by ct_middle_by), sl_middle_by⟩)
    (c_middle_by : PySem.W.codeIn K cd_middle_by "middle_by" = true)
    (k_middle_by : PySem.W.keepIn K (.ref f_middle_by) = true)
    (a__law_middle : PySem.W.nsIn K mainGlobals "_law_middle" = some (some (.ref f__law_middle)))
    (l__law_middle : K.lookup f__law_middle = some ⟨oc__law_middle, od__law_middle, .func (PySem.W.fnOf "_law_middle" "_law_middle" (defArgs s__law_middle) (defBody s__law_middle) (defScope s__law_middle) .none kV__law_middle dc__law_middle pm__law_middle an__law_middle cd__law_middle ct__law_middle), sl__law_middle⟩)
    (c__law_middle : PySem.W.codeIn K cd__law_middle "_law_middle" = true)
    (k__law_middle : PySem.W.keepIn K (.ref f__law_middle) = true)
    (a__law_power : PySem.W.nsIn K mainGlobals "_law_power" = some (some (.ref f__law_power)))
    (l__law_power : K.lookup f__law_power = some ⟨oc__law_power, od__law_power, .func (PySem.W.fnOf "_law_power" "_law_power" (defArgs s__law_power) (defBody s__law_power) (defScope s__law_power) .none kV__law_power dc__law_power pm__law_power an__law_power cd__law_power ct__law_power), sl__law_power⟩)
    (c__law_power : PySem.W.codeIn K cd__law_power "_law_power" = true)
    (k__law_power : PySem.W.keepIn K (.ref f__law_power) = true)
    (a_lines_of : PySem.W.nsIn K mainGlobals "lines_of" = some (some (.ref f_lines_of)))
    (l_lines_of : K.lookup f_lines_of = some ⟨oc_lines_of, od_lines_of, .func (PySem.W.fnOf "lines_of" "lines_of" (defArgs s_lines_of) (defBody s_lines_of) (defScope s_lines_of) .none kV_lines_of dc_lines_of pm_lines_of an_lines_of cd_lines_of ct_lines_of), sl_lines_of⟩)
    (c_lines_of : PySem.W.codeIn K cd_lines_of "lines_of" = true)
    (k_lines_of : PySem.W.keepIn K (.ref f_lines_of) = true)
    (a__law_lines : PySem.W.nsIn K mainGlobals "_law_lines" = some (some (.ref f__law_lines)))
    (l__law_lines : K.lookup f__law_lines = some ⟨oc__law_lines, od__law_lines, .func (PySem.W.fnOf "_law_lines" "_law_lines" (defArgs s__law_lines) (defBody s__law_lines) (defScope s__law_lines) .none kV__law_lines dc__law_lines pm__law_lines an__law_lines cd__law_lines ct__law_lines), sl__law_lines⟩)
    (c__law_lines : PySem.W.codeIn K cd__law_lines "_law_lines" = true)
    (k__law_lines : PySem.W.keepIn K (.ref f__law_lines) = true)
    (a_fields_on : PySem.W.nsIn K mainGlobals "fields_on" = some (some (.ref f_fields_on)))
    (l_fields_on : K.lookup f_fields_on = some ⟨oc_fields_on, od_fields_on, .func (PySem.W.fnOf "fields_on" "fields_on" (defArgs s_fields_on) (defBody s_fields_on) (defScope s_fields_on) .none kV_fields_on dc_fields_on pm_fields_on an_fields_on cd_fields_on ct_fields_on), sl_fields_on⟩)
    (c_fields_on : PySem.W.codeIn K cd_fields_on "fields_on" = true)
    (k_fields_on : PySem.W.keepIn K (.ref f_fields_on) = true)
    (a__law_rising : PySem.W.nsIn K mainGlobals "_law_rising" = some (some (.ref f__law_rising)))
    (l__law_rising : K.lookup f__law_rising = some ⟨oc__law_rising, od__law_rising, .func (PySem.W.fnOf "_law_rising" "_law_rising" (defArgs s__law_rising) (defBody s__law_rising) (defScope s__law_rising) .none kV__law_rising dc__law_rising pm__law_rising an__law_rising cd__law_rising ct__law_rising), sl__law_rising⟩)
    (c__law_rising : PySem.W.codeIn K cd__law_rising "_law_rising" = true)
    (k__law_rising : PySem.W.keepIn K (.ref f__law_rising) = true)
    (a__law_within : PySem.W.nsIn K mainGlobals "_law_within" = some (some (.ref f__law_within)))
    (l__law_within : K.lookup f__law_within = some ⟨oc__law_within, od__law_within, .func (PySem.W.fnOf "_law_within" "_law_within" (defArgs s__law_within) (defBody s__law_within) (defScope s__law_within) .none kV__law_within dc__law_within pm__law_within an__law_within cd__law_within ct__law_within), sl__law_within⟩)
    (c__law_within : PySem.W.codeIn K cd__law_within "_law_within" = true)
    (k__law_within : PySem.W.keepIn K (.ref f__law_within) = true)
    (a__law_outer : PySem.W.nsIn K mainGlobals "_law_outer" = some (some (.ref f__law_outer)))
    (l__law_outer : K.lookup f__law_outer = some ⟨oc__law_outer, od__law_outer, .func (PySem.W.fnOf "_law_outer" "_law_outer" (defArgs s__law_outer) (defBody s__law_outer) (defScope s__law_outer) .none kV__law_outer dc__law_outer pm__law_outer an__law_outer cd__law_outer ct__law_outer), sl__law_outer⟩)
    (c__law_outer : PySem.W.codeIn K cd__law_outer "_law_outer" = true)
    (k__law_outer : PySem.W.keepIn K (.ref f__law_outer) = true)
    (a__law_every : PySem.W.nsIn K mainGlobals "_law_every" = some (some (.ref f__law_every)))
    (l__law_every : K.lookup f__law_every = some ⟨oc__law_every, od__law_every, .func (PySem.W.fnOf "_law_every" "_law_every" (defArgs s__law_every) (defBody s__law_every) (defScope s__law_every) .none kV__law_every dc__law_every pm__law_every an__law_every cd__law_every ct__law_every), sl__law_every⟩)
    (c__law_every : PySem.W.codeIn K cd__law_every "_law_every" = true)
    (k__law_every : PySem.W.keepIn K (.ref f__law_every) = true)
    (a_fits_order : PySem.W.nsIn K mainGlobals "fits_order" = some (some (.ref f_fits_order)))
    (l_fits_order : K.lookup f_fits_order = some ⟨oc_fits_order, od_fits_order, .func (PySem.W.fnOf "fits_order" "fits_order" (defArgs s_fits_order) (defBody s_fits_order) (defScope s_fits_order) .none kV_fits_order dc_fits_order pm_fits_order an_fits_order cd_fits_order ct_fits_order), sl_fits_order⟩)
    (c_fits_order : PySem.W.codeIn K cd_fits_order "fits_order" = true)
    (k_fits_order : PySem.W.keepIn K (.ref f_fits_order) = true)
    (a_fits_arc : PySem.W.nsIn K mainGlobals "fits_arc" = some (some (.ref f_fits_arc)))
    (l_fits_arc : K.lookup f_fits_arc = some ⟨oc_fits_arc, od_fits_arc, .func (PySem.W.fnOf "fits_arc" "fits_arc" (defArgs s_fits_arc) (defBody s_fits_arc) (defScope s_fits_arc) .none kV_fits_arc dc_fits_arc pm_fits_arc an_fits_arc cd_fits_arc ct_fits_arc), sl_fits_arc⟩)
    (c_fits_arc : PySem.W.codeIn K cd_fits_arc "fits_arc" = true)
    (k_fits_arc : PySem.W.keepIn K (.ref f_fits_arc) = true)
    (a_fits_field : PySem.W.nsIn K mainGlobals "fits_field" = some (some (.ref f_fits_field)))
    (l_fits_field : K.lookup f_fits_field = some ⟨oc_fits_field, od_fits_field, .func (PySem.W.fnOf "fits_field" "fits_field" (defArgs s_fits_field) (defBody s_fits_field) (defScope s_fits_field) .none kV_fits_field dc_fits_field pm_fits_field an_fits_field cd_fits_field ct_fits_field), sl_fits_field⟩)
    (c_fits_field : PySem.W.codeIn K cd_fits_field "fits_field" = true)
    (k_fits_field : PySem.W.keepIn K (.ref f_fits_field) = true)
    (a_need_field : PySem.W.nsIn K mainGlobals "need_field" = some (some (.ref f_need_field)))
    (l_need_field : K.lookup f_need_field = some ⟨oc_need_field, od_need_field, .func (PySem.W.fnOf "need_field" "need_field" (defArgs s_need_field) (defBody s_need_field) (defScope s_need_field) .none kV_need_field dc_need_field pm_need_field an_need_field cd_need_field ct_need_field), sl_need_field⟩)
    (c_need_field : PySem.W.codeIn K cd_need_field "need_field" = true)
    (k_need_field : PySem.W.keepIn K (.ref f_need_field) = true)
    (a_is_closed_field : PySem.W.nsIn K mainGlobals "is_closed_field" = some (some (.ref f_is_closed_field)))
    (l_is_closed_field : K.lookup f_is_closed_field = some ⟨oc_is_closed_field, od_is_closed_field, .func (PySem.W.fnOf "is_closed_field" "is_closed_field" (defArgs s_is_closed_field) (defBody s_is_closed_field) (defScope s_is_closed_field) .none kV_is_closed_field dc_is_closed_field pm_is_closed_field an_is_closed_field cd_is_closed_field ct_is_closed_field), sl_is_closed_field⟩)
    (c_is_closed_field : PySem.W.codeIn K cd_is_closed_field "is_closed_field" = true)
    (k_is_closed_field : PySem.W.keepIn K (.ref f_is_closed_field) = true)
    (a__law_off : PySem.W.nsIn K mainGlobals "_law_off" = some (some (.ref f__law_off)))
    (l__law_off : K.lookup f__law_off = some ⟨oc__law_off, od__law_off, .func (PySem.W.fnOf "_law_off" "_law_off" (defArgs s__law_off) (defBody s__law_off) (defScope s__law_off) .none kV__law_off dc__law_off pm__law_off an__law_off cd__law_off ct__law_off), sl__law_off⟩)
    (c__law_off : PySem.W.codeIn K cd__law_off "_law_off" = true)
    (k__law_off : PySem.W.keepIn K (.ref f__law_off) = true)
    (a_need_cars : PySem.W.nsIn K mainGlobals "need_cars" = some (some (.ref f_need_cars)))
    (l_need_cars : K.lookup f_need_cars = some ⟨oc_need_cars, od_need_cars, .func (PySem.W.fnOf "need_cars" "need_cars" (defArgs s_need_cars) (defBody s_need_cars) (defScope s_need_cars) .none kV_need_cars dc_need_cars pm_need_cars an_need_cars cd_need_cars ct_need_cars), sl_need_cars⟩)
    (c_need_cars : PySem.W.codeIn K cd_need_cars "need_cars" = true)
    (k_need_cars : PySem.W.keepIn K (.ref f_need_cars) = true)
    (a_need_few : PySem.W.nsIn K mainGlobals "need_few" = some (some (.ref f_need_few)))
    (l_need_few : K.lookup f_need_few = some ⟨oc_need_few, od_need_few, .func (PySem.W.fnOf "need_few" "need_few" (defArgs s_need_few) (defBody s_need_few) (defScope s_need_few) .none kV_need_few dc_need_few pm_need_few an_need_few cd_need_few ct_need_few), sl_need_few⟩)
    (c_need_few : PySem.W.codeIn K cd_need_few "need_few" = true)
    (k_need_few : PySem.W.keepIn K (.ref f_need_few) = true)
    (a_middle_field : PySem.W.nsIn K mainGlobals "middle_field" = some (some (.ref f_middle_field)))
    (l_middle_field : K.lookup f_middle_field = some ⟨oc_middle_field, od_middle_field, .func (PySem.W.fnOf "middle_field" "middle_field" (defArgs s_middle_field) (defBody s_middle_field) (defScope s_middle_field) .none kV_middle_field dc_middle_field pm_middle_field an_middle_field cd_middle_field ct_middle_field), sl_middle_field⟩)
    (c_middle_field : PySem.W.codeIn K cd_middle_field "middle_field" = true)
    (k_middle_field : PySem.W.keepIn K (.ref f_middle_field) = true)
    (a_count_fields : PySem.W.nsIn K mainGlobals "count_fields" = some (some (.ref f_count_fields)))
    (l_count_fields : K.lookup f_count_fields = some ⟨oc_count_fields, od_count_fields, .func (PySem.W.fnOf "count_fields" "count_fields" (defArgs s_count_fields) (defBody s_count_fields) (defScope s_count_fields) .none kV_count_fields dc_count_fields pm_count_fields an_count_fields cd_count_fields ct_count_fields), sl_count_fields⟩)
    (c_count_fields : PySem.W.codeIn K cd_count_fields "count_fields" = true)
    (k_count_fields : PySem.W.keepIn K (.ref f_count_fields) = true)
    (a_count_closed_fields : PySem.W.nsIn K mainGlobals "count_closed_fields" = some (some (.ref f_count_closed_fields)))
    (l_count_closed_fields : K.lookup f_count_closed_fields = some ⟨oc_count_closed_fields, od_count_closed_fields, .func (PySem.W.fnOf "count_closed_fields" "count_closed_fields" (defArgs s_count_closed_fields) (defBody s_count_closed_fields) (defScope s_count_closed_fields) .none kV_count_closed_fields dc_count_closed_fields pm_count_closed_fields an_count_closed_fields cd_count_closed_fields ct_count_closed_fields), sl_count_closed_fields⟩)
    (c_count_closed_fields : PySem.W.codeIn K cd_count_closed_fields "count_closed_fields" = true)
    (k_count_closed_fields : PySem.W.keepIn K (.ref f_count_closed_fields) = true)
    (a_all_fields : PySem.W.nsIn K mainGlobals "all_fields" = some (some (.ref f_all_fields)))
    (l_all_fields : K.lookup f_all_fields = some ⟨oc_all_fields, od_all_fields, .func (PySem.W.fnOf "all_fields" "all_fields" (defArgs s_all_fields) (defBody s_all_fields) (defScope s_all_fields) .none kV_all_fields dc_all_fields pm_all_fields an_all_fields cd_all_fields ct_all_fields), sl_all_fields⟩)
    (c_all_fields : PySem.W.codeIn K cd_all_fields "all_fields" = true)
    (k_all_fields : PySem.W.keepIn K (.ref f_all_fields) = true)
    (a_count_off_planes : PySem.W.nsIn K mainGlobals "count_off_planes" = some (some (.ref f_count_off_planes)))
    (l_count_off_planes : K.lookup f_count_off_planes = some ⟨oc_count_off_planes, od_count_off_planes, .func (PySem.W.fnOf "count_off_planes" "count_off_planes" (defArgs s_count_off_planes) (defBody s_count_off_planes) (defScope s_count_off_planes) .none kV_count_off_planes dc_count_off_planes pm_count_off_planes an_count_off_planes cd_count_off_planes ct_count_off_planes), sl_count_off_planes⟩)
    (c_count_off_planes : PySem.W.codeIn K cd_count_off_planes "count_off_planes" = true)
    (k_count_off_planes : PySem.W.keepIn K (.ref f_count_off_planes) = true)
    (a__law_names : PySem.W.nsIn K mainGlobals "_law_names" = some (some (.ref f__law_names)))
    (l__law_names : K.lookup f__law_names = some ⟨oc__law_names, od__law_names, .func (PySem.W.fnOf "_law_names" "_law_names" (defArgs s__law_names) (defBody s__law_names) (defScope s__law_names) .none kV__law_names dc__law_names pm__law_names an__law_names cd__law_names ct__law_names), sl__law_names⟩)
    (c__law_names : PySem.W.codeIn K cd__law_names "_law_names" = true)
    (k__law_names : PySem.W.keepIn K (.ref f__law_names) = true)
    (a__law_error : PySem.W.nsIn K mainGlobals "_law_error" = some (some (.ref f__law_error)))
    (l__law_error : K.lookup f__law_error = some ⟨oc__law_error, od__law_error, .func (PySem.W.fnOf "_law_error" "_law_error" (defArgs s__law_error) (defBody s__law_error) (defScope s__law_error) .none kV__law_error dc__law_error pm__law_error an__law_error cd__law_error ct__law_error), sl__law_error⟩)
    (c__law_error : PySem.W.codeIn K cd__law_error "_law_error" = true)
    (k__law_error : PySem.W.keepIn K (.ref f__law_error) = true)
    (a__law_jar : PySem.W.nsIn K mainGlobals "_law_jar" = some (some (.ref f__law_jar)))
    (l__law_jar : K.lookup f__law_jar = some ⟨oc__law_jar, od__law_jar, .func (PySem.W.fnOf "_law_jar" "_law_jar" (defArgs s__law_jar) (defBody s__law_jar) (defScope s__law_jar) .none kV__law_jar dc__law_jar pm__law_jar an__law_jar cd__law_jar ct__law_jar), sl__law_jar⟩)
    (c__law_jar : PySem.W.codeIn K cd__law_jar "_law_jar" = true)
    (k__law_jar : PySem.W.keepIn K (.ref f__law_jar) = true)
    (a__law_dip : PySem.W.nsIn K mainGlobals "_law_dip" = some (some (.ref f__law_dip)))
    (l__law_dip : K.lookup f__law_dip = some ⟨oc__law_dip, od__law_dip, .func (PySem.W.fnOf "_law_dip" "_law_dip" (defArgs s__law_dip) (defBody s__law_dip) (defScope s__law_dip) .none kV__law_dip dc__law_dip pm__law_dip an__law_dip cd__law_dip ct__law_dip), sl__law_dip⟩)
    (c__law_dip : PySem.W.codeIn K cd__law_dip "_law_dip" = true)
    (k__law_dip : PySem.W.keepIn K (.ref f__law_dip) = true)
    (a__law_refused : PySem.W.nsIn K mainGlobals "_law_refused" = some (some (.ref f__law_refused)))
    (l__law_refused : K.lookup f__law_refused = some ⟨oc__law_refused, od__law_refused, .func (PySem.W.fnOf "_law_refused" "_law_refused" (defArgs s__law_refused) (defBody s__law_refused) (defScope s__law_refused) .none kV__law_refused dc__law_refused pm__law_refused an__law_refused (.ref cR) ct__law_refused), sl__law_refused⟩)
    (c__law_refused : PySem.W.codeIn K (.ref cR) "_law_refused" = true)
    (k__law_refused : PySem.W.keepIn K (.ref f__law_refused) = true)
    (a_law : PySem.W.nsIn K mainGlobals "law" = some (some (.ref f_law)))
    (l_law : K.lookup f_law = some ⟨oc_law, od_law, .func (PySem.W.fnOf "law" "law" (defArgs s_law) (defBody s_law) (defScope s_law) .none kV_law dc_law pm_law an_law cd_law ct_law), sl_law⟩)
    (c_law : PySem.W.codeIn K cd_law "law" = true)
    (k_law : PySem.W.keepIn K (.ref f_law) = true)
    (lR : K.lookup cR = some ⟨eR, dR, .fields vR, sR⟩)
    (vR11 : vR[11]? = some (.ref PT))
    (nR : (K.lookup PT).isNone = true)
    (z_len : PySem.W.nsIn K mainGlobals "len" = some none)
    (z_all : PySem.W.nsIn K mainGlobals "all" = some none)
    (z_any : PySem.W.nsIn K mainGlobals "any" = some none)
    (z_sorted : PySem.W.nsIn K mainGlobals "sorted" = some none)
    (z_tuple : PySem.W.nsIn K mainGlobals "tuple" = some none)
    (z_range : PySem.W.nsIn K mainGlobals "range" = some none)
    (z_isinstance : PySem.W.nsIn K mainGlobals "isinstance" = some none)
    (z_int : PySem.W.nsIn K mainGlobals "int" = some none)
    (z_bool : PySem.W.nsIn K mainGlobals "bool" = some none)
    (z_set : PySem.W.nsIn K mainGlobals "set" = some none)
    (z_zip : PySem.W.nsIn K mainGlobals "zip" = some none)
    (z_list : PySem.W.nsIn K mainGlobals "list" = some none)
    (z_abs : PySem.W.nsIn K mainGlobals "abs" = some none)
    (z_super : PySem.W.nsIn K mainGlobals "super" = some none)
    (z_ValueError : PySem.W.nsIn K mainGlobals "ValueError" = some none)
    (g_CARS : PySem.W.nsIn K mainGlobals "CARS" = some (some (.int 12 t_CARS)))
    (g_DRAWN : PySem.W.nsIn K mainGlobals "DRAWN" = some (some (.int 4 t_DRAWN)))
    (g_TOLD : PySem.W.nsIn K mainGlobals "TOLD" = some (some (.int 60 t_TOLD)))
    (aS : PySem.W.nsIn K mainGlobals "ParkError" = some (some (.ref CS)))
    (iS : PySem.W.isClsIn K CS = true)
    (tS : PySem.W.typeIn K (.ref CS) = some (.type "type"))
    (eS : PySem.W.subIn K (.ref CS) (.type "BaseException") = some true)
    (ac1 : PySem.W.nsIn K mainGlobals "InvalidField" = some (some (.ref c1)))
    (ic1 : PySem.W.isClsIn K c1 = true)
    (tc1 : PySem.W.typeIn K (.ref c1) = some (.type "type"))
    (ac2 : PySem.W.nsIn K mainGlobals "InvalidPlane" = some (some (.ref c2)))
    (ic2 : PySem.W.isClsIn K c2 = true)
    (tc2 : PySem.W.typeIn K (.ref c2) = some (.type "type"))
    (ac3 : PySem.W.nsIn K mainGlobals "InvalidPoint" = some (some (.ref c3)))
    (ic3 : PySem.W.isClsIn K c3 = true)
    (tc3 : PySem.W.typeIn K (.ref c3) = some (.type "type"))
    (ac4 : PySem.W.nsIn K mainGlobals "InvalidCars" = some (some (.ref c4)))
    (ic4 : PySem.W.isClsIn K c4 = true)
    (tc4 : PySem.W.typeIn K (.ref c4) = some (.type "type"))
    (ac5 : PySem.W.nsIn K mainGlobals "InvalidNumber" = some (some (.ref c5)))
    (ic5 : PySem.W.isClsIn K c5 = true)
    (tc5 : PySem.W.typeIn K (.ref c5) = some (.type "type"))
    (ac6 : PySem.W.nsIn K mainGlobals "InvalidRow" = some (some (.ref c6)))
    (ic6 : PySem.W.isClsIn K c6 = true)
    (tc6 : PySem.W.typeIn K (.ref c6) = some (.type "type"))
    (ac7 : PySem.W.nsIn K mainGlobals "Unlike" = some (some (.ref c7)))
    (ic7 : PySem.W.isClsIn K c7 = true)
    (tc7 : PySem.W.typeIn K (.ref c7) = some (.type "type"))
    (ac8 : PySem.W.nsIn K mainGlobals "TooMany" = some (some (.ref c8)))
    (ic8 : PySem.W.isClsIn K c8 = true)
    (tc8 : PySem.W.typeIn K (.ref c8) = some (.type "type"))
    (es4 : PySem.W.subIn K (.ref c4) (.ref CS) = some true)
    (s41 : PySem.W.subIn K (.ref c4) (.ref c1) = some false)
    (s42 : PySem.W.subIn K (.ref c4) (.ref c2) = some false)
    (s43 : PySem.W.subIn K (.ref c4) (.ref c3) = some false)
    (s44 : PySem.W.subIn K (.ref c4) (.ref c4) = some true)
    (s45 : PySem.W.subIn K (.ref c4) (.ref c5) = some false)
    (s46 : PySem.W.subIn K (.ref c4) (.ref c6) = some false)
    (s47 : PySem.W.subIn K (.ref c4) (.ref c7) = some false)
    (s48 : PySem.W.subIn K (.ref c4) (.ref c8) = some false)
    (sv4 : PySem.W.subIn K (.ref c4) (.type "ValueError") = some true)
    (kc4 : PySem.W.keepIn K (.ref c4) = true)
    (xb4 : PySem.W.subIn K (.ref c4) (.type "BaseException") = some true)
    (x14 : PySem.W.findIn K (.ref c4) "__getattribute__" = some (some (.builtin "BaseException.__getattribute__")))
    (x24 : PySem.W.findIn K (.ref c4) "__getattr__" = some none)
    (x44 : PySem.W.hasDictIn K c4 = true)
    (x54 : PySem.W.findIn K (.ref c4) "__class__" = some (some (.builtin "object.__class__")))
    (x84 : PySem.W.mroIn K c4 (.type "object") = some true)
    (es5 : PySem.W.subIn K (.ref c5) (.ref CS) = some true)
    (s51 : PySem.W.subIn K (.ref c5) (.ref c1) = some false)
    (s52 : PySem.W.subIn K (.ref c5) (.ref c2) = some false)
    (s53 : PySem.W.subIn K (.ref c5) (.ref c3) = some false)
    (s54 : PySem.W.subIn K (.ref c5) (.ref c4) = some false)
    (s55 : PySem.W.subIn K (.ref c5) (.ref c5) = some true)
    (s56 : PySem.W.subIn K (.ref c5) (.ref c6) = some false)
    (s57 : PySem.W.subIn K (.ref c5) (.ref c7) = some false)
    (s58 : PySem.W.subIn K (.ref c5) (.ref c8) = some false)
    (sv5 : PySem.W.subIn K (.ref c5) (.type "ValueError") = some true)
    (kc5 : PySem.W.keepIn K (.ref c5) = true)
    (xb5 : PySem.W.subIn K (.ref c5) (.type "BaseException") = some true)
    (x15 : PySem.W.findIn K (.ref c5) "__getattribute__" = some (some (.builtin "BaseException.__getattribute__")))
    (x25 : PySem.W.findIn K (.ref c5) "__getattr__" = some none)
    (x45 : PySem.W.hasDictIn K c5 = true)
    (x55 : PySem.W.findIn K (.ref c5) "__class__" = some (some (.builtin "object.__class__")))
    (x85 : PySem.W.mroIn K c5 (.type "object") = some true)
    (es8 : PySem.W.subIn K (.ref c8) (.ref CS) = some true)
    (s81 : PySem.W.subIn K (.ref c8) (.ref c1) = some false)
    (s82 : PySem.W.subIn K (.ref c8) (.ref c2) = some false)
    (s83 : PySem.W.subIn K (.ref c8) (.ref c3) = some false)
    (s84 : PySem.W.subIn K (.ref c8) (.ref c4) = some false)
    (s85 : PySem.W.subIn K (.ref c8) (.ref c5) = some false)
    (s86 : PySem.W.subIn K (.ref c8) (.ref c6) = some false)
    (s87 : PySem.W.subIn K (.ref c8) (.ref c7) = some false)
    (s88 : PySem.W.subIn K (.ref c8) (.ref c8) = some true)
    (sv8 : PySem.W.subIn K (.ref c8) (.type "ValueError") = some true)
    (kc8 : PySem.W.keepIn K (.ref c8) = true)
    (xb8 : PySem.W.subIn K (.ref c8) (.type "BaseException") = some true)
    (x18 : PySem.W.findIn K (.ref c8) "__getattribute__" = some (some (.builtin "BaseException.__getattribute__")))
    (x28 : PySem.W.findIn K (.ref c8) "__getattr__" = some none)
    (x48 : PySem.W.hasDictIn K c8 = true)
    (x58 : PySem.W.findIn K (.ref c8) "__class__" = some (some (.builtin "object.__class__")))
    (x88 : PySem.W.mroIn K c8 (.type "object") = some true)
    (x6 : PySem.W.specialIn K (.builtin "object.__class__") "__get__" = some (some (.builtin "getset_descriptor.__get__")))
    (x7 : PySem.W.takesIn K (.builtin "object.__class__") = some true)
    (q4 : PySem.W.excIn K c4 mB "ValueError.__new__" = true)
    (q5 : PySem.W.excIn K c5 mB "ValueError.__new__" = true)
    (mL : K.lookup c8 = some (excClassObj nm q c8 N bs bm true sn sub ab col dd m0 m1 m2 m3 m5 "ValueError.__new__"))
    (mB1 : PySem.HandSPX.refsVE bm = true)
    (mSa : PySem.W.findIn K (.ref c8) "__setattr__" = some (some (.builtin "object.__setattr__")))
    (mIni : PySem.W.excInitIn K c8 mB "ValueError.__new__" = true)
    (mF : PySem.W.findIn K (.ref c8) "__init__" = some (some (.ref fI)))
    (mT : PySem.W.typeIn K (.ref fI) = some (.type "function"))
    (mLk : K.lookup fI = some ⟨ocI, odI, .func (PySem.W.ksFn "__init__" "TooMany.__init__" mArgs mBody mScope .none kVI dcI pmI anI (.ref cda) ctI cc), slI⟩)
    (mC : PySem.W.codeIn K (.ref cda) "TooMany.__init__" = true)
    (mD : K.lookup cda = some ⟨ccl, cdd, .fields vM, ccs⟩)
    (mV : vM[2]? = some (.str file tf))
    (mFile : ((l.prog.main.file : Str) == file) = true)
    (mCell : K.lookup cc = some ⟨ccl2, cld, .cell (some (.ref c8)), csl⟩)
    (mCls : PySem.W.clsIn K c8 = some cdM)
    (mOwn : PySem.W.mroIn K c8 (.ref c8) = some true)
    (mSt : PySem.W.nsIn K cStatics "thirdparty.any" = some none)
    (mSup : PySem.W.ks_superIn K c8 c8 "__init__" = some (some (.builtin "ValueError.__init__")))
    (mLim : PySem.W.findIn K (.ref c8) "limit" = some none)
    (mTop : (l.prog.main.scope.names.lookup ("super" : Str)).isSome = false) :
    LawAtS l w K CX0 9 63 "_law_script" mg fa h := by
  have e := hfa.symm.trans (PySem.W.mg_of X G a_law)
  cases e
  have F_is_whole := fun_mk (st := s_is_whole) l_is_whole c_is_whole k_is_whole
  have G_is_whole := PySem.W.mg_of X G a_is_whole
  have F_power_of := fun_mk (st := s_power_of) l_power_of c_power_of k_power_of
  have G_power_of := PySem.W.mg_of X G a_power_of
  have F_spanned := fun_mk (st := s_spanned) l_spanned c_spanned k_spanned
  have G_spanned := PySem.W.mg_of X G a_spanned
  have F_middle_by := fun_mk (st := s_middle_by) l_middle_by c_middle_by k_middle_by
  have G_middle_by := PySem.W.mg_of X G a_middle_by
  have F__law_middle := fun_mk (st := s__law_middle) l__law_middle c__law_middle k__law_middle
  have G__law_middle := PySem.W.mg_of X G a__law_middle
  have F__law_power := fun_mk (st := s__law_power) l__law_power c__law_power k__law_power
  have G__law_power := PySem.W.mg_of X G a__law_power
  have F_lines_of := fun_mk (st := s_lines_of) l_lines_of c_lines_of k_lines_of
  have G_lines_of := PySem.W.mg_of X G a_lines_of
  have F__law_lines := fun_mk (st := s__law_lines) l__law_lines c__law_lines k__law_lines
  have G__law_lines := PySem.W.mg_of X G a__law_lines
  have F_fields_on := fun_mk (st := s_fields_on) l_fields_on c_fields_on k_fields_on
  have G_fields_on := PySem.W.mg_of X G a_fields_on
  have F__law_rising := fun_mk (st := s__law_rising) l__law_rising c__law_rising k__law_rising
  have G__law_rising := PySem.W.mg_of X G a__law_rising
  have F__law_within := fun_mk (st := s__law_within) l__law_within c__law_within k__law_within
  have G__law_within := PySem.W.mg_of X G a__law_within
  have F__law_outer := fun_mk (st := s__law_outer) l__law_outer c__law_outer k__law_outer
  have G__law_outer := PySem.W.mg_of X G a__law_outer
  have F__law_every := fun_mk (st := s__law_every) l__law_every c__law_every k__law_every
  have G__law_every := PySem.W.mg_of X G a__law_every
  have F_fits_order := fun_mk (st := s_fits_order) l_fits_order c_fits_order k_fits_order
  have G_fits_order := PySem.W.mg_of X G a_fits_order
  have F_fits_arc := fun_mk (st := s_fits_arc) l_fits_arc c_fits_arc k_fits_arc
  have G_fits_arc := PySem.W.mg_of X G a_fits_arc
  have F_fits_field := fun_mk (st := s_fits_field) l_fits_field c_fits_field k_fits_field
  have G_fits_field := PySem.W.mg_of X G a_fits_field
  have F_need_field := fun_mk (st := s_need_field) l_need_field c_need_field k_need_field
  have G_need_field := PySem.W.mg_of X G a_need_field
  have F_is_closed_field := fun_mk (st := s_is_closed_field) l_is_closed_field c_is_closed_field k_is_closed_field
  have G_is_closed_field := PySem.W.mg_of X G a_is_closed_field
  have F__law_off := fun_mk (st := s__law_off) l__law_off c__law_off k__law_off
  have G__law_off := PySem.W.mg_of X G a__law_off
  have F_need_cars := fun_mk (st := s_need_cars) l_need_cars c_need_cars k_need_cars
  have G_need_cars := PySem.W.mg_of X G a_need_cars
  have F_need_few := fun_mk (st := s_need_few) l_need_few c_need_few k_need_few
  have G_need_few := PySem.W.mg_of X G a_need_few
  have F_middle_field := fun_mk (st := s_middle_field) l_middle_field c_middle_field k_middle_field
  have G_middle_field := PySem.W.mg_of X G a_middle_field
  have F_count_fields := fun_mk (st := s_count_fields) l_count_fields c_count_fields k_count_fields
  have G_count_fields := PySem.W.mg_of X G a_count_fields
  have F_count_closed_fields := fun_mk (st := s_count_closed_fields) l_count_closed_fields c_count_closed_fields k_count_closed_fields
  have G_count_closed_fields := PySem.W.mg_of X G a_count_closed_fields
  have F_all_fields := fun_mk (st := s_all_fields) l_all_fields c_all_fields k_all_fields
  have G_all_fields := PySem.W.mg_of X G a_all_fields
  have F_count_off_planes := fun_mk (st := s_count_off_planes) l_count_off_planes c_count_off_planes k_count_off_planes
  have G_count_off_planes := PySem.W.mg_of X G a_count_off_planes
  have F__law_names := fun_mk (st := s__law_names) l__law_names c__law_names k__law_names
  have G__law_names := PySem.W.mg_of X G a__law_names
  have F__law_error := fun_mk (st := s__law_error) l__law_error c__law_error k__law_error
  have G__law_error := PySem.W.mg_of X G a__law_error
  have F__law_jar := fun_mk (st := s__law_jar) l__law_jar c__law_jar k__law_jar
  have G__law_jar := PySem.W.mg_of X G a__law_jar
  have F__law_dip := fun_mk (st := s__law_dip) l__law_dip c__law_dip k__law_dip
  have G__law_dip := PySem.W.mg_of X G a__law_dip
  have F__law_refused := fun_mk (st := s__law_refused) l__law_refused c__law_refused k__law_refused
  have G__law_refused := PySem.W.mg_of X G a__law_refused
  have F_law := fun_mk (st := s_law) l_law c_law k_law
  have G_law := PySem.W.mg_of X G a_law
  have T : Bl mg := ⟨PySem.W.mg_none_of X G z_len, PySem.W.mg_none_of X G z_all, PySem.W.mg_none_of X G z_any, PySem.W.mg_none_of X G z_sorted, PySem.W.mg_none_of X G z_tuple, PySem.W.mg_none_of X G z_range, PySem.W.mg_none_of X G z_isinstance, PySem.W.mg_none_of X G z_int, PySem.W.mg_none_of X G z_bool, PySem.W.mg_none_of X G z_set, PySem.W.mg_none_of X G z_zip, PySem.W.mg_none_of X G z_list, PySem.W.mg_none_of X G z_abs, ⟨_, PySem.W.mg_of X G g_CARS, _, rfl⟩, ⟨_, PySem.W.mg_of X G g_DRAWN, _, rfl⟩, ⟨_, PySem.W.mg_of X G g_TOLD, _, rfl⟩⟩
  have T2 : Bl2 mg := ⟨PySem.W.mg_none_of X G z_super⟩
  have X4 : ExC K mg "InvalidCars" c4 := ⟨q4, PySem.W.mg_of X G ac4, kc4, xb4, tc4⟩
  have X5 : ExC K mg "InvalidNumber" c5 := ⟨q5, PySem.W.mg_of X G ac5, kc5, xb5, tc5⟩
  have CC : Cls9 mg c1 c2 c3 c4 c5 c6 c7 c8 := ⟨PySem.W.mg_of X G ac1, PySem.W.mg_of X G ac2, PySem.W.mg_of X G ac3, PySem.W.mg_of X G ac4, PySem.W.mg_of X G ac5, PySem.W.mg_of X G ac6, PySem.W.mg_of X G ac7, PySem.W.mg_of X G ac8, PySem.W.mg_none_of X G z_ValueError⟩
  have E4 : ExcC K c4 := ⟨x14, x24, xb4, x44, x54, x6, x7, x84⟩
  have L4 : Lab9 K c4 c1 c2 c3 c4 c5 c6 c7 c8 false false false true false false false false true := ⟨kit_ref ic1 tc1 s41 s44, kit_ref ic2 tc2 s42 s44, kit_ref ic3 tc3 s43 s44, kit_ref ic4 tc4 s44 s44, kit_ref ic5 tc5 s45 s44, kit_ref ic6 tc6 s46 s44, kit_ref ic7 tc7 s47 s44, kit_ref ic8 tc8 s48 s44, kit_ty (by decide +kernel) sv4⟩
  have kn4 : Known K CS c1 c2 c3 c4 c5 c6 c7 c8 c4 "things value" := ⟨E4, exm_of eS iS tS es4, false, false, false, true, false, false, false, false, true, L4, by decide +kernel⟩
  have E5 : ExcC K c5 := ⟨x15, x25, xb5, x45, x55, x6, x7, x85⟩
  have L5 : Lab9 K c5 c1 c2 c3 c4 c5 c6 c7 c8 false false false false true false false false true := ⟨kit_ref ic1 tc1 s51 s55, kit_ref ic2 tc2 s52 s55, kit_ref ic3 tc3 s53 s55, kit_ref ic4 tc4 s54 s55, kit_ref ic5 tc5 s55 s55, kit_ref ic6 tc6 s56 s55, kit_ref ic7 tc7 s57 s55, kit_ref ic8 tc8 s58 s55, kit_ty (by decide +kernel) sv5⟩
  have kn5 : Known K CS c1 c2 c3 c4 c5 c6 c7 c8 c5 "number value" := ⟨E5, exm_of eS iS tS es5, false, false, false, false, true, false, false, false, true, L5, by decide +kernel⟩
  have E8 : ExcC K c8 := ⟨x18, x28, xb8, x48, x58, x6, x7, x88⟩
  have L8 : Lab9 K c8 c1 c2 c3 c4 c5 c6 c7 c8 false false false false false false false true true := ⟨kit_ref ic1 tc1 s81 s88, kit_ref ic2 tc2 s82 s88, kit_ref ic3 tc3 s83 s88, kit_ref ic4 tc4 s84 s88, kit_ref ic5 tc5 s85 s88, kit_ref ic6 tc6 s86 s88, kit_ref ic7 tc7 s87 s88, kit_ref ic8 tc8 s88 s88, kit_ty (by decide +kernel) sv8⟩
  have kn8 : Known K CS c1 c2 c3 c4 c5 c6 c7 c8 c8 "many value" := ⟨E8, exm_of eS iS tS es8, false, false, false, false, false, false, false, true, true, L8, by decide +kernel⟩
  have EK : ErrK K mg CS c1 c2 c3 c4 c5 c6 c7 c8 := ⟨T, CC, PySem.W.mg_of X G aS, ⟨_, _, F__law_names, G__law_names⟩, ⟨_, _, F__law_error, G__law_error⟩⟩
  have M : ManyK l.prog K c8 := ⟨⟨⟨_, _, _, _, _, _, _, _, _, _, _, _, _, _, _, mL, mB1⟩, mSa, xb8, tc8, kc8⟩, mIni, ⟨fI, cc, cda, _, _, _, _, _, _, _, _, _, _, _, _, _, _, _, file, tf, _, mF, mT, mLk, mC, mD, mV, mFile, mCell, mCls⟩, mOwn, sv8, mSt, mSup, mLim, mTop⟩
  have tb : PySem.W.tabIn K "_law_refused" = some (cR, PT) := by
    unfold PySem.W.tabIn
    rw [a__law_refused]
    dsimp only
    rw [l__law_refused]
    dsimp only [PySem.W.fnOf]
    rw [lR]
    dsimp only
    rw [vR11]
  obtain ⟨t1, t2⟩ := tabs _ _ tb
  have hcR : CodeAt K f__law_refused cR := ⟨_, _, l__law_refused, rfl, rfl⟩
  have nR' : K.lookup PT = none := by
    cases q : K.lookup PT with
    | none => rfl
    | some o => rw [q] at nR; cases nR
  refine ⟨PySem.W.fnOf "law" "law" (defArgs s_law) (defBody s_law) (defScope s_law) .none kV_law dc_law pm_law an_law cd_law ct_law, [(cR, PT)], spW K 1 (rel_law PT), fun p hp => ?_, fun p hp => ?_, fun p hp => ?_, fun s u => .of_eq rfl, law_start, fun base kb nb TBs => ?_⟩
  · rw [List.mem_singleton.mp hp]; exact t2
  · rw [List.mem_singleton.mp hp]; exact nR'
  · rw [List.mem_singleton.mp hp]; exact t1
  have TB : TabB base mg cR PT := TBs (cR, PT) (List.mem_singleton.mpr rfl)
  have D_is_whole := df_is_whole (P := l.prog) (w := w) (base := base) (k := 0) (F := F_is_whole) (g := G_is_whole) (T := T)
  have D_power_of := df_power_of (P := l.prog) (w := w) (base := base) (k := 0) (F := F_power_of) (g := G_power_of) (T := T)
  have D_spanned := df_spanned (P := l.prog) (w := w) (base := base) (k := 0) (F := F_spanned) (g := G_spanned) (T := T)
  have D_middle_by := df_middle_by (P := l.prog) (w := w) (base := base) (k := 0) (F := F_middle_by) (g := G_middle_by) (T := T)
  have D__law_middle := df__law_middle (P := l.prog) (w := w) (base := base) (k := 0) (F := F__law_middle) (g := G__law_middle) (T := T)
  have D__law_power := df__law_power (P := l.prog) (w := w) (base := base) (k := 0) (F := F__law_power) (g := G__law_power) (T := T)
  have D_lines_of := df_lines_of (P := l.prog) (w := w) (base := base) (k := 0) (F := F_lines_of) (g := G_lines_of) (T := T)
  have D__law_lines := df__law_lines (P := l.prog) (w := w) (base := base) (k := 0) (F := F__law_lines) (g := G__law_lines) (T := T)
  have D_fields_on := df_fields_on (P := l.prog) (w := w) (base := base) (k := 0) (F := F_fields_on) (g := G_fields_on) (T := T)
  have D__law_rising := df__law_rising (P := l.prog) (w := w) (base := base) (k := 0) (F := F__law_rising) (g := G__law_rising) (T := T)
  have D__law_within := df__law_within (P := l.prog) (w := w) (base := base) (k := 0) (F := F__law_within) (g := G__law_within) (T := T)
  have D__law_off := df__law_off (P := l.prog) (w := w) (base := base) (k := 0) (F := F__law_off) (g := G__law_off) (T := T)
  have D__law_jar := df__law_jar (P := l.prog) (w := w) (base := base) (k := 0) (F := F__law_jar) (g := G__law_jar) (T := T)
  have D__law_dip := df__law_dip (P := l.prog) (w := w) (base := base) (k := 0) (F := F__law_dip) (g := G__law_dip) (T := T)
  have D_fits_order := df_fits_order (P := l.prog) (w := w) (base := base) (k := 1) (F := F_fits_order) (g := G_fits_order) (T := T) (D_is_whole := D_is_whole)
  have D_fits_arc := df_fits_arc (P := l.prog) (w := w) (base := base) (k := 1) (F := F_fits_arc) (g := G_fits_arc) (T := T) (D_is_whole := D_is_whole)
  have D_fits_field := df_fits_field (P := l.prog) (w := w) (base := base) (k := 2) (F := F_fits_field) (g := G_fits_field) (T := T) (D_fits_arc := D_fits_arc) (D_fits_order := D_fits_order)
  have D_need_field := df_need_field (P := l.prog) (w := w) (base := base) (k := 3) (F := F_need_field) (g := G_need_field) (T := T) (D_fits_field := D_fits_field)
  have D_is_closed_field := df_is_closed_field (P := l.prog) (w := w) (base := base) (k := 4) (F := F_is_closed_field) (g := G_is_closed_field) (T := T) (D_need_field := D_need_field) (D_spanned := D_spanned.mono (by decide))
  have D_need_cars := df_need_cars (P := l.prog) (w := w) (base := base) (k := 1) (F := F_need_cars) (g := G_need_cars) (T := T) (C1 := c4) (C2 := c8) (C3 := c5) (D_is_whole := D_is_whole) (X_InvalidCars := X4)
  have D_need_few := df_need_few (P := l.prog) (w := w) (base := base) (k := 3) (F := F_need_few) (g := G_need_few) (T := T) (C1 := c4) (C2 := c8) (C3 := c5) (MK := M) (gM := CC.g8) (T2 := T2) (h3 := by decide)
  have D_middle_field := df_middle_field (P := l.prog) (w := w) (base := base) (k := 2) (F := F_middle_field) (g := G_middle_field) (T := T) (C1 := c4) (C2 := c8) (C3 := c5) (D_middle_by := D_middle_by.mono (by decide)) (D_need_cars := D_need_cars)
  have D_count_fields := df_count_fields (P := l.prog) (w := w) (base := base) (k := 2) (F := F_count_fields) (g := G_count_fields) (T := T) (C1 := c4) (C2 := c8) (C3 := c5) (D_need_cars := D_need_cars) (D_power_of := D_power_of.mono (by decide))
  have D_count_closed_fields := df_count_closed_fields (P := l.prog) (w := w) (base := base) (k := 2) (F := F_count_closed_fields) (g := G_count_closed_fields) (T := T) (C1 := c4) (C2 := c8) (C3 := c5) (D_need_cars := D_need_cars) (D_power_of := D_power_of.mono (by decide))
  have D_count_off_planes := df_count_off_planes (P := l.prog) (w := w) (base := base) (k := 2) (F := F_count_off_planes) (g := G_count_off_planes) (T := T) (C1 := c4) (C2 := c8) (C3 := c5) (D_is_whole := D_is_whole.mono (by decide)) (D_need_cars := D_need_cars) (D_power_of := D_power_of.mono (by decide)) (X_InvalidNumber := X5)
  have D_all_fields := df_all_fields (P := l.prog) (w := w) (base := base) (k := 4) (F := F_all_fields) (g := G_all_fields) (T := T) (C1 := c4) (C2 := c8) (C3 := c5) (D_fields_on := D_fields_on.mono (by decide)) (D_lines_of := D_lines_of.mono (by decide)) (D_need_cars := D_need_cars.mono (by decide)) (D_need_few := D_need_few)
  have D__law_outer := df__law_outer (P := l.prog) (w := w) (base := base) (k := 1) (F := F__law_outer) (g := G__law_outer) (T := T) (D__law_within := D__law_within)
  have D__law_every := df__law_every (P := l.prog) (w := w) (base := base) (k := 2) (F := F__law_every) (g := G__law_every) (T := T) (D__law_lines := D__law_lines.mono (by decide)) (D__law_outer := D__law_outer) (D__law_rising := D__law_rising.mono (by decide))
  have D__law_refused := df__law_refused (P := l.prog) (w := w) (base := base) (k := 5) (F := F__law_refused) (g := G__law_refused) (T := T) (C1 := c4) (C2 := c8) (C3 := c5) (hc := hcR) (TB := TB) (EK := EK) (kn1 := kn4) (kn3 := kn5) (kn2 := kn8) (D__law_dip := D__law_dip.mono (by decide)) (D_all_fields := D_all_fields) (D_count_closed_fields := D_count_closed_fields.mono (by decide)) (D_count_fields := D_count_fields.mono (by decide)) (D_count_off_planes := D_count_off_planes.mono (by decide)) (D_middle_field := D_middle_field.mono (by decide))
  exact df_law (P := l.prog) (w := w) (base := base) (k := 8) (F := F_law) (g := G_law) (T := T) (C1 := c4) (C2 := c8) (C3 := c5) (D__law_dip := D__law_dip.mono (by decide)) (D__law_every := D__law_every.mono (by decide)) (D__law_jar := D__law_jar.mono (by decide)) (D__law_middle := D__law_middle.mono (by decide)) (D__law_off := D__law_off.mono (by decide)) (D__law_power := D__law_power.mono (by decide)) (D__law_refused := D__law_refused) (D_all_fields := D_all_fields.mono (by decide)) (D_count_closed_fields := D_count_closed_fields.mono (by decide)) (D_count_fields := D_count_fields.mono (by decide)) (D_count_off_planes := D_count_off_planes.mono (by decide)) (D_is_closed_field := D_is_closed_field.mono (by decide)) (D_middle_field := D_middle_field.mono (by decide))

end DL

open PySem PySem.W PyProof.Rows
set_option maxRecDepth 100000 in
set_option maxHeartbeats 0 in
theorem PySem.Challenge.cw_parkedrows_k25_whole_lists_and_counts_of_holds : PySem.Challenge.rw_parkedrows_k25_whole_lists_and_counts_of.Holds := by
  w_on; o_law; k_head; (case hw => w_witness2)
  k_fill
  refine DL.walk_tab (l := PySem.Challenge.rw_parkedrows_k25_whole_lists_and_counts_of) (n := 63) (k := 9) (x := "_law_script") (CX := fun _ => L2.CX0) (y := "_law_refused") rfl (by decide) rfl ⟨rfl, by decide, by decide⟩ (by decide +kernel) (fun w h Y => PySem.W.km_in_of Y) ?F (fun _ _ _ _ _ z => z)
  case F =>
    intro w mg fa h Y KX G hmg tabs
    refine' DL.all_mk KX G hmg tabs ?a_is_whole ?l_is_whole ?c_is_whole ?k_is_whole ?a_power_of ?l_power_of ?c_power_of ?k_power_of ?a_spanned ?l_spanned ?c_spanned ?k_spanned ?a_middle_by ?l_middle_by ?c_middle_by ?k_middle_by ?a__law_middle ?l__law_middle ?c__law_middle ?k__law_middle ?a__law_power ?l__law_power ?c__law_power ?k__law_power ?a_lines_of ?l_lines_of ?c_lines_of ?k_lines_of ?a__law_lines ?l__law_lines ?c__law_lines ?k__law_lines ?a_fields_on ?l_fields_on ?c_fields_on ?k_fields_on ?a__law_rising ?l__law_rising ?c__law_rising ?k__law_rising ?a__law_within ?l__law_within ?c__law_within ?k__law_within ?a__law_outer ?l__law_outer ?c__law_outer ?k__law_outer ?a__law_every ?l__law_every ?c__law_every ?k__law_every ?a_fits_order ?l_fits_order ?c_fits_order ?k_fits_order ?a_fits_arc ?l_fits_arc ?c_fits_arc ?k_fits_arc ?a_fits_field ?l_fits_field ?c_fits_field ?k_fits_field ?a_need_field ?l_need_field ?c_need_field ?k_need_field ?a_is_closed_field ?l_is_closed_field ?c_is_closed_field ?k_is_closed_field ?a__law_off ?l__law_off ?c__law_off ?k__law_off ?a_need_cars ?l_need_cars ?c_need_cars ?k_need_cars ?a_need_few ?l_need_few ?c_need_few ?k_need_few ?a_middle_field ?l_middle_field ?c_middle_field ?k_middle_field ?a_count_fields ?l_count_fields ?c_count_fields ?k_count_fields ?a_count_closed_fields ?l_count_closed_fields ?c_count_closed_fields ?k_count_closed_fields ?a_all_fields ?l_all_fields ?c_all_fields ?k_all_fields ?a_count_off_planes ?l_count_off_planes ?c_count_off_planes ?k_count_off_planes ?a__law_names ?l__law_names ?c__law_names ?k__law_names ?a__law_error ?l__law_error ?c__law_error ?k__law_error ?a__law_jar ?l__law_jar ?c__law_jar ?k__law_jar ?a__law_dip ?l__law_dip ?c__law_dip ?k__law_dip ?a__law_refused ?l__law_refused ?c__law_refused ?k__law_refused ?a_law ?l_law ?c_law ?k_law ?lR ?vR11 ?nR ?z_len ?z_all ?z_any ?z_sorted ?z_tuple ?z_range ?z_isinstance ?z_int ?z_bool ?z_set ?z_zip ?z_list ?z_abs ?z_super ?z_ValueError ?g_CARS ?g_DRAWN ?g_TOLD ?aS ?iS ?tS ?eS ?ac1 ?ic1 ?tc1 ?ac2 ?ic2 ?tc2 ?ac3 ?ic3 ?tc3 ?ac4 ?ic4 ?tc4 ?ac5 ?ic5 ?tc5 ?ac6 ?ic6 ?tc6 ?ac7 ?ic7 ?tc7 ?ac8 ?ic8 ?tc8 ?es4 ?s41 ?s42 ?s43 ?s44 ?s45 ?s46 ?s47 ?s48 ?sv4 ?kc4 ?xb4 ?x14 ?x24 ?x44 ?x54 ?x84 ?es5 ?s51 ?s52 ?s53 ?s54 ?s55 ?s56 ?s57 ?s58 ?sv5 ?kc5 ?xb5 ?x15 ?x25 ?x45 ?x55 ?x85 ?es8 ?s81 ?s82 ?s83 ?s84 ?s85 ?s86 ?s87 ?s88 ?sv8 ?kc8 ?xb8 ?x18 ?x28 ?x48 ?x58 ?x88 ?x6 ?x7 ?q4 ?q5 ?mL ?mB1 ?mSa ?mIni ?mF ?mT ?mLk ?mC ?mD ?mV ?mFile ?mCell ?mCls ?mOwn ?mSt ?mSup ?mLim ?mTop
    (case a_is_whole => k_is); (case l_is_whole => k_is); (case c_is_whole => k_is); (case k_is_whole => k_is); (case a_power_of => k_is); (case l_power_of => k_is)
    (case c_power_of => k_is); (case k_power_of => k_is); (case a_spanned => k_is); (case l_spanned => k_is); (case c_spanned => k_is); (case k_spanned => k_is)
    (case a_middle_by => k_is); (case l_middle_by => k_is); (case c_middle_by => k_is); (case k_middle_by => k_is); (case a__law_middle => k_is); (case l__law_middle => k_is)
    (case c__law_middle => k_is); (case k__law_middle => k_is); (case a__law_power => k_is); (case l__law_power => k_is); (case c__law_power => k_is); (case k__law_power => k_is)
    (case a_lines_of => k_is); (case l_lines_of => k_is); (case c_lines_of => k_is); (case k_lines_of => k_is); (case a__law_lines => k_is); (case l__law_lines => k_is)
    (case c__law_lines => k_is); (case k__law_lines => k_is); (case a_fields_on => k_is); (case l_fields_on => k_is); (case c_fields_on => k_is); (case k_fields_on => k_is)
    (case a__law_rising => k_is); (case l__law_rising => k_is); (case c__law_rising => k_is); (case k__law_rising => k_is); (case a__law_within => k_is); (case l__law_within => k_is)
    (case c__law_within => k_is); (case k__law_within => k_is); (case a__law_outer => k_is); (case l__law_outer => k_is); (case c__law_outer => k_is); (case k__law_outer => k_is)
    (case a__law_every => k_is); (case l__law_every => k_is); (case c__law_every => k_is); (case k__law_every => k_is); (case a_fits_order => k_is); (case l_fits_order => k_is)
    (case c_fits_order => k_is); (case k_fits_order => k_is); (case a_fits_arc => k_is); (case l_fits_arc => k_is); (case c_fits_arc => k_is); (case k_fits_arc => k_is)
    (case a_fits_field => k_is); (case l_fits_field => k_is); (case c_fits_field => k_is); (case k_fits_field => k_is); (case a_need_field => k_is); (case l_need_field => k_is)
    (case c_need_field => k_is); (case k_need_field => k_is); (case a_is_closed_field => k_is); (case l_is_closed_field => k_is); (case c_is_closed_field => k_is); (case k_is_closed_field => k_is)
    (case a__law_off => k_is); (case l__law_off => k_is); (case c__law_off => k_is); (case k__law_off => k_is); (case a_need_cars => k_is); (case l_need_cars => k_is)
    (case c_need_cars => k_is); (case k_need_cars => k_is); (case a_need_few => k_is); (case l_need_few => k_is); (case c_need_few => k_is); (case k_need_few => k_is)
    (case a_middle_field => k_is); (case l_middle_field => k_is); (case c_middle_field => k_is); (case k_middle_field => k_is); (case a_count_fields => k_is); (case l_count_fields => k_is)
    (case c_count_fields => k_is); (case k_count_fields => k_is); (case a_count_closed_fields => k_is); (case l_count_closed_fields => k_is); (case c_count_closed_fields => k_is); (case k_count_closed_fields => k_is)
    (case a_all_fields => k_is); (case l_all_fields => k_is); (case c_all_fields => k_is); (case k_all_fields => k_is); (case a_count_off_planes => k_is); (case l_count_off_planes => k_is)
    (case c_count_off_planes => k_is); (case k_count_off_planes => k_is); (case a__law_names => k_is); (case l__law_names => k_is); (case c__law_names => k_is); (case k__law_names => k_is)
    (case a__law_error => k_is); (case l__law_error => k_is); (case c__law_error => k_is); (case k__law_error => k_is); (case a__law_jar => k_is); (case l__law_jar => k_is)
    (case c__law_jar => k_is); (case k__law_jar => k_is); (case a__law_dip => k_is); (case l__law_dip => k_is); (case c__law_dip => k_is); (case k__law_dip => k_is)
    (case a__law_refused => k_is); (case l__law_refused => k_is); (case c__law_refused => k_is); (case k__law_refused => k_is); (case a_law => k_is); (case l_law => k_is)
    (case c_law => k_is); (case k_law => k_is); (case lR => k_is); (case vR11 => exact rfl); (case nR => kernel_rfl); (case z_len => k_is)
    (case z_all => k_is); (case z_any => k_is); (case z_sorted => k_is); (case z_tuple => k_is); (case z_range => k_is); (case z_isinstance => k_is)
    (case z_int => k_is); (case z_bool => k_is); (case z_set => k_is); (case z_zip => k_is); (case z_list => k_is); (case z_abs => k_is)
    (case z_super => k_is); (case z_ValueError => k_is); (case g_CARS => k_is); (case g_DRAWN => k_is); (case g_TOLD => k_is); (case aS => k_is)
    (case iS => k_is); (case tS => k_is); (case eS => k_is); (case ac1 => k_is); (case ic1 => k_is); (case tc1 => k_is)
    (case ac2 => k_is); (case ic2 => k_is); (case tc2 => k_is); (case ac3 => k_is); (case ic3 => k_is); (case tc3 => k_is)
    (case ac4 => k_is); (case ic4 => k_is); (case tc4 => k_is); (case ac5 => k_is); (case ic5 => k_is); (case tc5 => k_is)
    (case ac6 => k_is); (case ic6 => k_is); (case tc6 => k_is); (case ac7 => k_is); (case ic7 => k_is); (case tc7 => k_is)
    (case ac8 => k_is); (case ic8 => k_is); (case tc8 => k_is); (case es4 => k_is); (case s41 => k_is); (case s42 => k_is)
    (case s43 => k_is); (case s44 => k_is); (case s45 => k_is); (case s46 => k_is); (case s47 => k_is); (case s48 => k_is)
    (case sv4 => k_is); (case kc4 => k_is); (case xb4 => k_is); (case x14 => k_is); (case x24 => k_is); (case x44 => k_is)
    (case x54 => k_is); (case x84 => k_is); (case es5 => k_is); (case s51 => k_is); (case s52 => k_is); (case s53 => k_is)
    (case s54 => k_is); (case s55 => k_is); (case s56 => k_is); (case s57 => k_is); (case s58 => k_is); (case sv5 => k_is)
    (case kc5 => k_is); (case xb5 => k_is); (case x15 => k_is); (case x25 => k_is); (case x45 => k_is); (case x55 => k_is)
    (case x85 => k_is); (case es8 => k_is); (case s81 => k_is); (case s82 => k_is); (case s83 => k_is); (case s84 => k_is)
    (case s85 => k_is); (case s86 => k_is); (case s87 => k_is); (case s88 => k_is); (case sv8 => k_is); (case kc8 => k_is)
    (case xb8 => k_is); (case x18 => k_is); (case x28 => k_is); (case x48 => k_is); (case x58 => k_is); (case x88 => k_is)
    (case x6 => k_is); (case x7 => k_is); (case q4 => k_exc); (case q5 => k_exc); (case mL => k_is); (case mB1 => decide +kernel)
    (case mSa => k_is); (case mIni => kx_is); (case mF => k_is); (case mT => k_is); (case mLk => k_is); (case mC => k_is)
    (case mD => k_is); (case mV => exact rfl); (case mFile => decide +kernel); (case mCell => k_is); (case mCls => k_is); (case mOwn => k_is)
    (case mSt => k_is); (case mSup => ks_is); (case mLim => k_is); (case mTop => decide +kernel)
