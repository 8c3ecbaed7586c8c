import PyProof.Rows.All
import Wide.All
import OpenK.AllK
import Wide.FinOn
import HandS.ForMost
import HandS.Walk
import HandS.Zip
import HandS.TupAny
import HandS.IsInst
import HandS.Star
import HandS.Deep
import HandS.DictComp
import HandS.Defaults
import HandS.Style
import HandS.Exc
import HandS.ExcInit
import HandS.ExcOwn
import HandS.ExcField
import HandS.ExcIs
import HandS.TryOnly
import HandS.CallSlots
import KE.KExcSuper
import KE.GoesEnum
import HandS.Iter
import HandS.WordsExc
import HandS.Dict
import KE.KDictPairs
import HandS.Text
import HandS.SetFor
import HandS.Strs
import HandS.Lambda
import HandS.RaiseMore
import PyProof.ReprRoads
import PyProof.ReprLen
import PyProof.CallFns
import KE.KExcIs
import HandS.Conv
import HandS.EndTab
import HandS.EndOwn
import HandS.HeadHook2
import PySem.Challenge.RW_surelywrong_k25_whole_grown_texts
set_option Elab.async false
set_option linter.all false
section
set_option maxRecDepth 100000
set_option maxHeartbeats 1000000
namespace K25
open PySem L2

/-! ### heaps that grow -/
/-- what no call of ours changes: all but dicts -/
def Stay : HO → Prop
  | .dK _ => False
  | .tbl _ => False
  | _ => True
class Rl (R : Hp → Hp → Prop) : Prop where
  refl : ∀ H, R H H
  trans : ∀ {a b c}, R a b → R b c → R a c
  new : ∀ {H H' p o}, R H H' → H p = none → R H (upd H' p o)
  stay : ∀ {H H' a o}, R H H' → Stay o → H a = some o → H' a = some o
  dom : ∀ {H H' a}, R H H' → H' a = none → H a = none
  ext : ∀ {H H'}, Same H H' → R H H'
  own : ∀ {G A B}, R G A → R A B → R G (fun a => if (G a).isNone && (A a).isSome then none else B a)
/-- what of B stood in G, or came behind A -/
def own (G A B : Hp) : Hp := fun a => if (G a).isNone && (A a).isSome then none else B a
theorem own_some {G A B : Hp} {a : Addr} {o : HO} (h : own G A B a = some o) : B a = some o ∧ (G a = none → A a = none) := by
  unfold own at h
  cases g : G a with
  | some x =>
    rw [g] at h
    exact ⟨h, fun z => by cases z⟩
  | none =>
    cases q : A a with
    | some y =>
      rw [g, q] at h
      simp at h
    | none =>
      rw [g, q] at h
      exact ⟨h, fun _ => rfl⟩
theorem own_mk {G A B : Hp} {a : Addr} {o : HO} (h : B a = some o) (k : G a = none → A a = none) : own G A B a = some o := by
  unfold own
  cases g : G a with
  | some x => exact h
  | none =>
    rw [k g]
    exact h
theorem own_same {G A B : Hp} : Same (own G A B) B := fun _ _ h => (own_some h).1

instance : Rl Same where
  refl := Same.refl
  trans := Same.trans
  new := fun {H H' p o} r h b u e => by
    rw [upd_ne (ne_of_none e h)]
    exact r b u e
  stay := fun r _ e => r _ _ e
  dom := fun {H H' a} r h => r.free h
  ext := id
  own := fun {G A B} r s a o e => by
    show own G A B a = some o
    exact own_mk (s _ _ (r _ _ e)) fun z => by
      rw [e] at z
      cases z

/-! ### data on a heap -/
section
variable {K : PySem.W.Frag} {X Y : Hp}
theorem rd_up (h : ∀ a o, Stay o → X a = some o → Y a = some o) {a : Addr} {u : HO} (s : Stay u) (r : Rd X a u) : Rd Y a u := by
  rcases r with r | ⟨o, r⟩
  · exact .inl (h _ _ s r)
  · exact .inr ⟨o, h _ _ trivial r⟩
theorem sql_up (h : ∀ a o, Stay o → X a = some o → Y a = some o) {a : Addr} {xs : List V} (r : SqL K X a xs) : SqL K Y a xs := by
  rcases r with r | r
  · exact .inl (rd_up h trivial r)
  · exact .inr r
theorem sqt_up (h : ∀ a o, Stay o → X a = some o → Y a = some o) {a : Addr} {xs : List V} (r : SqT K X a xs) : SqT K Y a xs := by
  rcases r with r | r
  · exact .inl (rd_up h trivial r)
  · exact .inr r
mutual
theorem dp_up (h : ∀ a o, Stay o → X a = some o → Y a = some o) : ∀ (d : PyData) (v : V), Dp K X v d → Dp K Y v d
  | .none, _, q => by cases q; exact .non
  | .bool _, _, q => by cases q; exact .bl _
  | .int _, _, q => by cases q; exact .int _
  | .str _, _, q => by cases q; exact .str _
  | .list ds, _, q => by
    cases q with
    | lst hs ha => exact .lst (sql_up h hs) (dpa_up h ds _ ha)
  | .tuple ds, _, q => by
    cases q with
    | tup hs ha => exact .tup (sqt_up h hs) (dpa_up h ds _ ha)
  | .dict _, _, q => by cases q
theorem dpa_up (h : ∀ a o, Stay o → X a = some o → Y a = some o) : ∀ (ds : List PyData) (vs : List V), DpAll K X vs ds → DpAll K Y vs ds
  | [], _, q => by cases q; exact .nil
  | d :: ds, _, q => by
    cases q with
    | cons h1 h2 => exact .cons (dp_up h d _ h1) (dpa_up h ds _ h2)
end
theorem dpa_len : ∀ {vs : List V} {ds : List PyData}, DpAll K X vs ds → vs.length = ds.length
  | _, _, .nil => rfl
  | _, _, .cons _ t => by rw [List.length_cons, List.length_cons, dpa_len t]
theorem dpa_get : ∀ {vs : List V} {ds : List PyData} {i : Nat} {d : PyData}, DpAll K X vs ds → ds[i]? = some d → ∃ v, vs[i]? = some v ∧ Dp K X v d
  | _, _, _, _, .nil, e => by simp at e
  | _, _, 0, _, .cons r _, e => by simp at e; subst e; exact ⟨_, rfl, r⟩
  | _, _, i + 1, _, .cons _ t, e => by
    obtain ⟨v, h1, h2⟩ := dpa_get (i := i) t (by simpa using e)
    exact ⟨v, by simpa using h1, h2⟩
theorem dpa_getV : ∀ {vs : List V} {ds : List PyData} {i : Nat} {v : V}, DpAll K X vs ds → vs[i]? = some v → ∃ d, ds[i]? = some d ∧ Dp K X v d
  | _, _, _, _, .nil, e => by simp at e
  | _, _, 0, _, .cons r _, e => by simp at e; subst e; exact ⟨_, rfl, r⟩
  | _, _, i + 1, _, .cons _ t, e => by
    obtain ⟨v, h1, h2⟩ := dpa_getV (i := i) t (by simpa using e)
    exact ⟨v, by simpa using h1, h2⟩
theorem dpa_app : ∀ {vs ws : List V} {ds es : List PyData}, DpAll K X vs ds → DpAll K X ws es → DpAll K X (vs ++ ws) (ds ++ es)
  | _, _, _, _, .nil, q => q
  | _, _, _, _, .cons r t, q => .cons r (dpa_app t q)
theorem dpa_take : ∀ {vs : List V} {ds : List PyData} (n : Nat), DpAll K X vs ds → DpAll K X (vs.take n) (ds.take n)
  | _, _, 0, _ => .nil
  | _, _, _ + 1, .nil => .nil
  | _, _, n + 1, .cons r t => .cons r (dpa_take n t)
theorem dpa_drop : ∀ {vs : List V} {ds : List PyData} (n : Nat), DpAll K X vs ds → DpAll K X (vs.drop n) (ds.drop n)
  | _, _, 0, q => q
  | _, _, _ + 1, .nil => .nil
  | _, _, n + 1, .cons _ t => dpa_drop n t
theorem dpa_atI {vs : List V} {ds : List PyData} {i : Int} {d : PyData} (h : DpAll K X vs ds) (e : atI ds i = some d) : ∃ v, atI vs i = some v ∧ Dp K X v d := by
  unfold atI at e ⊢
  rw [dpa_len h]
  cases q : ixN ds.length i with
  | none => rw [q] at e; cases e
  | some j =>
    rw [q] at e
    exact dpa_get h e
end
section
variable {R : Hp → Hp → Prop} [Rl R] {K : PySem.W.Frag} {G A B C : Hp} {v : V} {d : PyData} {vs : List V} {ds : List PyData}
theorem up_base (r : R G A) (s : R A B) : ∀ a o, Stay o → G a = some o → own G A B a = some o := fun a o t e =>
  own_mk (Rl.stay s t (Rl.stay r t e)) fun z => by rw [e] at z; cases z
theorem up_next (s : R B C) : ∀ a o, Stay o → own G A B a = some o → own G A C a = some o := fun a o t e =>
  own_mk (Rl.stay s t (own_some e).1) (own_some e).2
theorem up_back (s : R A B) : ∀ a o, Stay o → own G B C a = some o → own G A C a = some o := fun a o _ e =>
  own_mk (own_some e).1 fun z => Rl.dom s ((own_some e).2 z)
theorem up_low (s : R G C) : ∀ a o, Stay o → own G A B a = some o → own C A B a = some o := fun a o _ e =>
  own_mk (own_some e).1 fun z => (own_some e).2 (Rl.dom s z)
/-- a base within: what is of it, or came behind B, is of G or came behind A -/
theorem up_in (s : R A B) : ∀ a o, Stay o → own (own G A B) B C a = some o → own G A C a = some o := fun a o _ e => by
  obtain ⟨e1, e2⟩ := own_some e
  refine own_mk e1 fun z => ?_
  cases q : A a with
  | none => rfl
  | some u =>
    have h : own G A B a = none := by
      unfold own
      rw [z, q]
      rfl
    have h2 := Rl.dom s (e2 h)
    rw [q] at h2
    cases h2
theorem up_sub : ∀ a o, Stay o → own G A B a = some o → B a = some o := fun _ _ _ e => (own_some e).1
theorem up_new {p : Addr} {u : HO} (s : R A B) (h : B p = none) : ∀ a o, Stay o → own G A B a = some o → own G A (upd B p u) a = some o := fun a o _ e =>
  own_mk (by rw [upd_ne (ne_of_none (own_some e).1 h)]; exact (own_some e).1) (own_some e).2
theorem own_at {p : Addr} {u : HO} (s : R A B) (h : B p = none) : own G A (upd B p u) p = some u := own_mk upd_same fun _ => Rl.dom s h
theorem r_own (r : R G A) (s : R A B) : R G (own G A B) := Rl.own r s
theorem own_r : R (own G A B) B := Rl.ext own_same
end

/-! ### what a reading gives -/
section
variable (R : Hp → Hp → Prop) (K : PySem.W.Frag)
def EvS (te : TE) (σ : L2.St) (G : Hp) (S : PyData → Prop) : Prop := ∀ A, R G A → ∀ Q : VK, (∀ v d B, R A B → S d → Dp K (own G A B) v d → Q v B) → te σ A Q
def EvA (ta : TA) (σ : L2.St) (G : Hp) (S : List PyData → Prop) : Prop := ∀ A, R G A → ∀ Q : List V → Hp → Prop, (∀ vs ds B, R A B → S ds → DpAll K (own G A B) vs ds → Q vs B) → ta σ A Q
def EvT (tt : TT) (σ : L2.St) (G : Hp) (S : Bool → Prop) : Prop := ∀ A, R G A → ∀ Q : Bool → Hp → Prop, (∀ b B, R A B → S b → Q b B) → tt σ A Q
def EvO (to : TO) (σ : L2.St) (G : Hp) (S : Option Int → Prop) : Prop := ∀ A, R G A → ∀ Q : Option Int → Hp → Prop, (∀ b B, R A B → S b → Q b B) → to σ A Q
def RS (r : R2) (G : Hp) (dx dy : PyData) (S : PyData → Prop) : Prop :=
  ∀ A, R G A → ∀ B x y, R A B → Dp K (own G A B) x dx → Dp K (own G A B) y dy → ∀ Q : VK, (∀ v d C, R B C → S d → Dp K (own G A C) v d → Q v C) → r x y B Q
/-- a call on values -/
def RC (r : List V → Hp → VK → Prop) (G : Hp) (ds : List PyData) (S : PyData → Prop) : Prop :=
  ∀ A, R G A → ∀ B vs, R A B → DpAll K (own G A B) vs ds → ∀ Q : VK, (∀ v d C, R B C → S d → Dp K (own G A C) v d → Q v C) → r vs B Q
/-- a block that always returns -/
def Rt (ts : TS) (σ : L2.St) (G : Hp) (S : PyData → Prop) : Prop := ∀ A, R G A → ∀ D : Ends, (∀ v d B, R A B → S d → Dp K (own G A B) v d → D.rt v B) → ts D σ A
end
section
variable {R : Hp → Hp → Prop} [Rl R] {K : PySem.W.Frag} {σ : L2.St} {G G' A B C : Hp} {v : V} {d dx dy : PyData} {vs : List V} {ds : List PyData} {S S' Sa Sb : PyData → Prop} {ta tb te tx : TE} {t u : TT} {r : R2}
theorem EvS.imp (h : EvS R K te σ G S) (k : ∀ d, S d → S' d) : EvS R K te σ G S' := fun A hA Q q => h A hA Q fun v d B r s p => q v d B r (k d s) p
theorem EvS.to (h : EvS R K te σ G (· = d)) (e : d = dx) : EvS R K te σ G (· = dx) := e ▸ h
theorem EvS.low (h : EvS R K te σ G S) (g : R G G') : EvS R K te σ G' S := fun A hA Q q => h A (Rl.trans g hA) Q fun v d B r s p => q v d B r s (dp_up (up_low g) d v p)
theorem EvT.low {Sb : Bool → Prop} (h : EvT R t σ G Sb) (g : R G G') : EvT R t σ G' Sb := fun A hA Q q => h A (Rl.trans g hA) Q q
theorem EvT.imp {Sa Sb : Bool → Prop} (h : EvT R t σ G Sa) (k : ∀ b, Sa b → Sb b) : EvT R t σ G Sb := fun A hA Q q => h A hA Q fun b B r s => q b B r (k b s)
theorem e_var {i : Nat} (h : σ[i]? = some (some v)) (p : Dp K G v d) : EvS R K (tVar i) σ G (· = d) := fun A hA Q q => ⟨v, h, q v d A (Rl.refl A) rfl (dp_up (up_base hA (Rl.refl A)) d v p)⟩
theorem e_int {i : Int} : EvS R K (tC (.int i)) σ G (· = .int i) := fun A _ _ q => q _ _ A (Rl.refl A) rfl (.int i)
theorem e_str {i : Str} : EvS R K (tC (.str i)) σ G (· = .str i) := fun A _ _ q => q _ _ A (Rl.refl A) rfl (.str i)
theorem e_bl {i : Bool} : EvS R K (tC (.bl i)) σ G (· = .bool i) := fun A _ _ q => q _ _ A (Rl.refl A) rfl (.bl i)
theorem e_non : EvS R K (tC .non) σ G (· = .none) := fun A _ _ q => q _ _ A (Rl.refl A) rfl .non
theorem a_nil : EvA R K tNil σ G (· = []) := fun A _ _ q => q [] [] A (Rl.refl A) rfl .nil
theorem a_cons {tr : TA} {Sl : List PyData → Prop} (h : EvS R K te σ G S) (k : EvA R K tr σ G Sl) : EvA R K (tCons te tr) σ G (fun ds => ∃ d es, ds = d :: es ∧ S d ∧ Sl es) := fun A hA Q q =>
  h A hA _ fun v d B r s p => k B (Rl.trans hA r) _ fun vs es C r2 s2 p2 => q (v :: vs) (d :: es) C (Rl.trans r r2) ⟨d, es, rfl, s, s2⟩ (.cons (dp_up (up_next r2) d v p) (dpa_up (up_back r) es vs p2))
/-- arguments that are told one by one -/
theorem a_one {tr : TA} {es : List PyData} (h : EvS R K te σ G (· = d)) (k : EvA R K tr σ G (· = es)) : EvA R K (tCons te tr) σ G (· = d :: es) := fun A hA Q q =>
  a_cons h k A hA Q fun vs ds B r s p => q vs ds B r (by obtain ⟨d', es', e, e1, e2⟩ := s; rw [e, e1, e2]) p
theorem EvA.imp {ta : TA} {Sl Sm : List PyData → Prop} (h : EvA R K ta σ G Sl) (k : ∀ ds, Sl ds → Sm ds) : EvA R K ta σ G Sm := fun A hA Q q => h A hA Q fun v d B r s p => q v d B r (k d s) p
theorem e_op (ha : EvS R K ta σ G Sa) (hb : EvS R K tb σ G Sb) (hr : ∀ dx dy, Sa dx → Sb dy → RS R K r G dx dy S) : EvS R K (tOp r ta tb) σ G S := fun A hA Q q =>
  ha A hA _ fun x dx B1 r1 sx px => hb B1 (Rl.trans hA r1) _ fun y dy B2 r2 sy py =>
    hr dx dy sx sy A hA B2 x y (Rl.trans r1 r2) (dp_up (up_next r2) dx x px) (dp_up (up_back r1) dy y py) Q fun v d C r3 sd pd => q v d C (Rl.trans (Rl.trans r1 r2) r3) sd pd
theorem e_op1 (ha : EvS R K ta σ G (· = dx)) (hb : EvS R K tb σ G (· = dy)) (hr : RS R K r G dx dy S) : EvS R K (tOp r ta tb) σ G S := e_op ha hb fun _ _ e1 e2 => by rw [e1, e2]; exact hr
theorem e_tup {ta : TA} {Sl : List PyData → Prop} (h : EvA R K ta σ G Sl) (z : ∀ ds, Sl ds → ds.length ≤ 100000) : EvS R K (tTup ta) σ G (fun d => ∃ ds, d = .tuple ds ∧ Sl ds) := fun A hA Q q =>
  h A hA _ fun vs ds B r s p => ⟨Nat.le_trans (by rw [dpa_len p]; exact z ds s) (by decide), fun a ha =>
    q (.ref a) (.tuple ds) _ (Rl.new r (Rl.dom r ha)) ⟨ds, rfl, s⟩ (.tup (.inl (.inl (own_at r ha))) (dpa_up (up_new r ha) ds vs p))⟩
theorem e_lst {ta : TA} {Sl : List PyData → Prop} (h : EvA R K ta σ G Sl) (z : ∀ ds, Sl ds → ds.length ≤ 100000) : EvS R K (tLst ta) σ G (fun d => ∃ ds, d = .list ds ∧ Sl ds) := fun A hA Q q =>
  h A hA _ fun vs ds B r s p => ⟨Nat.le_trans (by rw [dpa_len p]; exact z ds s) (by decide), fun a ha =>
    q (.ref a) (.list ds) _ (Rl.new r (Rl.dom r ha)) ⟨ds, rfl, s⟩ (.lst (.inl (.inl (own_at r ha))) (dpa_up (up_new r ha) ds vs p))⟩
theorem e_tup1 {ta : TA} (h : EvA R K ta σ G (· = ds)) (z : ds.length ≤ 100000) : EvS R K (tTup ta) σ G (· = .tuple ds) := (e_tup h fun _ e => by rw [e]; exact z).imp fun d ⟨_, e, e2⟩ => by rw [e, e2]
theorem e_lst1 {ta : TA} (h : EvA R K ta σ G (· = ds)) (z : ds.length ≤ 100000) : EvS R K (tLst ta) σ G (· = .list ds) := (e_lst h fun _ e => by rw [e]; exact z).imp fun d ⟨_, e, e2⟩ => by rw [e, e2]

/-! operators -/
theorem rs_I0 {g : Int → Int → V} {i j : Int} {e : PyData} (h : ∀ X : Hp, Dp K X (g i j) e) : RS R K (rI0 g) G (.int i) (.int j) (· = e) := fun A hA B x y r1 px py Q q => by
  cases px
  cases py
  exact ⟨i, j, rfl, rfl, q _ _ B (Rl.refl B) rfl (h _)⟩
theorem rs_I {c : Int → Int → Prop} {g : Int → Int → V} {i j : Int} {e : PyData} (hc : c i j) (h : ∀ X : Hp, Dp K X (g i j) e) : RS R K (rI c g) G (.int i) (.int j) (· = e) := fun A hA B x y r1 px py Q q => by
  cases px
  cases py
  exact ⟨i, j, rfl, rfl, hc, q _ _ B (Rl.refl B) rfl (h _)⟩
theorem rs_ixT {i : Int} {es : List PyData} (h : atI es i = some d) : RS R K (rIxT K) G (.tuple es) (.int i) (· = d) := fun A hA B x y r1 px py Q q => by
  cases py
  cases px with
  | tup hs ha =>
    obtain ⟨v, h1, h2⟩ := dpa_atI ha h
    exact ⟨_, _, i, v, rfl, rfl, sqt_up up_sub hs, h1, q v d B (Rl.refl B) rfl h2⟩
theorem rs_ixL {i : Int} {es : List PyData} (h : atI es i = some d) : RS R K (rIxL K) G (.list es) (.int i) (· = d) := fun A hA B x y r1 px py Q q => by
  cases py
  cases px with
  | lst hs ha =>
    obtain ⟨v, h1, h2⟩ := dpa_atI ha h
    exact ⟨_, _, i, v, rfl, rfl, sql_up up_sub hs, h1, q v d B (Rl.refl B) rfl h2⟩
theorem rs_ixS {i : Int} {z : Str} {c : Nat} (hz : z.length ≤ 100000) (h : atI z.cps.toList i = some c) : RS R K rIxS G (.str z) (.int i) (· = .str ⟨#[c]⟩) := fun A hA B x y r1 px py Q q => by
  cases py
  cases px
  exact ⟨z, i, c, rfl, rfl, Nat.le_trans hz (by decide), h, q _ _ B (Rl.refl B) rfl (.str _)⟩
theorem rs_eq (hx : SeqAt.shaped dx = true) (hy : SeqAt.shaped dy = true) : RS R K (rEqD K) G dx dy (· = .bool (PyData.eqv dx dy)) := fun A hA B x y r1 px py Q q =>
  ⟨dx, dy, dp_up up_sub dx x px, dp_up up_sub dy y py, hx, hy, q _ _ B (Rl.refl B) rfl (.bl _)⟩
theorem rs_ne (hx : SeqAt.shaped dx = true) (hy : SeqAt.shaped dy = true) : RS R K (rNeD K) G dx dy (· = .bool (!PyData.eqv dx dy)) := fun A hA B x y r1 px py Q q =>
  ⟨dx, dy, dp_up up_sub dx x px, dp_up up_sub dy y py, hx, hy, q _ _ B (Rl.refl B) rfl (.bl _)⟩


/-! tests, chains of and, or -/
theorem t_B {b : Bool} (h : EvS R K te σ G (· = .bool b)) : EvT R (tB te) σ G (· = b) := fun A hA Q q => h A hA _ fun v d B r s p => by
  subst s
  cases p
  exact ⟨b, rfl, q b B r rfl⟩
theorem t_test {b : Bool} (h : EvS R K te σ G (· = .bool b)) : EvT R (tTest te) σ G (· = b) := fun A hA Q q => h A hA _ fun v d B r s p => by
  subst s
  cases p
  exact ⟨b, rfl, q b B r rfl⟩
theorem t_BS {Sb : Bool → Prop} (h : EvS R K te σ G (fun d => ∃ b, d = .bool b ∧ Sb b)) : EvT R (tB te) σ G Sb := fun A hA Q q => h A hA _ fun v d B r s p => by
  obtain ⟨b, e, sb⟩ := s
  subst e
  cases p
  exact ⟨b, rfl, q b B r sb⟩
theorem t_not {b : Bool} (h : EvT R t σ G (· = b)) : EvT R (tNot t) σ G (· = !b) := fun A hA Q q => h A hA _ fun c B r s => q (!c) B r (by rw [s])
theorem t_and {a b : Bool} (h1 : EvT R t σ G (· = a)) (h2 : a = true → EvT R u σ G (· = b)) : EvT R (tAnd t u) σ G (· = (a && b)) := fun A hA Q q => h1 A hA _ fun c B r s => by
  subst s
  cases c with
  | true =>
    show u σ B Q
    exact h2 rfl B (Rl.trans hA r) Q fun c2 C r2 s2 => q c2 C (Rl.trans r r2) (by rw [s2]; rfl)
  | false => exact q false B r rfl
theorem t_or {a b : Bool} (h1 : EvT R t σ G (· = a)) (h2 : a = false → EvT R u σ G (· = b)) : EvT R (tOr t u) σ G (· = (a || b)) := fun A hA Q q => h1 A hA _ fun c B r s => by
  subst s
  cases c with
  | true => exact q true B r rfl
  | false =>
    show u σ B Q
    exact h2 rfl B (Rl.trans hA r) Q fun c2 C r2 s2 => q c2 C (Rl.trans r r2) (by rw [s2]; rfl)
theorem e_and {a b : Bool} (h1 : EvS R K ta σ G (· = .bool a)) (h2 : a = true → EvS R K tb σ G (· = .bool b)) : EvS R K (tAndV ta tb) σ G (· = .bool (a && b)) := fun A hA Q q => h1 A hA _ fun v d B r s p => by
  subst s
  cases p
  refine ⟨a, rfl, ?_⟩
  cases a with
  | true =>
    show tb σ B Q
    exact h2 rfl B (Rl.trans hA r) Q fun v2 d2 C r2 s2 p2 => q v2 d2 C (Rl.trans r r2) (by rw [s2]; rfl) (dp_up (up_back r) d2 v2 p2)
  | false => exact q (.bl false) (.bool false) B r rfl (.bl false)
theorem e_or {a b : Bool} (h1 : EvS R K ta σ G (· = .bool a)) (h2 : a = false → EvS R K tb σ G (· = .bool b)) : EvS R K (tOrV ta tb) σ G (· = .bool (a || b)) := fun A hA Q q => h1 A hA _ fun v d B r s p => by
  subst s
  cases p
  refine ⟨a, rfl, ?_⟩
  cases a with
  | true => exact q (.bl true) (.bool true) B r rfl (.bl true)
  | false =>
    show tb σ B Q
    exact h2 rfl B (Rl.trans hA r) Q fun v2 d2 C r2 s2 p2 => q v2 d2 C (Rl.trans r r2) (by rw [s2]; rfl) (dp_up (up_back r) d2 v2 p2)
theorem e_not {a : Bool} (h1 : EvS R K ta σ G (· = .bool a)) : EvS R K (tNotV ta) σ G (· = .bool (!a)) := fun A hA Q q => h1 A hA _ fun v d B r s p => by
  subst s
  cases p
  exact ⟨a, rfl, q _ _ B r rfl (.bl _)⟩
theorem e_if {Sb : Bool → Prop} (h : EvT R t σ G Sb) (h1 : Sb true → EvS R K ta σ G S) (h2 : Sb false → EvS R K tb σ G S) : EvS R K (tIf t ta tb) σ G S := fun A hA Q q => h A hA _ fun b B r s => by
  cases b with
  | true =>
    show ta σ B Q
    exact h1 s B (Rl.trans hA r) Q fun v2 d2 C r2 s2 p2 => q v2 d2 C (Rl.trans r r2) s2 (dp_up (up_back r) d2 v2 p2)
  | false =>
    show tb σ B Q
    exact h2 s B (Rl.trans hA r) Q fun v2 d2 C r2 s2 p2 => q v2 d2 C (Rl.trans r r2) s2 (dp_up (up_back r) d2 v2 p2)
theorem e_chain {r' : R2} {tc : TE} {a b : Bool} {dz : PyData} (ha : EvS R K ta σ G (· = dx)) (hb : EvS R K tb σ G (· = dy)) (hr : RS R K r G dx dy (· = .bool a)) (hc : EvS R K tc σ G (· = dz)) (hr' : RS R K r' G dy dz (· = .bool b)) :
    EvS R K (tChain r r' ta tb tc) σ G (· = .bool (a && b)) := fun A hA Q q =>
  ha A hA _ fun x d1 B1 r1 s1 p1 => hb B1 (Rl.trans hA r1) _ fun y d2 B2 r2 s2 p2 => by
    subst s1 s2
    refine hr A hA B2 x y (Rl.trans r1 r2) (dp_up (up_next r2) _ x p1) (dp_up (up_back r1) _ y p2) _ fun v d3 B3 r3 s3 p3 => ?_
    subst s3
    cases p3
    refine ⟨a, rfl, ?_⟩
    cases a with
    | false => exact q _ _ B3 (Rl.trans (Rl.trans r1 r2) r3) rfl (.bl false)
    | true =>
      show tc σ B3 fun w' H4 => r' y w' H4 Q
      refine hc B3 (Rl.trans (Rl.trans (Rl.trans hA r1) r2) r3) _ fun z d4 B4 r4 s4 p4 => ?_
      subst s4
      exact hr' A hA B4 y z (Rl.trans (Rl.trans (Rl.trans r1 r2) r3) r4) (dp_up (up_next r4) _ y (dp_up (up_next r3) _ y (dp_up (up_back r1) _ y p2))) (dp_up (up_back (Rl.trans (Rl.trans r1 r2) r3)) _ z p4) Q fun v d C r5 s5 p5 =>
        q v d C (Rl.trans (Rl.trans (Rl.trans (Rl.trans r1 r2) r3) r4) r5) (by rw [s5]; rfl) p5

/-! calls on values -/
theorem e_cb {ta : TA} {rc : List V → Hp → VK → Prop} {Sl : List PyData → Prop} (h : EvA R K ta σ G Sl) (k : ∀ ds, Sl ds → RC R K rc G ds S) : EvS R K (tCB rc ta) σ G S := fun A hA Q q =>
  h A hA _ fun vs ds B r s p => k ds s A hA B vs r p Q fun v d C r2 s2 p2 => q v d C (Rl.trans r r2) s2 p2
theorem e_cb1 {ta : TA} {rc : List V → Hp → VK → Prop} (h : EvA R K ta σ G (· = ds)) (k : RC R K rc G ds S) : EvS R K (tCB rc ta) σ G S := e_cb h fun _ e => by rw [e]; exact k
theorem rc_lenStr {z : Str} (hz : z.length ≤ 100000) : RC R K (fun xs H Q => ∃ x n, xs = [x] ∧ LenV K x H n ∧ Q (.int n) H) G [.str z] (· = .int z.length) := fun A hA B vs r p Q q => by
  cases p with
  | cons p1 p2 =>
    cases p2
    cases p1
    exact ⟨.str z, z.length, rfl, ⟨Nat.le_trans hz (by decide), rfl⟩, q _ _ B (Rl.refl B) rfl (.int _)⟩
theorem rc_lenT {es : List PyData} : RC R K (fun xs H Q => ∃ x n, xs = [x] ∧ LenV K x H n ∧ Q (.int n) H) G [.tuple es] (· = .int es.length) := fun A hA B vs r p Q q => by
  cases p with
  | cons p1 p2 =>
    cases p2
    cases p1 with
    | tup hs ha =>
      have hl := dpa_len ha
      exact ⟨_, _, rfl, .inr ⟨_, sqt_up up_sub hs, rfl⟩, q _ _ B (Rl.refl B) (by rw [hl]) (.int _)⟩
theorem rc_lenL {es : List PyData} : RC R K (fun xs H Q => ∃ x n, xs = [x] ∧ LenV K x H n ∧ Q (.int n) H) G [.list es] (· = .int es.length) := fun A hA B vs r p Q q => by
  cases p with
  | cons p1 p2 =>
    cases p2
    cases p1 with
    | lst hs ha =>
      have hl := dpa_len ha
      exact ⟨_, _, rfl, .inl ⟨_, sql_up up_sub hs, rfl⟩, q _ _ B (Rl.refl B) (by rw [hl]) (.int _)⟩
/-- the built-in type of data -/
def tyN : PyData → String
  | .none => "NoneType"
  | .bool _ => "bool"
  | .int _ => "int"
  | .str _ => "str"
  | .list _ => "list"
  | .tuple _ => "tuple"
  | .dict _ => "dict"
theorem tyx_of {X : Hp} : ∀ {v : V} {d : PyData}, Dp K X v d → TyX K X v (.type (tyN d))
  | _, _, .non => .base .non
  | _, _, .bl b => .base (.bl b)
  | _, _, .int i => .base (.int i)
  | _, _, .str x => .base (.str x)
  | _, _, .lst hs _ => by
    rcases hs with (h | ⟨o, h⟩) | ⟨o, its, n, h, hc, _⟩
    · exact .base (.lst h)
    · exact .base (.frz h)
    · exact .kList h hc
  | _, _, .tup hs _ => by
    rcases hs with (h | ⟨o, h⟩) | ⟨o, its, n, h, hc, _⟩
    · exact .base (.tup h)
    · exact .fTuple h
    · exact .kTuple h hc
/-- isinstance(x, T), T a built-in class -/
theorem e_isi {n : String} {b : Bool} (h : EvS R K te σ G (· = d)) (k : kitB (tyN d) n = some b) : EvS R K (tCB (rIsi K) (tCons te (tCons (tC (.ty n)) tNil))) σ G (· = .bool b) := fun A hA Q q =>
  h A hA _ fun v d' B r s p => by
    subst s
    exact ⟨v, .ty n, .type (tyN d'), .type n, b, rfl, .ty n, tyx_of (dp_up up_sub _ v p), kit_ty k, q _ _ B r rfl (.bl b)⟩
/-- x in (a, b, ..): texts -/
theorem rs_inT {z : Str} {zs : List Str} : RS R K (rIn K false) G (.str z) (.tuple (zs.map .str)) (· = .bool (zs.any fun y => y == z)) := fun A hA B x y r1 px py Q q => by
  cases px
  cases py with
  | @tup a xs _ hs ha =>
    have hx : ∀ {xs : List V} {zs : List Str} {X : Hp}, DpAll K X xs (zs.map PyData.str) → xs = zs.map V.str := by
      intro xs zs X h
      induction zs generalizing xs with
      | nil => cases h; rfl
      | cons w zs ih =>
        cases h with
        | cons h1 h2 => cases h1; rw [ih h2]; rfl
    have e := hx ha
    subst e
    refine ⟨a, zs.map V.str, rfl, .inr (sqt_up up_sub hs), rfl, ?_, ?_⟩
    · rw [List.all_map, List.all_eq_true]
      intro w _
      rfl
    · refine q _ _ B (Rl.refl B) ?_ (.bl _)
      show PyData.bool (inV _ _) = _
      unfold inV
      rw [List.any_map]
      rfl
theorem rs_inS {c : Nat} {z : Str} : RS R K (fun x y H Q => ∃ (c : Nat) (z : Str), x = .str ⟨#[c]⟩ ∧ y = .str z ∧ Q (.bl (decide (c ∈ z.cps.toList))) H) G (.str ⟨#[c]⟩) (.str z) (· = .bool (decide (c ∈ z.cps.toList))) := fun A hA B x y r1 px py Q q => by
  cases px
  cases py
  exact ⟨c, z, rfl, rfl, q _ _ B (Rl.refl B) rfl (.bl _)⟩
theorem bools_of {X : Hp} : ∀ {vs : List V} {bs : List Bool}, DpAll K X vs (bs.map PyData.bool) → vs = bs.map V.bl
  | [], [], _ => rfl
  | [], _ :: _, h => by cases h
  | _ :: _, [], h => by cases h
  | v :: vs, b :: bs, h => by
    cases h with
    | cons h1 h2 =>
      cases h1
      rw [bools_of h2]
      rfl
theorem ints_of {X : Hp} : ∀ {vs : List V} {bs : List Int}, DpAll K X vs (bs.map PyData.int) → vs = bs.map V.int
  | [], [], _ => rfl
  | [], _ :: _, h => by cases h
  | _ :: _, [], h => by cases h
  | v :: vs, b :: bs, h => by
    cases h with
    | cons h1 h2 =>
      cases h1
      rw [ints_of h2]
      rfl
theorem rc_all {bs : List Bool} : RC R K (rAll K) G [.list (bs.map .bool)] (· = .bool (bs.all id)) := fun A hA B vs r p Q q => by
  cases p with
  | cons p1 p2 =>
    cases p2
    cases p1 with
    | lst hs ha =>
      have e := bools_of ha
      subst e
      exact ⟨_, bs, rfl, sql_up up_sub hs, q _ _ B (Rl.refl B) rfl (.bl _)⟩
theorem rc_sum {ns : List Int} : RC R K (rSum K) G [.list (ns.map .int)] (· = .int ns.sum) := fun A hA B vs r p Q q => by
  cases p with
  | cons p1 p2 =>
    cases p2
    cases p1 with
    | lst hs ha =>
      have e := ints_of ha
      subst e
      exact ⟨_, ns, rfl, sql_up up_sub hs, q _ _ B (Rl.refl B) rfl (.int _)⟩
/-- tuple(list) -/
theorem rc_tuple {es : List PyData} (hz : True := trivial) : RC R K (fun xs H Q => ∃ p ys, xs = [.ref p] ∧ ((SqL K H p ys ∧ ∀ l, H l = none → Q (.ref l) (upd H l (.tup ys))) ∨ (SqT K H p ys ∧ Q (.ref p) H))) G [.list es] (· = .tuple es) := fun A hA B vs r p Q q => by
  cases p with
  | cons p1 p2 =>
    cases p2
    cases p1 with
    | lst hs ha =>
      exact ⟨_, _, rfl, .inl ⟨sql_up up_sub hs, fun l hl => q (.ref l) (.tuple es) _ (Rl.new (Rl.refl B) hl) rfl (.tup (.inl (.inl (own_at r hl))) (dpa_up (up_new r hl) es _ ha))⟩⟩
/-- list(list), list(tuple) -/
theorem rc_list {es : List PyData} (d : PyData) (hd : d = .list es ∨ d = .tuple es) : RC R K (fun xs H Q => ∃ p ys, xs = [.ref p] ∧ (SqL K H p ys ∨ SqT K H p ys) ∧ ∀ l, H l = none → Q (.ref l) (upd H l (.lst ys))) G [d] (· = .list es) := fun A hA B vs r p Q q => by
  cases p with
  | cons p1 p2 =>
    cases p2
    rcases hd with e | e
    · subst e
      cases p1 with
      | lst hs ha =>
        exact ⟨_, _, rfl, .inl (sql_up up_sub hs), fun l hl => q (.ref l) (.list es) _ (Rl.new (Rl.refl B) hl) rfl (.lst (.inl (.inl (own_at r hl))) (dpa_up (up_new r hl) es _ ha))⟩
    · subst e
      cases p1 with
      | tup hs ha =>
        exact ⟨_, _, rfl, .inr (sqt_up up_sub hs), fun l hl => q (.ref l) (.list es) _ (Rl.new (Rl.refl B) hl) rfl (.lst (.inl (.inl (own_at r hl))) (dpa_up (up_new r hl) es _ ha))⟩

/-! slices -/
theorem o_none : EvO R tNoPart σ G (· = none) := fun A _ _ q => q none A (Rl.refl A) rfl
theorem o_some {i : Int} (h : EvS R K te σ G (· = .int i)) : EvO R (tPart te) σ G (· = some i) := fun A hA _ q => h A hA _ fun v d B r s p => by
  subst s
  cases p
  exact ⟨i, rfl, q _ B r rfl⟩
theorem o_someS {Si : Int → Prop} (h : EvS R K te σ G (fun d => ∃ i, d = .int i ∧ Si i)) : EvO R (tPart te) σ G (fun o => ∃ i, o = some i ∧ Si i) := fun A hA _ q => h A hA _ fun v d B r s p => by
  obtain ⟨i, e, si⟩ := s
  subst e
  cases p
  exact ⟨i, rfl, q _ B r ⟨i, rfl, si⟩⟩
/-- what a slice of data is -/
def cutD (es : List PyData) (lo hi : Option Int) : List PyData := (es.drop (HT.sIx es.length 0 lo)).take (HT.sIx es.length es.length hi - HT.sIx es.length 0 lo)
theorem cutD_whole {es : List PyData} {lo hi : Option Int} (h : HT.sIx es.length 0 lo = 0 ∧ HT.sIx es.length es.length hi = es.length) : cutD es lo hi = es := by
  unfold cutD
  rw [h.1, h.2]
  simp
theorem dpa_cut {X : Hp} {xs : List V} {es : List PyData} {lo hi : Option Int} (h : DpAll K X xs es) : DpAll K X (cutV xs lo hi) (cutD es lo hi) := by
  unfold cutV cutD
  rw [dpa_len h]
  exact dpa_take _ (dpa_drop _ h)
theorem e_slT {tl th : TO} {So Sh : Option Int → Prop} {es : List PyData} (h : EvS R K te σ G (· = .tuple es)) (hl : EvO R tl σ G So) (hh : EvO R th σ G Sh) :
    EvS R K (tSl (rSlA K) te tl th) σ G (fun d => ∃ lo hi, So lo ∧ Sh hi ∧ d = .tuple (cutD es lo hi)) := fun A hA Q q =>
  h A hA _ fun v d B r s p => hl B (Rl.trans hA r) _ fun lo B2 r2 s2 => hh B2 (Rl.trans (Rl.trans hA r) r2) _ fun hi B3 r3 s3 => by
    subst s
    cases p with
    | @tup a xs _ hs ha =>
      have hs' := sqt_up (up_next r3) (sqt_up (up_next r2) hs)
      have ha' := dpa_up (up_next r3) es xs (dpa_up (up_next r2) es xs ha)
      have rr := Rl.trans (Rl.trans r r2) r3
      refine ⟨a, xs, rfl, sqt_up up_sub hs', fun hw => ?_, fun hw l hl => ?_⟩
      · rw [dpa_len ha'] at hw
        exact q (.ref a) _ B3 rr ⟨lo, hi, s2, s3, rfl⟩ (by rw [cutD_whole hw]; exact .tup hs' ha')
      · exact q (.ref l) _ _ (Rl.new rr (Rl.dom rr hl)) ⟨lo, hi, s2, s3, rfl⟩ (.tup (.inl (.inl (own_at rr hl))) (dpa_up (up_new rr hl) _ _ (dpa_cut ha')))
theorem e_slL {tl th : TO} {So Sh : Option Int → Prop} {es : List PyData} (h : EvS R K te σ G (· = .list es)) (hl : EvO R tl σ G So) (hh : EvO R th σ G Sh) :
    EvS R K (tSl (rSlL K) te tl th) σ G (fun d => ∃ lo hi, So lo ∧ Sh hi ∧ d = .list (cutD es lo hi)) := fun A hA Q q =>
  h A hA _ fun v d B r s p => hl B (Rl.trans hA r) _ fun lo B2 r2 s2 => hh B2 (Rl.trans (Rl.trans hA r) r2) _ fun hi B3 r3 s3 => by
    subst s
    cases p with
    | @lst a xs _ hs ha =>
      have hs' := sql_up (up_next r3) (sql_up (up_next r2) hs)
      have ha' := dpa_up (up_next r3) es xs (dpa_up (up_next r2) es xs ha)
      have rr := Rl.trans (Rl.trans r r2) r3
      exact ⟨a, xs, rfl, sql_up up_sub hs', fun l hl => q (.ref l) _ _ (Rl.new rr (Rl.dom rr hl)) ⟨lo, hi, s2, s3, rfl⟩ (.lst (.inl (.inl (own_at rr hl))) (dpa_up (up_new rr hl) _ _ (dpa_cut ha')))⟩

/-! concatenation -/
theorem rs_catL {es fs : List PyData} (hz : es.length + fs.length ≤ 100000) : RS R K (fun x y H Q => ∃ a b xs ys, x = .ref a ∧ y = .ref b ∧ SqL K H a xs ∧ SqL K H b ys ∧ xs.length + ys.length ≤ sizeLine ∧ ∀ p, H p = none → Q (.ref p) (upd H p (.lst (xs ++ ys)))) G (.list es) (.list fs) (· = .list (es ++ fs)) := fun A hA B x y r1 px py Q q => by
  cases px with
  | lst hs ha =>
    cases py with
    | lst hs2 ha2 =>
      exact ⟨_, _, _, _, rfl, rfl, sql_up up_sub hs, sql_up up_sub hs2, Nat.le_trans (by rw [dpa_len ha, dpa_len ha2]; exact hz) (by decide), fun l hl => q (.ref l) _ _ (Rl.new (Rl.refl B) hl) rfl
        (.lst (.inl (.inl (own_at r1 hl))) (dpa_up (up_new r1 hl) _ _ (dpa_app ha ha2)))⟩
theorem rs_catT {es fs : List PyData} (hz : es.length + fs.length ≤ 100000) : RS R K (rCatA K) G (.tuple es) (.tuple fs) (· = .tuple (es ++ fs)) := fun A hA B x y r1 px py Q q => by
  cases px with
  | @tup a xs _ hs ha =>
    cases py with
    | @tup b ys _ hs2 ha2 =>
      refine ⟨a, b, xs, ys, rfl, rfl, sqt_up up_sub hs, sqt_up up_sub hs2, Nat.le_trans (by rw [dpa_len ha, dpa_len ha2]; exact hz) (by decide), fun e => ?_, fun e1 e2 => ?_, fun _ _ l hl => ?_⟩
      · subst e
        have e : es = [] := List.eq_nil_of_length_eq_zero (dpa_len ha).symm
        subst e
        exact q (.ref b) _ B (Rl.refl B) rfl (.tup hs2 ha2)
      · subst e2
        have e : fs = [] := List.eq_nil_of_length_eq_zero (dpa_len ha2).symm
        subst e
        exact q (.ref a) _ B (Rl.refl B) rfl (by rw [List.append_nil]; exact .tup hs ha)
      · exact q (.ref l) _ _ (Rl.new (Rl.refl B) hl) rfl (.tup (.inl (.inl (own_at r1 hl))) (dpa_up (up_new r1 hl) _ _ (dpa_app ha ha2)))

/-! ### blocks that return -/
variable {ts tu tw : TS}
theorem Rt.imp (h : Rt R K ts σ G S) (k : ∀ d, S d → S' d) : Rt R K ts σ G S' := fun A hA D q => h A hA D fun v d B r s p => q v d B r (k d s) p
theorem rt_ret (h : EvS R K te σ G S) : Rt R K (tRet te) σ G S := fun A hA D q => h A hA D.rt q
/-- if t: return .. -/
theorem rt_if {Sb : Bool → Prop} (h : EvT R t σ G Sb) (h1 : Sb true → Rt R K tu σ G S) (h2 : Sb false → Rt R K tw σ G S) : Rt R K (tSeq (tIfS t tu tNext) tw) σ G S := fun A hA D q => h A hA _ fun b B r s => by
  cases b with
  | true =>
    show tu { D with nx := tw D } σ B
    exact h1 s B (Rl.trans hA r) { D with nx := tw D } fun v d C r2 s2 p2 => q v d C (Rl.trans r r2) s2 (dp_up (up_back r) d v p2)
  | false =>
    show tw D σ B
    exact h2 s B (Rl.trans hA r) D fun v d C r2 s2 p2 => q v d C (Rl.trans r r2) s2 (dp_up (up_back r) d v p2)
/-- if t: return .., at the end -/
theorem rt_if2 {Sb : Bool → Prop} (h : EvT R t σ G Sb) (h1 : Sb true → Rt R K tu σ G S) (h2 : Sb false → Rt R K tw σ G S) : Rt R K (tIfS t tu tw) σ G S := fun A hA D q => h A hA _ fun b B r s => by
  cases b with
  | true =>
    show tu D σ B
    exact h1 s B (Rl.trans hA r) D fun v d C r2 s2 p2 => q v d C (Rl.trans r r2) s2 (dp_up (up_back r) d v p2)
  | false =>
    show tw D σ B
    exact h2 s B (Rl.trans hA r) D fun v d C r2 s2 p2 => q v d C (Rl.trans r r2) s2 (dp_up (up_back r) d v p2)
/-- x = e; the rest, over a base with e's data -/
theorem rt_set {i : Nat} (h : EvS R K te σ G Sa) (k : ∀ v d G', R G G' → Sa d → Dp K G' v d → Rt R K tw (σ.set i (some v)) G' S) : Rt R K (tSeq (tAsg te (gName i)) tw) σ G S := fun A hA D q =>
  h A hA _ fun v d B r s p => by
    show tw D (σ.set i (some v)) B
    exact k v d (own G A B) (r_own hA r) s p B own_r D fun v2 d2 C r2 s2 p2 => q v2 d2 C (Rl.trans r r2) s2 (dp_up (up_in r) d2 v2 p2)
/-- a, b = e1, e2 -/
theorem rt_par {i j : Nat} {ta : TA} {Sl : PyData → PyData → Prop} (h : EvA R K ta σ G (fun ds => ∃ d e, ds = [d, e] ∧ Sl d e)) (k : ∀ v w d e G', R G G' → Sl d e → Dp K G' v d → Dp K G' w e → Rt R K tw ((σ.set i (some v)).set j (some w)) G' S) :
    Rt R K (tSeq (tPar i j ta) tw) σ G S := fun A hA D q =>
  h A hA _ fun vs ds B r s p => by
    obtain ⟨d, e, ed, sl⟩ := s
    subst ed
    cases p with
    | @cons v ws _ _ p1 p2 =>
      cases p2 with
      | @cons w _ _ _ p2 p3 =>
        cases p3
        refine ⟨v, w, rfl, ?_⟩
        show tw D _ B
        exact k v w d e (own G A B) (r_own hA r) sl p1 p2 B own_r D fun v2 d2 C r2 s2 p2 => q v2 d2 C (Rl.trans r r2) s2 (dp_up (up_in r) d2 v2 p2)
end

/-! ### promises of defs that change nothing -/
/-- data in, data out -/
def spS (K : PySem.W.Frag) (pre : List PyData → Prop) (S : List PyData → PyData → Prop) : Sp := fun vs H Q _ => ∃ (G : Hp) (ds : List PyData), Same G H ∧ DpAll K G vs ds ∧ pre ds ∧ ∀ v d B, Same H B → S ds d → Dp K (own G H B) v d → Q v B
abbrev spD (K : PySem.W.Frag) (pre : List PyData → Prop) (F : List PyData → PyData) : Sp := spS K pre fun ds d => d = F ds
section
variable {R : Hp → Hp → Prop} [Rl R] {K : PySem.W.Frag} {σ : L2.St} {G : Hp}
theorem e_callS {ta : TA} {pre : List PyData → Prop} {S : List PyData → PyData → Prop} {Sl : List PyData → Prop} {E : XK} (h : EvA R K ta σ G Sl) (k : ∀ ds, Sl ds → pre ds) : EvS R K (tCall (spS K pre S) [] E ta) σ G (fun d => ∃ ds, Sl ds ∧ S ds d) := fun A hA Q q =>
  h A hA _ fun vs ds B r s p => by
    show spS K pre S (vs ++ []) B Q E
    rw [List.append_nil]
    exact ⟨own G A B, ds, own_same, p, k ds s, fun v d C sm sd pd => q v d C (Rl.trans r (Rl.ext sm)) ⟨ds, s, sd⟩ (dp_up (up_in r) d v pd)⟩
theorem e_callD {ta : TA} {pre : List PyData → Prop} {F : List PyData → PyData} {ds : List PyData} {E : XK} (h : EvA R K ta σ G (· = ds)) (k : pre ds) : EvS R K (tCall (spD K pre F) [] E ta) σ G (· = F ds) :=
  (e_callS h fun _ e => by rw [e]; exact k).imp fun d ⟨es, e, e2⟩ => by rw [e2, e]
/-- from a body's reading to the promise -/
theorem body_rt {ts : TS} {vs : List V} {H : Hp} {Q : VK} {E : XK} {pre : List PyData → Prop} {S : List PyData → PyData → Prop} {N : List Str} (hsp : spS K pre S vs H Q E)
    (h : ∀ (G : Hp) (ds : List PyData), DpAll K G vs ds → pre ds → Rt Same K ts (L2.start N vs) G (S ds)) : ts { nx := fun _ H' => Q .non H', rt := Q } (L2.start N vs) H := by
  obtain ⟨G, ds, sm, p, hp, q⟩ := hsp
  exact h G ds p hp H sm _ fun v d B r s pd => q v d B r s pd
end
end K25

namespace K25
open PySem L2
/-! ### walks over data -/
section
variable (R : Hp → Hp → Prop) (K : PySem.W.Frag)
/-- wi walks n things, Sn n; the i-th is data d, Sd i d -/
def ItD (wi : TI) (σ : L2.St) (G : Hp) (Sn : Nat → Prop) (Sd : Nat → PyData → Prop) : Prop := ∀ A, R G A → ∀ Rk : It → Hp → Prop,
  (∀ (J : It) (n : Nat) (B : Hp) (Gd : Hp → Prop) (Y : Nat → Hp → V → Hp → Prop), R A B → Sn n → Walk J n Gd Y → (∀ X, R B X → Gd X) →
    (∀ i X x X', i < n → R B X → Y i X x X' → R X X' ∧ ∃ d, Sd i d ∧ Dp K (own (own G A B) X X') x d) → Rk J B) → wi σ A Rk
end
section
variable {R : Hp → Hp → Prop} [Rl R] {K : PySem.W.Frag} {σ : L2.St} {G A B C : Hp} {te : TE}
theorem it_tup {ds : List PyData} (h : EvS R K te σ G (· = .tuple ds)) : ItD R K (iTup K te) σ G (· = ds.length) (fun i d => ds[i]? = some d) := fun A hA Rk k =>
  h A hA _ fun v d B r s p => by
    subst s
    cases p with
    | @tup a xs _ hs ha =>
      refine ⟨a, rfl, ⟨xs, sqt_up up_sub hs⟩, k (Itt K a) ds.length B _ _ r rfl (by rw [← dpa_len ha]; exact walk_tup (K := K) (a := a) (xs := xs)) (fun X rx => sqt_up (fun b o t e => Rl.stay rx t e) (sqt_up up_sub hs)) fun i X x X' hi rx y => ?_⟩
      obtain ⟨e, ex⟩ := y
      subst e
      obtain ⟨d, e1, e2⟩ := dpa_getV ha ex
      exact ⟨Rl.refl X', d, e1, dp_up (up_base (R := R) (Rl.trans own_r rx) (Rl.refl X')) d x e2⟩
theorem it_list {ds : List PyData} (h : EvS R K te σ G (· = .list ds)) : ItD R K (iList K te) σ G (· = ds.length) (fun i d => ds[i]? = some d) := fun A hA Rk k =>
  h A hA _ fun v d B r s p => by
    subst s
    cases p with
    | @lst a xs _ hs ha =>
      refine ⟨a, rfl, ⟨xs, sql_up up_sub hs⟩, k (Itl K a) ds.length B _ _ r rfl (by rw [← dpa_len ha]; exact walk_list (K := K) (a := a) (xs := xs)) (fun X rx => sql_up (fun b o t e => Rl.stay rx t e) (sql_up up_sub hs)) fun i X x X' hi rx y => ?_⟩
      obtain ⟨e, ex⟩ := y
      subst e
      obtain ⟨d, e1, e2⟩ := dpa_getV ha ex
      exact ⟨Rl.refl X', d, e1, dp_up (up_base (R := R) (Rl.trans own_r rx) (Rl.refl X')) d x e2⟩
/-- over some list, its data told by Sl -/
theorem it_listS {Sl : List PyData → Prop} {Sd : Nat → PyData → Prop} (h : EvS R K te σ G (fun d => ∃ ds, d = .list ds ∧ Sl ds)) (hd : ∀ ds i d, Sl ds → ds[i]? = some d → Sd i d) : ItD R K (iList K te) σ G (fun n => ∃ ds, Sl ds ∧ n = ds.length) Sd := fun A hA Rk k =>
  h A hA _ fun v d B r s p => by
    obtain ⟨ds, e, sl⟩ := s
    subst e
    cases p with
    | @lst a xs _ hs ha =>
      refine ⟨a, rfl, ⟨xs, sql_up up_sub hs⟩, k (Itl K a) ds.length B _ _ r ⟨ds, sl, rfl⟩ (by rw [← dpa_len ha]; exact walk_list (K := K) (a := a) (xs := xs)) (fun X rx => sql_up (fun b o t e => Rl.stay rx t e) (sql_up up_sub hs)) fun i X x X' hi rx y => ?_⟩
      obtain ⟨e, ex⟩ := y
      subst e
      obtain ⟨d, e1, e2⟩ := dpa_getV ha ex
      exact ⟨Rl.refl X', d, hd ds i d sl e1, dp_up (up_base (R := R) (Rl.trans own_r rx) (Rl.refl X')) d x e2⟩
theorem it_str {z : Str} (h : EvS R K te σ G (· = .str z)) : ItD R K (iStr te) σ G (· = z.cps.size) (fun i d => ∃ c, z.cps[i]? = some c ∧ d = .str ⟨#[c]⟩) := fun A hA Rk k =>
  h A hA _ fun v d B r s p => by
    subst s
    cases p
    refine ⟨z, rfl, k (Its z) z.cps.size B _ _ r rfl walk_str (fun _ _ => trivial) fun i X x X' hi rx y => ?_⟩
    obtain ⟨e, c, e1, e2⟩ := y
    subst e e2
    exact ⟨Rl.refl X', _, ⟨c, e1, rfl⟩, .str _⟩
theorem it_range {Sn : Nat → Prop} (h : EvS R K te σ G (fun d => ∃ n : Nat, d = .int n ∧ Sn n)) (hz : ∀ n, Sn n → n ≤ 100000) : ItD R K (iRng1 (tCons te tNil)) σ G Sn (fun i d => d = .int i) := fun A hA Rk k =>
  h A hA _ fun v d B r s p => by
    obtain ⟨n, e, sn⟩ := s
    subst e
    cases p
    have hn := hz n sn
    refine ⟨(n : Int), rfl, by omega, by omega, k (Itr 0 ((n : Int).toNat)) n B _ _ r sn (by rw [Int.toNat_natCast]; exact walk_range) (fun _ _ => trivial) fun i X x X' hi rx y => ?_⟩
    obtain ⟨e, e2⟩ := y
    subst e e2
    exact ⟨Rl.refl X', .int i, rfl, by show Dp K _ (V.int (0 + (i : Int))) _; rw [Int.zero_add]; exact .int _⟩
theorem walk_zipT {a b : Addr} {xs ys : List V} {n : Nat} (hn : n = min xs.length ys.length) : Walk (RZ.ItzT K a b) n (fun H => SqT K H a xs ∧ SqT K H b ys)
    (fun i H v H' => ∃ T x y, v = .ref T ∧ H T = none ∧ H' = upd H T (.tup [x, y]) ∧ xs[i]? = some x ∧ ys[i]? = some y) := by
  subst hn
  refine ⟨fun i H hi q => ?_, fun H q => ⟨xs, ys, q.1, q.2, by omega⟩, fun i H v H' hi q y => ?_⟩
  · have h1 : i < xs.length := by omega
    have h2 : i < ys.length := by omega
    exact ⟨xs, ys, xs[i], ys[i], q.1, q.2, by simp [h1], by simp [h2]⟩
  · obtain ⟨T, x, z, h1, h2, h3, h4, h5⟩ := y
    exact ⟨T, x, z, h1, h2, h3, h4 xs q.1, h5 ys q.2⟩
theorem it_zipT {ta tb : TE} {ds es : List PyData} (h : EvA R K (tCons ta (tCons tb tNil)) σ G (· = [.tuple ds, .tuple es])) :
    ItD R K (RZ.iZipA K (tCons ta (tCons tb tNil))) σ G (· = min ds.length es.length) (fun i d => ∃ d1 d2, ds[i]? = some d1 ∧ es[i]? = some d2 ∧ d = .tuple [d1, d2]) := fun A hA Rk k =>
  h A hA _ fun vs ds' B r s p => by
    subst s
    cases p with
    | cons p1 p2 =>
      cases p2 with
      | cons p2 p3 =>
        cases p3
        cases p1 with
        | @tup a xs _ hs ha =>
          cases p2 with
          | @tup b ys _ hs2 ha2 =>
            refine ⟨a, b, xs, ys, rfl, .inr ⟨sqt_up up_sub hs, sqt_up up_sub hs2, k (RZ.ItzT K a b) _ B _ _ r rfl (walk_zipT (xs := xs) (ys := ys) (by rw [dpa_len ha, dpa_len ha2])) (fun X rx => ⟨sqt_up (fun b o t e => Rl.stay rx t e) (sqt_up up_sub hs), sqt_up (fun b o t e => Rl.stay rx t e) (sqt_up up_sub hs2)⟩) fun i X x X' hi rx y => ?_⟩⟩
            obtain ⟨T, x1, x2, e1, nT, e2, g1, g2⟩ := y
            subst e1 e2
            obtain ⟨d1, q1, q2⟩ := dpa_getV ha g1
            obtain ⟨d2, q3, q4⟩ := dpa_getV ha2 g2
            have up : ∀ a o, Stay o → own G A B a = some o → own (own G A B) X (upd X T (.tup [x1, x2])) a = some o := fun a o t e =>
              up_new (R := R) (Rl.refl X) nT a o t (up_base (R := R) (Rl.trans own_r rx) (Rl.refl X) a o t e)
            exact ⟨Rl.new (Rl.refl X) nT, .tuple [d1, d2], ⟨d1, d2, q1, q3, rfl⟩, .tup (.inl (.inl (own_at (R := R) (Rl.refl X) nT))) (.cons (dp_up up d1 _ q2) (.cons (dp_up up d2 _ q4) .nil))⟩

/-! ### comprehensions -/
/-- what is bound at a turn -/
def Binds2 (K : PySem.W.Frag) (g : TG) (σ : L2.St) (G : Hp) (x : V) (σ2 : L2.St) : Prop := ∀ (X : Hp) (Q : L2.St → Hp → Prop), (∀ a o, Stay o → G a = some o → X a = some o) → Q σ2 X → g x σ X Q
theorem b_name {j : Nat} {x : V} : Binds2 K (gName j) σ G x (σ.set j (some x)) := fun _ _ _ q => q
theorem b_pair {i j : Nat} {x : V} {d1 d2 : PyData} (p : Dp K G x (.tuple [d1, d2])) : ∃ y z, Dp K G y d1 ∧ Dp K G z d2 ∧ Binds2 K (gTup K 2 (gCons (gName i) (gCons (gName j) gNil))) σ G x ((σ.set i (some y)).set j (some z)) := by
  cases p with
  | @tup a xs _ hs ha =>
    cases ha with
    | @cons y _ _ _ h1 h2 =>
      cases h2 with
      | @cons z _ _ _ h2 h3 =>
        cases h3
        exact ⟨y, z, h1, h2, fun X Q up q => ⟨a, _, rfl, sqt_up up hs, rfl, y, _, rfl, z, _, rfl, rfl, q⟩⟩
variable {Sn : Nat → Prop} {Sd : Nat → PyData → Prop} {wi : TI} {g : TG} {tt : TT} {vs : List Nat}
theorem e_lc (Iv : Nat → List PyData → Prop) (hi : ItD R K wi σ G Sn Sd) (hz : ∀ n, Sn n → n ≤ 100000) (h0 : Iv 0 [])
    (hs : ∀ i d x es G', R G G' → Sd i d → Dp K G' x d → Iv i es → es.length ≤ i → ∃ σ2, Binds2 K g (wipe σ vs) G' x σ2 ∧ wipe σ2 vs = wipe σ vs ∧
      ∃ Sb, EvT R tt σ2 G' Sb ∧ (Sb true → EvS R K te σ2 G' (fun e => Iv (i + 1) (es ++ [e]))) ∧ (Sb false → Iv (i + 1) es)) :
    EvS R K (tLc wi g tt te vs) σ G (fun d => ∃ n es, Sn n ∧ d = .list es ∧ Iv n es ∧ es.length ≤ n) := fun A hA Q q =>
  hi A hA _ fun J n B Gd Y r sn w hG hy D hD => by
    have dA : ∀ {a}, B a = none → A a = none := fun h => Rl.dom r h
    have g1 : R G (own G A B) := r_own hA r
    have nD : own G A B D = none := by
      cases z : own G A B D with
      | none => rfl
      | some o =>
        rw [(own_some z).1] at hD
        cases hD
    refine lc_it w (fun i X => R B X ∧ ∃ xs es, X D = some (.lst xs) ∧ DpAll K (own (own G A B) (upd B D (.lst [])) X) xs es ∧ Iv i es ∧ es.length ≤ i) ?_ (fun i X _ p => hG X p.1) ?_ ?_
    · exact ⟨Rl.new (Rl.refl B) hD, [], [], upd_same, .nil, h0, Nat.le_refl _⟩
    · rintro i x X X' hin ⟨rX, xs, es, eD, px, iv, le⟩ y
      obtain ⟨rXX, d, sd, pd⟩ := hy i X x X' hin rX y
      have gX : R (own G A B) X := Rl.trans own_r rX
      have g2 : R (own G A B) (own (own G A B) X X') := r_own gX rXX
      obtain ⟨σ2, hb, hw, Sb, hT, hY, hN⟩ := hs i d x es _ (Rl.trans g1 g2) sd pd iv le
      have domX : ∀ {a}, X a = none → upd B D (.lst []) a = none := fun {a} h => by
        by_cases e : a = D
        · rw [e, eD] at h
          cases h
        · rw [upd_ne e]
          exact Rl.dom rX h
      refine hb X' _ (fun a o t e => (own_some e).1) ⟨hw, ?_⟩
      refine hT X' own_r _ fun b H3 r3 sb => ?_
      have eD3 : H3 D = some (.lst xs) := Rl.stay r3 trivial (Rl.stay rXX trivial eD)
      have r03 : R B H3 := Rl.trans (Rl.trans rX rXX) r3
      have px3 : DpAll K (own (own G A B) (upd B D (.lst [])) H3) xs es := dpa_up (up_next r3) _ _ (dpa_up (up_next rXX) _ _ px)
      cases b with
      | false =>
        show _ ∧ _
        exact ⟨r03, xs, es, eD3, px3, hN sb, Nat.le_succ_of_le le⟩
      | true =>
        show te σ2 H3 _
        refine hY sb H3 (Rl.trans own_r r3) _ fun yv e H4 r4 ive pe => ?_
        have hn := hz n sn
        refine ⟨xs, Rl.stay r4 trivial eD3, Nat.lt_of_lt_of_le (by rw [dpa_len px]; omega : xs.length < 100000) (by decide), Rl.new (Rl.trans r03 r4) hD, xs ++ [yv], es ++ [e], upd_same, ?_, ive, by rw [List.length_append]; simp; omega⟩
        have noD : ∀ a o, own (own G A B) (upd B D (.lst [])) H4 a = some o → a ≠ D := fun a o z e => by
          rw [e] at z
          have := (own_some z).2 nD
          rw [upd_same] at this
          cases this
        have lift : ∀ a o, Stay o → own (own G A B) (upd B D (.lst [])) H4 a = some o → own (own G A B) (upd B D (.lst [])) (upd H4 D (.lst (xs ++ [yv]))) a = some o := fun a o _ z =>
          own_mk (by rw [upd_ne (noD a o z)]; exact (own_some z).1) (own_some z).2
        refine dpa_app (dpa_up lift _ _ (dpa_up (up_next r4) _ _ px3)) (.cons (dp_up lift _ _ (dp_up (fun a o t z => ?_) e yv pe)) .nil)
        obtain ⟨z1, z2⟩ := own_some z
        refine own_mk z1 fun zz => ?_
        cases q' : own (own G A B) X X' a with
        | none => exact domX (Rl.dom rXX (Rl.dom r3 (z2 q')))
        | some o' => exact domX ((own_some q').2 zz)
    · rintro X ⟨rX, xs, es, eD, px, iv, le⟩
      have rr : R A X := Rl.trans r rX
      refine q (.ref D) (.list es) X rr ⟨n, es, sn, rfl, iv, le⟩ (.lst (.inl (.inl (own_mk eD fun _ => dA hD))) (dpa_up (fun a o t z => ?_) _ _ px))
      obtain ⟨z1, z2⟩ := own_some z
      refine own_mk z1 fun zz => ?_
      cases q' : own G A B a with
      | none =>
        have h2 := z2 q'
        by_cases e : a = D
        · rw [e]
          exact dA hD
        · rw [upd_ne e] at h2
          exact dA h2
      | some o' => exact (own_some q').2 zz
/-- a comprehension without ifs over n known things, each element known -/
theorem e_lcMap {n : Nat} (f : Nat → PyData) (hi : ItD R K wi σ G (· = n) Sd) (hz : n ≤ 100000)
    (hs : ∀ i d x G', R G G' → Sd i d → Dp K G' x d → ∃ σ2, Binds2 K g (wipe σ vs) G' x σ2 ∧ wipe σ2 vs = wipe σ vs ∧ EvS R K te σ2 G' (· = f i)) :
    EvS R K (tLc wi g tYes te vs) σ G (· = .list ((List.range n).map f)) := by
  refine (e_lc (fun i es => es = (List.range i).map f) hi (fun m e => by rw [e]; exact hz) rfl fun i d x es G' hG sd p iv le => ?_).imp fun d ⟨m, es, em, ed, iv, _⟩ => by rw [ed, iv, em]
  obtain ⟨σ2, b, w, e⟩ := hs i d x G' hG sd p
  refine ⟨σ2, b, w, (· = true), ?_, fun _ => e.imp fun e' ee => ?_, fun z => by cases z⟩
  · exact fun A hA Q q => q true A (Rl.refl A) rfl
  · rw [iv, ee, List.range_succ, List.map_append]
    rfl
end
end K25
end
section
set_option maxRecDepth 100000
set_option maxHeartbeats 1000000
namespace K25
open PySem PySem.Spec PyProof.Rows L2
/-! ### the text -/
def topS (i : Nat) : Stmt := PySem.Challenge.pw_surelywrong_k25_whole_grown_texts.main.body.getD i (.Pass ⟨0, 0, 0, 0⟩)
/-- a def of the top, by its name -/
def DefAt (K : PySem.W.Frag) (mg : Str → Option Value) (x : Str) (st : Stmt) : Prop := ∃ f fd, Fun K x x st f fd ∧ mg x = some (.ref f)
abbrev s_is_integer : Stmt := topS 3
abbrev s_is_number : Stmt := topS 4
abbrev s_is_name : Stmt := topS 5
abbrev s_is_kind : Stmt := topS 6
abbrev s_is_pair : Stmt := topS 7
abbrev s_is_sort : Stmt := topS 8
abbrev s_is_row : Stmt := topS 9
abbrev s_is_text : Stmt := topS 10
abbrev s_is_gaps : Stmt := topS 11
abbrev s_is_way : Stmt := topS 12
def letters : Str := "abcdefghijklmnopqrstuvwxyz"
/-- what the top holds for the first module -/
structure Tx (K : PySem.W.Frag) (mg : Str → Option Value) : Prop where
  n_isinstance : mg "isinstance" = none
  n_len : mg "len" = none
  n_all : mg "all" = none
  n_zip : mg "zip" = none
  n_int : mg "int" = none
  n_bool : mg "bool" = none
  n_str : mg "str" = none
  n_tuple : mg "tuple" = none
  c_LETTERS : ∃ t, mg "LETTERS" = some (.str letters t)
  c_MOST_LETTERS : ∃ t, mg "MOST_LETTERS" = some (.int 8 t)
  d_is_integer : DefAt K mg "is_integer" s_is_integer
  d_is_number : DefAt K mg "is_number" s_is_number
  d_is_name : DefAt K mg "is_name" s_is_name
  d_is_kind : DefAt K mg "is_kind" s_is_kind
  d_is_pair : DefAt K mg "is_pair" s_is_pair
  d_is_sort : DefAt K mg "is_sort" s_is_sort
  d_is_row : DefAt K mg "is_row" s_is_row
  d_is_text : DefAt K mg "is_text" s_is_text
  d_is_gaps : DefAt K mg "is_gaps" s_is_gaps
  d_is_way : DefAt K mg "is_way" s_is_way
theorem boot_isi : bootBuiltins "isinstance" = some (.builtin "isinstance") := by decide +kernel
theorem boot_allB : bootBuiltins "all" = some (.builtin "all") := by decide +kernel
theorem boot_sumB : bootBuiltins "sum" = some (.builtin "sum") := by decide +kernel
theorem boot_intT : bootBuiltins "int" = some (.type "int") := by decide +kernel
theorem boot_boolT : bootBuiltins "bool" = some (.type "bool") := by decide +kernel
theorem boot_strT : bootBuiltins "str" = some (.type "str") := by decide +kernel
theorem boot_tupleT : bootBuiltins "tuple" = some (.type "tuple") := by decide +kernel
theorem boot_listT : bootBuiltins "list" = some (.type "list") := by decide +kernel

/-! ### defs that raise nothing, called by name -/
structure Cl (P : Program) (w : World) (K : PySem.W.Frag) (mg : Str → Option Value) (base : Heap) (k : Nat) (x : Str) (sp : Sp) : Prop where
  ex : ∃ f fd ps, FnOk P w K mg base CX0 k f fd ps sp ∧ mg x = some (.ref f) ∧ PySem.W.keepIn K (.ref f) = true ∧ Binds K fd ps []
section
variable {X : Cx} {x : Str} {j k : Nat} {sp : Sp} {t : TA} {e : Expr} {es : List Expr} {p pos : Pos}
theorem pe_k (c : Cl X.prog X.w X.K X.mg X.base k x sp) (hr : Room j X.A) (hk : k ≤ j) (hg : Gl X x) (ha : PA X (e :: es) t) (hdb : (x == ("__debug__" : Str)) = false := by decide)
    (he : starEach (e :: es) X.env = (false, eval e X.env) :: starEach es X.env := by rfl) (hpl : (backTo pos (starEach es X.env)).any (·.1) = false := by rfl) : PE X (.Call (.Name x p) (e :: es) [] pos) (tCall sp [] E0 t) := by
  obtain ⟨f, fd, ps, F, hm, kp, b⟩ := c.ex
  exact pe_call F (hr.mono hk) hg hm kp b .nil pass0 ha hdb he hpl
theorem pe_k0 (c : Cl X.prog X.w X.K X.mg X.base k x sp) (hr : Room j X.A) (hk : k ≤ j) (hg : Gl X x) (hdb : (x == ("__debug__" : Str)) = false := by decide) : PE X (.Call (.Name x p) [] [] pos) (tCall sp [] E0 tNil) := by
  obtain ⟨f, fd, ps, F, hm, kp, b⟩ := c.ex
  exact pe_call0 F (hr.mono hk) hg hm kp b .nil pass0 hdb
end
section
variable {P : Program} {w : World} {K : PySem.W.Frag} {mg : Str → Option Value} {base : Heap}
theorem cl_d {x : Str} {st : Stmt} {N ps : List Str} {k : Nat} {pre : List PyData → Prop} {S : List PyData → PyData → Prop} (D : DefAt K mg x st)
    (hb : ∀ (kV doc pm : Value) (an : Option Addr) (cdv ct : Value) (us : List Value), us.length = ps.length → bindArgs (PySem.W.fnOf x x (defArgs st) (defBody st) (defScope st) .none kV doc pm an cdv ct) ⟨us, []⟩ = pure (ps.zip us))
    (Sc : FnScope N ps (defScope st)) (hn : ∀ ds, pre ds → ds.length = ps.length)
    (hbody : ∀ (f : Addr) (cdv : Value) (A : Around) (outer : List Env) (s : Shared) (H : Hp) (E : XK), Room k (A.deeper (envOfC x (defScope st) s.heap.objs.size f cdv)) →
      ∃ t, PSs (cxOf CX0 P w K mg base N x (defScope st) f cdv A outer s H E).nox (defBody st) t ∧ ∀ (vs : List V) (G : Hp) (ds : List PyData), DpAll K G vs ds → pre ds → Rt Same K t (L2.start N vs) G (S ds)) :
    Cl P w K mg base (k + 1) x (spS K pre S) := by
  obtain ⟨f, fd, F, hm⟩ := D
  refine ⟨f, fd, ps, F.ok Sc (fun vs H Q E h => ?_) (fun cdv A outer s H vs Q E hr h => ?_), hm, F.kp, F.binds hb⟩
  · obtain ⟨G, ds, _, p, hp, _⟩ := h
    rw [dpa_len p]
    exact hn ds hp
  · obtain ⟨t, ht, hq⟩ := hbody f cdv A outer s H E hr
    exact ⟨t, ht, body_rt (N := N) h fun G ds p hp => hq vs G ds p hp⟩
/-- one argument, one value -/
abbrev sp1 (K : PySem.W.Frag) (pre : PyData → Prop) (F : PyData → PyData) : Sp := spS K (fun ds => ∃ d, ds = [d] ∧ pre d) (fun ds d => d = F (ds.headD .none))
theorem cl_1 {x a : Str} {st : Stmt} {N : List Str} {k : Nat} {pre : PyData → Prop} {F : PyData → PyData} (D : DefAt K mg x st)
    (hb : ∀ (kV doc pm : Value) (an : Option Addr) (cdv ct : Value) (us : List Value), us.length = 1 → bindArgs (PySem.W.fnOf x x (defArgs st) (defBody st) (defScope st) .none kV doc pm an cdv ct) ⟨us, []⟩ = pure ([a].zip us))
    (Sc : FnScope N [a] (defScope st))
    (hbody : ∀ (f : Addr) (cdv : Value) (A : Around) (outer : List Env) (s : Shared) (H : Hp) (E : XK), Room k (A.deeper (envOfC x (defScope st) s.heap.objs.size f cdv)) →
      ∃ t, PSs (cxOf CX0 P w K mg base N x (defScope st) f cdv A outer s H E).nox (defBody st) t ∧ ∀ (v : V) (G : Hp) (d : PyData), Dp K G v d → pre d → Rt Same K t (L2.start N [v]) G (· = F d)) :
    Cl P w K mg base (k + 1) x (sp1 K pre F) := by
  refine cl_d (ps := [a]) D hb Sc (fun ds ⟨d, e, _⟩ => by rw [e]; rfl) fun f cdv A outer s H E hr => ?_
  obtain ⟨t, ht, hq⟩ := hbody f cdv A outer s H E hr
  refine ⟨t, ht, fun vs G ds p ⟨d, e, hp⟩ => ?_⟩
  subst e
  cases p with
  | cons p1 p2 =>
    cases p2
    exact hq _ G d p1 hp
end
section
variable {R : Hp → Hp → Prop} [Rl R] {K : PySem.W.Frag} {σ : L2.St} {G : Hp} {te : TE} {d : PyData}
theorem e_k1 {pre : PyData → Prop} {F : PyData → PyData} {E : XK} (h : EvS R K te σ G (· = d)) (k : pre d) : EvS R K (tCall (sp1 K pre F) [] E (tCons te tNil)) σ G (· = F d) :=
  (e_callS (a_one h a_nil) fun _ e => ⟨d, e, k⟩).imp fun d' ⟨es, e, e2⟩ => by rw [e2, e]; rfl
theorem e_all {n : Nat} {tl : TE} (p : Nat → Bool) (h : EvS R K tl σ G (· = .list ((List.range n).map fun i => .bool (p i)))) : EvS R K (tCB (rAll K) (tCons tl tNil)) σ G (· = .bool ((List.range n).all p)) := by
  refine e_cb1 (ds := [.list (((List.range n).map p).map .bool)]) (a_one (h.to ?_) a_nil) ?_
  · rw [List.map_map]
    rfl
  · have q := rc_all (R := R) (K := K) (G := G) (bs := (List.range n).map p)
    rw [List.all_map] at q
    exact q
theorem e_len {z : Nat} (h : EvS R K te σ G (· = d)) (k : (∃ es, d = .tuple es ∧ z = es.length) ∨ (∃ es, d = .list es ∧ z = es.length) ∨ (∃ s, d = .str s ∧ s.length ≤ 100000 ∧ z = s.length)) :
    EvS R K (tCB (fun xs H Q => ∃ x n, xs = [x] ∧ LenV K x H n ∧ Q (.int n) H) (tCons te tNil)) σ G (· = .int z) := by
  refine e_cb1 (ds := [d]) (a_one h a_nil) ?_
  rcases k with ⟨es, e, e2⟩ | ⟨es, e, e2⟩ | ⟨s, e, hs, e2⟩
  · subst e e2
    exact rc_lenT
  · subst e e2
    exact rc_lenL
  · subst e e2
    exact rc_lenStr hs
end

/-! ### data that is small enough -/
def fine : Nat → PyData → Bool
  | _, .none => true
  | _, .bool _ => true
  | _, .int i => decide (i.natAbs.log2 < 1920)
  | _, .str s => PyData.strOk s && decide (s.length ≤ 4000)
  | _, .dict _ => false
  | 0, .list _ => false
  | 0, .tuple _ => false
  | n + 1, .list ds => decide (ds.length ≤ 4000) && ds.all (fine n)
  | n + 1, .tuple ds => decide (ds.length ≤ 4000) && ds.all (fine n)
def Fine (d : PyData) : Prop := ∃ n, n ≤ 40 ∧ fine n d = true
theorem lay_all : ∀ {n : Nat} {ds : List PyData}, (∀ d ∈ ds, d.canLay0 = true ∧ d.depth ≤ n) → PyData.canLayAll0 ds = true ∧ PyData.depthAll ds ≤ n
  | n, [], _ => ⟨by simp [PyData.canLayAll0], by simp [PyData.depthAll]⟩
  | n, d :: ds, h => by
    obtain ⟨h1, h2⟩ := h d (List.mem_cons_self ..)
    obtain ⟨h3, h4⟩ := lay_all (ds := ds) fun e he => h e (List.mem_cons_of_mem _ he)
    exact ⟨by simp [PyData.canLayAll0, h1, h3], by simp only [PyData.depthAll]; omega⟩
theorem lay_fine : ∀ {n : Nat} {d : PyData}, fine n d = true → d.canLay0 = true ∧ d.depth ≤ n
  | n, .none, _ => ⟨by simp [PyData.canLay0], by simp [PyData.depth]⟩
  | n, .bool _, _ => ⟨by simp [PyData.canLay0], by simp [PyData.depth]⟩
  | n, .int _, _ => ⟨by simp [PyData.canLay0], by simp [PyData.depth]⟩
  | n, .str s, h => by
    have h : (PyData.strOk s && decide (s.length ≤ 4000)) = true := by cases n <;> exact h
    rw [Bool.and_eq_true] at h
    exact ⟨by simp [PyData.canLay0, h.1], by simp [PyData.depth]⟩
  | n, .dict _, h => by
    have h : false = true := by cases n <;> exact h
    cases h
  | 0, .list _, h => by
    have h : false = true := h
    cases h
  | 0, .tuple _, h => by
    have h : false = true := h
    cases h
  | n + 1, .list ds, h => by
    have h : (decide (ds.length ≤ 4000) && ds.all (fine n)) = true := h
    rw [Bool.and_eq_true, List.all_eq_true] at h
    obtain ⟨h1, h2⟩ := lay_all (n := n) fun d hd => lay_fine (h.2 d hd)
    exact ⟨by simp [PyData.canLay0, h1], by simp only [PyData.depth]; omega⟩
  | n + 1, .tuple ds, h => by
    have h : (decide (ds.length ≤ 4000) && ds.all (fine n)) = true := h
    rw [Bool.and_eq_true, List.all_eq_true] at h
    obtain ⟨h1, h2⟩ := lay_all (n := n) fun d hd => lay_fine (h.2 d hd)
    exact ⟨by simp [PyData.canLay0, h1], by simp only [PyData.depth]; omega⟩
theorem Fine.shaped {d : PyData} (h : Fine d) : SeqAt.shaped d = true := by
  obtain ⟨n, hn, h⟩ := h
  obtain ⟨h1, h2⟩ := lay_fine h
  unfold SeqAt.shaped
  rw [h1, Bool.true_and, decide_eq_true_eq]
  omega
theorem fine_str {n : Nat} {s : Str} (h : fine n (.str s) = true) : PyData.strOk s = true ∧ s.length ≤ 4000 := by
  have h : (PyData.strOk s && decide (s.length ≤ 4000)) = true := by cases n <;> exact h
  rw [Bool.and_eq_true, decide_eq_true_eq] at h
  exact h
theorem Fine.str {s : Str} (h : Fine (.str s)) : s.length ≤ 100000 := by
  obtain ⟨n, hn, h⟩ := h
  have := (fine_str h).2
  omega
theorem Fine.tup {ds : List PyData} (h : Fine (.tuple ds)) : ds.length ≤ 4000 ∧ ∀ d ∈ ds, Fine d := by
  obtain ⟨n, hn, h⟩ := h
  cases n with
  | zero =>
    have h : false = true := h
    cases h
  | succ n =>
    have h : (decide (ds.length ≤ 4000) && ds.all (fine n)) = true := h
    rw [Bool.and_eq_true, List.all_eq_true, decide_eq_true_eq] at h
    exact ⟨h.1, fun d hd => ⟨n, by omega, h.2 d hd⟩⟩
theorem sh_int (i : Int) : SeqAt.shaped (.int i) = true := by simp [SeqAt.shaped, PyData.canLay0, PyData.depth]
theorem sh_none : SeqAt.shaped .none = true := by simp [SeqAt.shaped, PyData.canLay0, PyData.depth]
theorem sh_str {s : Str} (h : PyData.strOk s = true) : SeqAt.shaped (.str s) = true := by simp [SeqAt.shaped, PyData.canLay0, PyData.depth, h]
theorem eqv_int (i j : Int) : PyData.eqv (.int i) (.int j) = (i == j) := by simp [PyData.eqv]
theorem eqv_str (i j : Str) : PyData.eqv (.str i) (.str j) = (i == j) := by simp [PyData.eqv]

/-! ### what the first module tells of data -/
def isIntD : PyData → Bool
  | .int _ => true
  | _ => false
def isNumD : PyData → Bool
  | .int i => decide (0 ≤ i)
  | _ => false
def nameOk (s : Str) : Bool := (decide ((1 : Int) ≤ (s.length : Int)) && decide ((s.length : Int) ≤ 8)) && s.cps.toList.all (fun c => decide (c ∈ letters.cps.toList))
def isNameD : PyData → Bool
  | .str s => nameOk s
  | _ => false
def isKindD : PyData → Bool
  | .str s => nameOk s || (s == "")
  | _ => false
def isPairD : PyData → Bool
  | .tuple ds => ((ds.length : Int) == 2)
  | _ => false
def isSortD : PyData → Bool
  | .str s => (["if", "loop"] : List Str).any (· == s)
  | .tuple [a, b] => PyData.eqv a (.str "fun") && isKindD b
  | _ => false
def rowRest (w : Str) (rest : List PyData) : Bool :=
  if (["end", "stop"] : List Str).any (· == w) then ((rest.length : Int) == 0)
  else if (["let", "use"] : List Str).any (· == w) then (match rest with | [a, b] => isNameD a && isNameD b | _ => false)
  else match rest with
    | [a] => if w == "open" then isSortD a else (w == "give") && isKindD a
    | _ => false
def isRowD : PyData → Bool
  | .tuple (.str w :: rest) => rowRest w rest
  | _ => false
def isTextD : PyData → Bool
  | .tuple ds => ds.all isRowD
  | _ => false
end K25
end
section
set_option maxRecDepth 100000
set_option maxHeartbeats 2000000
namespace K25
open PySem PySem.Spec PyProof.Rows L2
section
variable {P : Program} {w : World} {K : PySem.W.Frag} {mg : Str → Option Value} {base : Heap}
/-! ### the first module's defs -/
theorem noStr {X : Hp} {v : V} {d : PyData} (p : Dp K X v d) : (kitB (tyN d) "str" = some false ∧ isNameD d = false ∧ isKindD d = false ∧ (isSortD d = true → ∃ a b, d = .tuple [a, b])) ∨ ∃ z, d = .str z := by
  cases d with
  | none => exact .inl ⟨(by show kitB "NoneType" "str" = some _; decide +kernel), rfl, rfl, fun h => by cases h⟩
  | bool _ => exact .inl ⟨(by show kitB "bool" "str" = some _; decide +kernel), rfl, rfl, fun h => by cases h⟩
  | int _ => exact .inl ⟨(by show kitB "int" "str" = some _; decide +kernel), rfl, rfl, fun h => by cases h⟩
  | list _ => exact .inl ⟨(by show kitB "list" "str" = some _; decide +kernel), rfl, rfl, fun h => by cases h⟩
  | tuple ds =>
    refine .inl ⟨(by show kitB "tuple" "str" = some _; decide +kernel), rfl, rfl, fun h => ?_⟩
    match ds, h with
    | [a, b], _ => exact ⟨a, b, rfl⟩
  | dict _ => cases p
  | str z => exact .inr ⟨z, rfl⟩
theorem noTup {X : Hp} {v : V} {d : PyData} (p : Dp K X v d) : (kitB (tyN d) "tuple" = some false ∧ isPairD d = false ∧ isRowD d = false ∧ isTextD d = false) ∨ ∃ ds, d = .tuple ds := by
  cases d with
  | none => exact .inl ⟨(by show kitB "NoneType" "tuple" = some _; decide +kernel), rfl, rfl, rfl⟩
  | bool _ => exact .inl ⟨(by show kitB "bool" "tuple" = some _; decide +kernel), rfl, rfl, rfl⟩
  | int _ => exact .inl ⟨(by show kitB "int" "tuple" = some _; decide +kernel), rfl, rfl, rfl⟩
  | list _ => exact .inl ⟨(by show kitB "list" "tuple" = some _; decide +kernel), rfl, rfl, rfl⟩
  | str _ => exact .inl ⟨(by show kitB "str" "tuple" = some _; decide +kernel), rfl, rfl, rfl⟩
  | dict _ => cases p
  | tuple ds => exact .inr ⟨ds, rfl⟩
theorem sc_is_integer : FnScope ["thing"] ["thing"] (defScope s_is_integer) := ⟨rfl, rfl, rfl, by decide +kernel, rfl, by decide +kernel, by decide +kernel⟩
theorem cl_is_integer (T : Tx K mg) : Cl P w K mg base 1 "is_integer" (sp1 K (fun _ => True) (fun d => .bool (isIntD d))) := by
  refine cl_1 (a := "thing") T.d_is_integer (fun _ _ _ _ _ _ us hl => match us, hl with | [_], _ => rfl) sc_is_integer fun f cdv A outer s H E hr => ⟨_,
    (pss_one (ps_ret (pe_and (pe_callB call_isi rfl T.n_isinstance boot_isi (pa_cons (pv 0) (pa_cons (pe_bltn (v := .ty "int") rfl T.n_int boot_intT rfl) pa_nil))) (pe_one (pe_not (pe_callB call_isi rfl T.n_isinstance boot_isi (pa_cons (pv 0) (pa_cons (pe_bltn (v := .ty "bool") rfl T.n_bool boot_boolT rfl) pa_nil)))))))), fun v G d p _ => ?_⟩
  obtain ⟨a, b, h1, h2, e⟩ : ∃ a b : Bool, kitB (tyN d) "int" = some a ∧ kitB (tyN d) "bool" = some b ∧ (a && !b) = isIntD d := by
    cases d with
    | none => exact ⟨false, false, (by show kitB "NoneType" "int" = some _; decide +kernel), (by show kitB "NoneType" "bool" = some _; decide +kernel), rfl⟩
    | bool _ => exact ⟨true, true, (by show kitB "bool" "int" = some _; decide +kernel), (by show kitB "bool" "bool" = some _; decide +kernel), rfl⟩
    | int _ => exact ⟨true, false, (by show kitB "int" "int" = some _; decide +kernel), (by show kitB "int" "bool" = some _; decide +kernel), rfl⟩
    | str _ => exact ⟨false, false, (by show kitB "str" "int" = some _; decide +kernel), (by show kitB "str" "bool" = some _; decide +kernel), rfl⟩
    | list _ => exact ⟨false, false, (by show kitB "list" "int" = some _; decide +kernel), (by show kitB "list" "bool" = some _; decide +kernel), rfl⟩
    | tuple _ => exact ⟨false, false, (by show kitB "tuple" "int" = some _; decide +kernel), (by show kitB "tuple" "bool" = some _; decide +kernel), rfl⟩
    | dict _ => cases p
  exact rt_ret ((e_and (e_isi (e_var rfl p) h1) fun _ => e_not (e_isi (e_var rfl p) h2)).to (by rw [e]))
theorem sc_is_number : FnScope ["thing"] ["thing"] (defScope s_is_number) := ⟨rfl, rfl, rfl, by decide +kernel, rfl, by decide +kernel, by decide +kernel⟩
theorem cl_is_number (T : Tx K mg) : Cl P w K mg base 2 "is_number" (sp1 K (fun _ => True) (fun d => .bool (isNumD d))) := by
  refine cl_1 (a := "thing") T.d_is_number (fun _ _ _ _ _ _ us hl => match us, hl with | [_], _ => rfl) sc_is_number fun f cdv A outer s H E hr => ⟨_,
    (pss_one (ps_ret (pe_and (pe_k (cl_is_integer T) hr (by decide) rfl (pa_cons (pv 0) pa_nil)) (pe_one (pe_cmpR op_ge (pv 0) pe_int (nomark _)))))), fun v G d p _ => ?_⟩
  refine rt_ret ((e_and (b := isNumD d) (e_k1 (e_var rfl p) trivial) fun hi => ?_).to ?_)
  · cases d with
    | int i => exact e_op1 (e_var rfl p) e_int (rs_I0 fun _ => .bl _)
    | _ => cases hi
  · cases d with
    | int i => rfl
    | _ => rfl
theorem sc_is_name : FnScope ["thing", "sign"] ["thing"] (defScope s_is_name) := ⟨rfl, rfl, rfl, by decide +kernel, rfl, by decide +kernel, by decide +kernel⟩
theorem all_signs (z : Str) : (List.range z.cps.size).all (fun i => decide (z.cps.toList.getD i 0 ∈ letters.cps.toList)) = z.cps.toList.all (fun c => decide (c ∈ letters.cps.toList)) := by
  rw [Bool.eq_iff_iff, List.all_eq_true, List.all_eq_true]
  constructor
  · intro h c hc
    obtain ⟨i, hi, e⟩ := List.getElem_of_mem hc
    have := h i (List.mem_range.mpr (by simpa using hi))
    rw [List.getD_eq_getElem?_getD, List.getElem?_eq_getElem hi, e] at this
    exact this
  · intro h i hi
    have hi : i < z.cps.toList.length := by simpa using List.mem_range.mp hi
    rw [List.getD_eq_getElem?_getD, List.getElem?_eq_getElem hi]
    exact h _ (List.getElem_mem hi)
theorem cl_is_name (T : Tx K mg) : Cl P w K mg base 1 "is_name" (sp1 K Fine (fun d => .bool (isNameD d))) := by
  obtain ⟨tL, hL⟩ := T.c_LETTERS
  obtain ⟨tM, hM⟩ := T.c_MOST_LETTERS
  refine cl_1 (a := "thing") T.d_is_name (fun _ _ _ _ _ _ us hl => match us, hl with | [_], _ => rfl) sc_is_name fun f cdv A outer s H E hr => ⟨_,
    (pss_cons (ps_if (PW.pt (pw_or (pt_not (pt_val (pe_callB call_isi rfl T.n_isinstance boot_isi (pa_cons (pv 0) (pa_cons (pe_bltn (v := .ty "str") rfl T.n_str boot_strT rfl) pa_nil))))) (pw_or1 (pt_not (pt_chain op_le op_le pe_int (pe_callB call_len rfl T.n_len PySem.boot_len (pa_cons (pv 0) pa_nil)) (pe_glob (v := .int 8) rfl hM ⟨_, rfl⟩)))))) (pss_one (ps_ret pe_bl)) pss_nil) (pss_one (ps_ret (pe_callB (cr_all rfl) rfl T.n_all boot_allB (pa_cons (pe_lc (own := [("sign", 1)]) rfl sc_is_name.nd (pi_str (pv 0)) (blkOk_by (N := ["thing", "sign"]) (sc := defScope s_is_name) (by decide +kernel)) (fun _ _ _ _ _ => (pg_name (i := 1) sc_is_name.nd rfl (Or.inl rfl))) (fun _ _ _ _ _ => pts_nil) (fun _ _ _ _ _ => (pe_cmpR op_in_sign (pv 1) (pe_glob (v := .str letters) rfl hL ⟨_, rfl⟩) rfl))) pa_nil))))), fun v G d p hd => ?_⟩
  rcases noStr p with ⟨h1, e, _⟩ | ⟨z, rfl⟩
  · exact rt_if (Sb := (· = true)) (t_or (b := false) (t_not (t_B (e_isi (e_var rfl p) h1))) fun h => by cases h) (fun _ => rt_ret (e_bl.to (by rw [e]))) fun h => by cases h
  · have hz := hd.str
    refine rt_if (t_or (t_not (t_B (e_isi (e_var rfl p) (by decide +kernel : kitB "str" "str" = some true)))) fun _ => t_not (t_test (e_chain e_int (e_len (e_var rfl p) (.inr (.inr ⟨z, rfl, hz, rfl⟩))) (rs_I0 fun _ => .bl _) e_int (rs_I0 fun _ => .bl _)))) (fun h => rt_ret (e_bl.to ?_)) fun h => rt_ret ?_
    · have h : true = (!true || !(decide ((1 : Int) ≤ (z.length : Int)) && decide ((z.length : Int) ≤ 8))) := h
      show PyData.bool false = PyData.bool (nameOk z)
      unfold nameOk
      rw [Bool.not_true, Bool.false_or] at h
      rw [show (decide ((1 : Int) ≤ (z.length : Int)) && decide ((z.length : Int) ≤ 8)) = false from (Bool.not_eq_true' _).mp h.symm]
      rfl
    · have h : false = (!true || !(decide ((1 : Int) ≤ (z.length : Int)) && decide ((z.length : Int) ≤ 8))) := h
      rw [Bool.not_true, Bool.false_or] at h
      refine (e_all (n := z.cps.size) (fun i => decide (z.cps.toList.getD i 0 ∈ letters.cps.toList)) (e_lcMap (n := z.cps.size) _ (it_str (e_var rfl p)) hz fun i d x G' hG sd px => ?_)).to ?_
      · obtain ⟨c, e1, e2⟩ := sd
        subst e2
        refine ⟨_, b_name, rfl, (e_op1 (e_var rfl px) e_str rs_inS).to ?_⟩
        have e3 : z.cps.toList.getD i 0 = c := by
          rw [List.getD_eq_getElem?_getD, Array.getElem?_toList, e1]
          rfl
        rw [e3]
      · rw [all_signs]
        show _ = PyData.bool (nameOk z)
        unfold nameOk
        rw [show (decide ((1 : Int) ≤ (z.length : Int)) && decide ((z.length : Int) ≤ 8)) = true from (Bool.not_eq_false' _).mp h.symm, Bool.true_and]
theorem sc_is_kind : FnScope ["thing"] ["thing"] (defScope s_is_kind) := ⟨rfl, rfl, rfl, by decide +kernel, rfl, by decide +kernel, by decide +kernel⟩
theorem cl_is_kind (T : Tx K mg) : Cl P w K mg base 2 "is_kind" (sp1 K Fine (fun d => .bool (isKindD d))) := by
  refine cl_1 (a := "thing") T.d_is_kind (fun _ _ _ _ _ _ us hl => match us, hl with | [_], _ => rfl) sc_is_kind fun f cdv A outer s H E hr => ⟨_,
    (pss_one (ps_ret (pe_or (pe_k (cl_is_name T) hr (by decide) rfl (pa_cons (pv 0) pa_nil)) (pe_one (pe_and (pe_callB call_isi rfl T.n_isinstance boot_isi (pa_cons (pv 0) (pa_cons (pe_bltn (v := .ty "str") rfl T.n_str boot_strT rfl) pa_nil))) (pe_one (pe_cmpR (op_eqD hr.units) (pv 0) pe_str (nomark _)))))))), fun v G d p hd => ?_⟩
  rcases noStr p with ⟨h1, e, e2, _⟩ | ⟨z, rfl⟩
  · exact rt_ret ((e_or (a := isNameD d) (e_k1 (e_var rfl p) hd) fun _ => e_and (b := false) (e_isi (e_var rfl p) h1) fun h => by cases h).to (by rw [e, e2]; rfl))
  · refine rt_ret ((e_or (e_k1 (e_var rfl p) hd) fun _ => e_and (e_isi (e_var rfl p) (by decide +kernel : kitB "str" "str" = some true)) fun _ => e_op1 (e_var rfl p) e_str (rs_eq hd.shaped (sh_str (by decide +kernel)))).to ?_)
    rw [eqv_str]
    rfl
theorem sc_is_pair : FnScope ["thing"] ["thing"] (defScope s_is_pair) := ⟨rfl, rfl, rfl, by decide +kernel, rfl, by decide +kernel, by decide +kernel⟩
theorem cl_is_pair (T : Tx K mg) : Cl P w K mg base 1 "is_pair" (sp1 K (fun _ => True) (fun d => .bool (isPairD d))) := by
  refine cl_1 (a := "thing") T.d_is_pair (fun _ _ _ _ _ _ us hl => match us, hl with | [_], _ => rfl) sc_is_pair fun f cdv A outer s H E hr => ⟨_,
    (pss_one (ps_ret (pe_and (pe_callB call_isi rfl T.n_isinstance boot_isi (pa_cons (pv 0) (pa_cons (pe_bltn (v := .ty "tuple") rfl T.n_tuple boot_tupleT rfl) pa_nil))) (pe_one (pe_cmpR (op_eqD hr.units) (pe_callB call_len rfl T.n_len PySem.boot_len (pa_cons (pv 0) pa_nil)) pe_int (nomark _)))))), fun v G d p hd => ?_⟩
  rcases noTup p with ⟨h1, e, _⟩ | ⟨ds, rfl⟩
  · exact rt_ret ((e_and (b := false) (e_isi (e_var rfl p) h1) fun h => by cases h).to (by rw [e]; rfl))
  · refine rt_ret ((e_and (e_isi (e_var rfl p) (by decide +kernel : kitB "tuple" "tuple" = some true)) fun _ => e_op1 (e_len (e_var rfl p) (.inl ⟨ds, rfl, rfl⟩)) e_int (rs_eq (sh_int _) (sh_int _))).to ?_)
    rw [eqv_int]
    rfl
end
end K25
end
section
set_option maxRecDepth 100000
set_option maxHeartbeats 2000000
namespace K25
open PySem PySem.Spec PyProof.Rows L2
abbrev rLenD (K : PySem.W.Frag) : List V → Hp → VK → Prop := fun xs H Q => ∃ x n, xs = [x] ∧ LenV K x H n ∧ Q (.int n) H
theorem cutD_from (es : List PyData) (k : Nat) : cutD es (some (k : Int)) none = es.drop k := by
  unfold cutD
  rw [HT.sIx_nat, HT.sIx_none]
  by_cases h : k ≤ es.length
  · rw [Nat.min_eq_left h, List.take_of_length_le (by rw [List.length_drop]; exact Nat.le_refl _)]
  · have h : es.length ≤ k := by omega
    rw [Nat.min_eq_right h, List.drop_of_length_le h, List.drop_of_length_le (Nat.le_refl _)]
    simp
theorem e_sl1 {R : Hp → Hp → Prop} [Rl R] {K : PySem.W.Frag} {σ : L2.St} {G : Hp} {te : TE} {es fs : List PyData} (h : EvS R K te σ G (· = .tuple es)) (e : es.drop 1 = fs) : EvS R K (tSl (rSlA K) te (tPart (tC (.int 1))) tNoPart) σ G (· = .tuple fs) :=
  (e_slT h (o_some (K := K) e_int) o_none).imp fun d ⟨lo, hi, e1, e2, e3⟩ => by
    rw [e3, e1, e2, show (1 : Int) = ((1 : Nat) : Int) from rfl, cutD_from, e]
theorem pair_of {ds : List PyData} (h : isPairD (.tuple ds) = true) : ∃ a b, ds = [a, b] := by
  have h : ((ds.length : Int) == 2) = true := h
  rw [beq_iff_eq] at h
  match ds, h with
  | [a, b], _ => exact ⟨a, b, rfl⟩
theorem pair_tup {d : PyData} (h : isPairD d = true) : ∃ a b, d = .tuple [a, b] := by
  cases d with
  | tuple ds =>
    obtain ⟨a, b, e⟩ := pair_of h
    exact ⟨a, b, by rw [e]⟩
  | _ => cases h
def restLet : List PyData → Bool
  | [a, b] => isNameD a && isNameD b
  | _ => false
def restOne (w : Str) : List PyData → Bool
  | [a] => if w == "open" then isSortD a else (w == "give") && isKindD a
  | _ => false
theorem rowRest_eq (w : Str) (rest : List PyData) : rowRest w rest = if (["end", "stop"] : List Str).any (· == w) then ((rest.length : Int) == 0) else if (["let", "use"] : List Str).any (· == w) then restLet rest else restOne w rest := by
  unfold rowRest
  split
  · rfl
  · split
    · match rest with
      | [] => rfl
      | [a] => rfl
      | [a, b] => rfl
      | a :: b :: c :: r => rfl
    · match rest with
      | [] => rfl
      | [a] => rfl
      | [a, b] => rfl
      | a :: b :: c :: r => rfl
theorem all_range {p : PyData → Bool} : ∀ ds : List PyData, (List.range ds.length).all (fun i => p (ds.getD i .none)) = ds.all p
  | [] => rfl
  | d :: ds => by
    rw [List.length_cons, List.range_succ_eq_map, List.all_cons, List.all_map, List.all_cons, ← all_range ds]
    rfl
theorem getD_of {ds : List PyData} {i : Nat} {d : PyData} (h : ds[i]? = some d) : ds.getD i .none = d := by
  rw [List.getD_eq_getElem?_getD, h]
  rfl
def ltD : PyData → PyData → Bool
  | .int i, .int j => decide (i < j)
  | _, _ => false
def isGapsD : PyData → Bool
  | .tuple ds => ds.all isNumD && (List.range (min ds.length (ds.length - 1))).all (fun i => ltD (ds.getD i .none) (ds.getD (i + 1) .none))
  | _ => false
def fstD : PyData → PyData
  | .tuple [g, _] => g
  | _ => .none
def wayEntry : PyData → Bool
  | .tuple [_, .tuple r] => isTextD (.tuple r) && decide ((0 : Int) < (r.length : Int))
  | _ => false
def isWayD : PyData → Bool
  | .tuple ds => ds.all isPairD && (ds.all wayEntry && isGapsD (.tuple (ds.map fstD)))
  | _ => false
section
variable {P : Program} {w : World} {K : PySem.W.Frag} {mg : Str → Option Value} {base : Heap}
theorem sc_is_sort : FnScope ["thing"] ["thing"] (defScope s_is_sort) := ⟨rfl, rfl, rfl, by decide +kernel, rfl, by decide +kernel, by decide +kernel⟩
theorem cl_is_sort (T : Tx K mg) : Cl P w K mg base 3 "is_sort" (sp1 K Fine (fun d => .bool (isSortD d))) := by
  refine cl_1 (a := "thing") T.d_is_sort (fun _ _ _ _ _ _ us hl => match us, hl with | [_], _ => rfl) sc_is_sort fun f cdv A outer s H E hr => ⟨_,
    (pss_cons (ps_if (pt_val (pe_callB call_isi rfl T.n_isinstance boot_isi (pa_cons (pv 0) (pa_cons (pe_bltn (v := .ty "str") rfl T.n_str boot_strT rfl) pa_nil)))) (pss_one (ps_ret (pe_cmpR op_in_seq (pv 0) (pe_tup (pa_cons pe_str (pa_cons pe_str pa_nil))) rfl))) pss_nil) (pss_one (ps_ret (pe_and (pe_k (cl_is_pair T) hr (by decide) rfl (pa_cons (pv 0) pa_nil)) (pe_and (pe_cmpR (op_eqD hr.units) (pe_ix ix_tup (pv 0) pe_int (fun _ _ => rfl)) pe_str (nomark _)) (pe_one (pe_k (cl_is_kind T) hr (by decide) rfl (pa_cons (pe_ix ix_tup (pv 0) pe_int (fun _ _ => rfl)) pa_nil)))))))), fun v G d p hd => ?_⟩
  rcases noStr p with ⟨h1, _, _, h2⟩ | ⟨z, rfl⟩
  · refine rt_if (Sb := (· = false)) (t_B (e_isi (e_var rfl p) h1)) (fun h => by cases h) fun _ => rt_ret ?_
    refine (e_and (a := isPairD d) (b := isSortD d) (e_k1 (e_var rfl p) trivial) fun hp => ?_).to ?_
    · obtain ⟨a, b, e⟩ := pair_tup hp
      subst e
      have ha : Fine a := hd.tup.2 a (by simp)
      have hb : Fine b := hd.tup.2 b (by simp)
      exact e_and (e_op1 (e_op1 (e_var rfl p) e_int (rs_ixT (d := a) rfl)) e_str (rs_eq ha.shaped (sh_str (by decide +kernel)))) fun _ => e_k1 (e_op1 (e_var rfl p) e_int (rs_ixT (d := b) rfl)) hb
    · cases hs : isSortD d with
      | false => rw [Bool.and_false]
      | true =>
        obtain ⟨a, b, e⟩ := h2 hs
        subst e
        rfl
  · refine rt_if (Sb := (· = true)) (t_B (e_isi (e_var rfl p) (by decide +kernel : kitB "str" "str" = some true))) (fun _ => rt_ret ?_) fun h => by cases h
    exact e_op1 (e_var rfl p) (e_tup1 (a_one e_str (a_one e_str a_nil)) (by decide)) (rs_inT (zs := ["if", "loop"]))
theorem sc_is_row : FnScope ["thing", "word", "rest"] ["thing"] (defScope s_is_row) := ⟨rfl, rfl, rfl, by decide +kernel, rfl, by decide +kernel, by decide +kernel⟩
theorem cl_is_row (T : Tx K mg) : Cl P w K mg base 4 "is_row" (sp1 K Fine (fun d => .bool (isRowD d))) := by
  refine cl_1 (a := "thing") T.d_is_row (fun _ _ _ _ _ _ us hl => match us, hl with | [_], _ => rfl) sc_is_row fun f cdv A outer s H E hr => ⟨_,
    (pss_cons (ps_if (PW.pt (pw_or (pt_not (pt_val (pe_callB call_isi rfl T.n_isinstance boot_isi (pa_cons (pv 0) (pa_cons (pe_bltn (v := .ty "tuple") rfl T.n_tuple boot_tupleT rfl) pa_nil))))) (pw_or (pt_cmpR (op_eqD hr.units) (pe_callB call_len rfl T.n_len PySem.boot_len (pa_cons (pv 0) pa_nil)) pe_int (nomark _)) (pw_or1 (pt_not (pt_val (pe_callB call_isi rfl T.n_isinstance boot_isi (pa_cons (pe_ix ix_tup (pv 0) pe_int (fun _ _ => rfl)) (pa_cons (pe_bltn (v := .ty "str") rfl T.n_str boot_strT rfl) pa_nil))))))))) (pss_one (ps_ret pe_bl)) pss_nil) (pss_cons (ps_par (i := 1) (j := 2) rfl sc_is_row.nd rfl rfl (by decide) rfl rfl (pa_cons (pe_ix ix_tup (pv 0) pe_int (fun _ _ => rfl)) (pa_cons (pe_slice sl_tupA (pv 0) (po_some pe_int) po_none) pa_nil)) rfl) (pss_cons (ps_if (pt_cmpR op_in_seq (pv 1) (pe_tup (pa_cons pe_str (pa_cons pe_str pa_nil))) rfl) (pss_one (ps_ret (pe_cmpR (op_eqD hr.units) (pe_callB call_len rfl T.n_len PySem.boot_len (pa_cons (pv 2) pa_nil)) pe_int (nomark _)))) pss_nil) (pss_cons (ps_if (pt_cmpR op_in_seq (pv 1) (pe_tup (pa_cons pe_str (pa_cons pe_str pa_nil))) rfl) (pss_one (ps_ret (pe_and (pe_cmpR (op_eqD hr.units) (pe_callB call_len rfl T.n_len PySem.boot_len (pa_cons (pv 2) pa_nil)) pe_int (nomark _)) (pe_and (pe_k (cl_is_name T) hr (by decide) rfl (pa_cons (pe_ix ix_tup (pv 2) pe_int (fun _ _ => rfl)) pa_nil)) (pe_one (pe_k (cl_is_name T) hr (by decide) rfl (pa_cons (pe_ix ix_tup (pv 2) pe_int (fun _ _ => rfl)) pa_nil))))))) pss_nil) (pss_cons (ps_if (pt_cmpR (op_neD hr.units) (pe_callB call_len rfl T.n_len PySem.boot_len (pa_cons (pv 2) pa_nil)) pe_int (nomark _)) (pss_one (ps_ret pe_bl)) pss_nil) (pss_one (ps_ret (pe_ifExp (pt_cmpR (op_eqD hr.units) (pv 1) pe_str (nomark _)) (pe_k (cl_is_sort T) hr (by decide) rfl (pa_cons (pe_ix ix_tup (pv 2) pe_int (fun _ _ => rfl)) pa_nil)) (pe_and (pe_cmpR (op_eqD hr.units) (pv 1) pe_str (nomark _)) (pe_one (pe_k (cl_is_kind T) hr (by decide) rfl (pa_cons (pe_ix ix_tup (pv 2) pe_int (fun _ _ => rfl)) pa_nil)))))))))))), fun v G d p hd => ?_⟩
  rcases noTup p with ⟨h1, _, e, _⟩ | ⟨ds, rfl⟩
  · exact rt_if (Sb := (· = true)) (t_or (b := false) (t_not (t_B (e_isi (e_var rfl p) h1))) fun h => by cases h) (fun _ => rt_ret (e_bl.to (by rw [e]))) fun h => by cases h
  · have ht : EvT Same (tNot (tB (tCB (rIsi K) (tCons (tVar 0) (tCons (tC (.ty "tuple")) tNil))))) (L2.start ["thing", "word", "rest"] [v]) G (· = !true) := t_not (t_B (e_isi (e_var rfl p) (by decide +kernel : kitB "tuple" "tuple" = some true)))
    cases ds with
    | nil =>
      have hne : EvT Same (tTest (tOp (rEqD K) (tCB (rLenD K) (tCons (tVar 0) tNil)) (tC (.int 0)))) (L2.start ["thing", "word", "rest"] [v]) G (· = true) := (t_test (e_op1 (e_len (e_var rfl p) (.inl ⟨[], rfl, rfl⟩)) e_int (rs_eq (sh_int _) (sh_int _)))).imp fun b e => by
        rw [e, eqv_int]
        rfl
      exact rt_if (Sb := (· = true)) (t_or (b := true) ht fun _ => t_or (b := false) hne fun h => by cases h) (fun _ => rt_ret e_bl) fun h => by cases h
    | cons a rest =>
      have ha : Fine a := hd.tup.2 a (by simp)
      have hne : EvT Same (tTest (tOp (rEqD K) (tCB (rLenD K) (tCons (tVar 0) tNil)) (tC (.int 0)))) (L2.start ["thing", "word", "rest"] [v]) G (· = false) := (t_test (e_op1 (e_len (e_var rfl p) (.inl ⟨a :: rest, rfl, rfl⟩)) e_int (rs_eq (sh_int _) (sh_int _)))).imp fun b e => by
        rw [e, eqv_int, beq_eq_false_iff_ne, List.length_cons]
        omega
      have h0 : EvS Same K (tOp (rIxT K) (tVar 0) (tC (.int 0))) (L2.start ["thing", "word", "rest"] [v]) G (· = a) := e_op1 (e_var rfl p) e_int (rs_ixT (i := 0) (es := a :: rest) (d := a) (show atI (a :: rest) ((0 : Nat) : Int) = some a from atI_nat rfl))
      have haS : ∃ b, kitB (tyN a) "str" = some b ∧ (b = false → isRowD (.tuple (a :: rest)) = false) ∧ (b = true → ∃ z, a = .str z) := by
        cases a with
        | none => exact ⟨false, (by show kitB "NoneType" "str" = some _; decide +kernel), fun _ => rfl, fun h => by cases h⟩
        | bool _ => exact ⟨false, (by show kitB "bool" "str" = some _; decide +kernel), fun _ => rfl, fun h => by cases h⟩
        | int _ => exact ⟨false, (by show kitB "int" "str" = some _; decide +kernel), fun _ => rfl, fun h => by cases h⟩
        | list _ => exact ⟨false, (by show kitB "list" "str" = some _; decide +kernel), fun _ => rfl, fun h => by cases h⟩
        | tuple _ => exact ⟨false, (by show kitB "tuple" "str" = some _; decide +kernel), fun _ => rfl, fun h => by cases h⟩
        | dict _ => exact absurd ha.shaped (by simp [SeqAt.shaped, PyData.canLay0])
        | str z => exact ⟨true, (by show kitB "str" "str" = some _; decide +kernel), (fun h => by cases h), (fun _ => ⟨z, rfl⟩)⟩
      obtain ⟨b, hk, hf, hz⟩ := haS
      refine rt_if (t_or ht fun _ => t_or hne fun _ => t_not (t_B (e_isi h0 hk))) (fun h => rt_ret (e_bl.to ?_)) fun h => ?_
      · cases b with
        | true => cases h
        | false => rw [hf rfl]
      · cases b with
        | false => cases h
        | true =>
          obtain ⟨z, rfl⟩ := hz rfl
          have hzs := ha.shaped
          refine rt_par (Sl := fun d e => d = .str z ∧ e = .tuple rest) ((a_one h0 (a_one (d := .tuple rest) (e_sl1 (e_var rfl p) rfl) a_nil)).imp fun ds e => ⟨.str z, .tuple rest, e, rfl, rfl⟩) fun v1 v2 d1 d2 G' hG e p1 p2 => ?_
          · obtain ⟨e1, e2⟩ := e
            subst e1 e2
            have hr' : ∀ d ∈ rest, Fine d := fun d hm => hd.tup.2 d (List.mem_cons_of_mem _ hm)
            show Rt Same K _ [some v, some v1, some v2] G' _
            have hlen : EvS Same K (tCB (rLenD K) (tCons (tVar 2) tNil)) [some v, some v1, some v2] G' (· = .int rest.length) := e_len (e_var rfl p2) (.inl ⟨rest, rfl, rfl⟩)
            have ix : ∀ (i : Nat) (a : PyData), rest[i]? = some a → EvS Same K (tOp (rIxT K) (tVar 2) (tC (.int i))) [some v, some v1, some v2] G' (· = a) := fun i a h => e_op1 (e_var rfl p2) e_int (rs_ixT (atI_nat h))
            refine rt_if (t_test (e_op1 (e_var rfl p1) (e_tup1 (a_one e_str (a_one e_str a_nil)) (by decide)) (rs_inT (zs := ["end", "stop"])))) (fun h => rt_ret ((e_op1 hlen e_int (rs_eq (sh_int _) (sh_int _))).to ?_)) fun h => ?_
            · have h : true = (["end", "stop"] : List Str).any (· == z) := h
              show _ = PyData.bool (rowRest z rest)
              rw [eqv_int, rowRest_eq, ← h]
              rfl
            have h1 : (["end", "stop"] : List Str).any (· == z) = false := Eq.symm h
            refine rt_if (t_test (e_op1 (e_var rfl p1) (e_tup1 (a_one e_str (a_one e_str a_nil)) (by decide)) (rs_inT (zs := ["let", "use"])))) (fun h => rt_ret ?_) fun h => ?_
            · have h2 : (["let", "use"] : List Str).any (· == z) = true := Eq.symm h
              refine (e_and (b := restLet rest) (e_op1 hlen e_int (rs_eq (sh_int _) (sh_int _))) fun hl => ?_).to ?_
              · rw [eqv_int, beq_iff_eq] at hl
                match rest, hl with
                | [a1, a2], _ => exact e_and (e_k1 (ix 0 a1 rfl) (hr' a1 (by simp))) fun _ => e_k1 (ix 1 a2 rfl) (hr' a2 (by simp))
              · show _ = PyData.bool (rowRest z rest)
                rw [eqv_int, rowRest_eq, h1, h2]
                match rest with
                | [] => rfl
                | [a] => rfl
                | [a, b] => rfl
                | a :: b :: c :: r =>
                  show PyData.bool (_ && false) = PyData.bool false
                  rw [Bool.and_false]
            have h2 : (["let", "use"] : List Str).any (· == z) = false := Eq.symm h
            have hR : isRowD (.tuple (.str z :: rest)) = restOne z rest := by
              show rowRest z rest = _
              rw [rowRest_eq, h1, h2]
              rfl
            rw [hR]
            refine rt_if (t_test (e_op1 hlen e_int (rs_ne (sh_int _) (sh_int _)))) (fun h => rt_ret (e_bl.to ?_)) fun h => rt_ret ?_
            · have h : true = !PyData.eqv (.int rest.length) (.int 1) := h
              rw [eqv_int] at h
              match rest, h with
              | [], _ => rfl
              | a :: b :: r, _ => rfl
              | [a], h => cases h
            · have h : false = !PyData.eqv (.int rest.length) (.int 1) := h
              have h : ((rest.length : Int) == 1) = true := by
                rw [eqv_int] at h
                exact (Bool.not_eq_false' _).mp h.symm
              rw [beq_iff_eq] at h
              match rest, h with
              | [a1], _ =>
                refine e_if (t_test (e_op1 (e_var rfl p1) e_str (rs_eq hzs (sh_str (by decide +kernel))))) (fun h => ?_) fun h => ?_
                · have h : true = PyData.eqv (.str z) (.str "open") := h
                  rw [eqv_str] at h
                  refine (e_k1 (ix 0 a1 rfl) (hr' a1 (by simp))).to ?_
                  show _ = PyData.bool (if (z == "open") = true then isSortD a1 else (z == "give") && isKindD a1)
                  rw [← h]
                  rfl
                · have h : false = PyData.eqv (.str z) (.str "open") := h
                  rw [eqv_str] at h
                  refine (e_and (e_op1 (e_var rfl p1) e_str (rs_eq hzs (sh_str (by decide +kernel)))) fun _ => e_k1 (ix 0 a1 rfl) (hr' a1 (by simp))).to ?_
                  show _ = PyData.bool (if (z == "open") = true then isSortD a1 else (z == "give") && isKindD a1)
                  rw [← h, eqv_str]
                  rfl
theorem sc_is_text : FnScope ["thing", "row"] ["thing"] (defScope s_is_text) := ⟨rfl, rfl, rfl, by decide +kernel, rfl, by decide +kernel, by decide +kernel⟩
theorem cl_is_text (T : Tx K mg) : Cl P w K mg base 5 "is_text" (sp1 K Fine (fun d => .bool (isTextD d))) := by
  refine cl_1 (a := "thing") T.d_is_text (fun _ _ _ _ _ _ us hl => match us, hl with | [_], _ => rfl) sc_is_text fun f cdv A outer s H E hr => ⟨_,
    (pss_one (ps_ret (pe_and (pe_callB call_isi rfl T.n_isinstance boot_isi (pa_cons (pv 0) (pa_cons (pe_bltn (v := .ty "tuple") rfl T.n_tuple boot_tupleT rfl) pa_nil))) (pe_one (pe_callB (cr_all rfl) rfl T.n_all boot_allB (pa_cons (pe_lc (own := [("row", 1)]) rfl sc_is_text.nd (pi_tup (pv 0)) (blkOk_by (N := ["thing", "row"]) (sc := defScope s_is_text) (by decide +kernel)) (fun _ _ _ _ _ => (pg_name (i := 1) sc_is_text.nd rfl (Or.inl rfl))) (fun _ _ _ _ _ => pts_nil) (fun _ _ _ _ _ => (pe_k (cl_is_row T) hr (by decide) rfl (pa_cons (pv 1) pa_nil)))) pa_nil)))))), fun v G d p hd => ?_⟩
  rcases noTup p with ⟨h1, _, _, e⟩ | ⟨ds, rfl⟩
  · exact rt_ret ((e_and (b := false) (e_isi (e_var rfl p) h1) fun h => by cases h).to (by rw [e]; rfl))
  · refine rt_ret ((e_and (e_isi (e_var rfl p) (by decide +kernel : kitB "tuple" "tuple" = some true)) fun _ => e_all (n := ds.length) (fun i => isRowD (ds.getD i .none)) (e_lcMap (n := ds.length) _ (it_tup (e_var rfl p)) (by have := hd.tup.1; omega) fun i d x G' hG sd px => ⟨_, b_name, rfl, ?_⟩)).to ?_)
    · rw [getD_of sd]
      exact e_k1 (e_var rfl px) (hd.tup.2 d (List.mem_of_getElem? sd))
    · rw [all_range]
      rfl
theorem sc_is_gaps : FnScope ["thing", "one", "other"] ["thing"] (defScope s_is_gaps) := ⟨rfl, rfl, rfl, by decide +kernel, rfl, by decide +kernel, by decide +kernel⟩
theorem cl_is_gaps (T : Tx K mg) : Cl P w K mg base 3 "is_gaps" (sp1 K (fun d => ∀ ds, d = .tuple ds → ds.length ≤ 4000) (fun d => .bool (isGapsD d))) := by
  refine cl_1 (a := "thing") T.d_is_gaps (fun _ _ _ _ _ _ us hl => match us, hl with | [_], _ => rfl) sc_is_gaps fun f cdv A outer s H E hr => ⟨_,
    (pss_cons (ps_if (PW.pt (pw_or (pt_not (pt_val (pe_callB call_isi rfl T.n_isinstance boot_isi (pa_cons (pv 0) (pa_cons (pe_bltn (v := .ty "tuple") rfl T.n_tuple boot_tupleT rfl) pa_nil))))) (pw_or1 (pt_not (pt_val (pe_callB (cr_all rfl) rfl T.n_all boot_allB (pa_cons (pe_lc (own := [("one", 1)]) rfl sc_is_gaps.nd (pi_tup (pv 0)) (blkOk_by (N := ["thing", "one", "other"]) (sc := defScope s_is_gaps) (by decide +kernel)) (fun _ _ _ _ _ => (pg_name (i := 1) sc_is_gaps.nd rfl (Or.inl rfl))) (fun _ _ _ _ _ => pts_nil) (fun _ _ _ _ _ => (pe_k (cl_is_number T) hr (by decide) rfl (pa_cons (pv 1) pa_nil)))) pa_nil))))))) (pss_one (ps_ret pe_bl)) pss_nil) (pss_one (ps_ret (pe_callB (cr_all rfl) rfl T.n_all boot_allB (pa_cons (pe_lc (own := [("one", 1), ("other", 2)]) (g := gTup K 2 (gCons (gName 1) (gCons (gName 2) gNil))) rfl sc_is_gaps.nd (RZ.pi_zipA (by rfl) T.n_zip (pa_cons (pv 0) (pa_cons (pe_slice sl_tupA (pv 0) (po_some pe_int) po_none) pa_nil))) (blkOk_by (N := ["thing", "one", "other"]) (sc := defScope s_is_gaps) (by decide +kernel)) (fun _ _ _ _ _ => by exact (pg_tup rfl (pgs_cons (pg_name (i := 1) sc_is_gaps.nd rfl (Or.inl rfl)) (pgs_cons (pg_name (i := 2) sc_is_gaps.nd rfl (Or.inl rfl)) pgs_nil)))) (fun _ _ _ _ _ => pts_nil) (fun _ _ _ _ _ => (pe_cmpR op_lt (pv 1) (pv 2) (nomark _)))) pa_nil))))), fun v G d p hd => ?_⟩
  rcases noTup p with ⟨h1, _, _, e⟩ | ⟨ds, rfl⟩
  · have e : isGapsD d = false := by
      cases d with
      | tuple ds => exact absurd h1 (by show ¬ kitB "tuple" "tuple" = some false; decide +kernel)
      | _ => rfl
    exact rt_if (Sb := (· = true)) (t_or (b := false) (t_not (t_B (e_isi (e_var rfl p) h1))) fun h => by cases h) (fun _ => rt_ret (e_bl.to (by rw [e]))) fun h => by cases h
  · have hz := hd ds rfl
    have hall : EvS Same K (tCB (rAll K) (tCons (tLc (iTup K (tVar 0)) (gName 1) tYes (tCall (sp1 K (fun _ => True) fun d => .bool (isNumD d)) [] E0 (tCons (tVar 1) tNil)) [1]) tNil)) (L2.start ["thing", "one", "other"] [v]) G (· = .bool ((List.range ds.length).all fun i => isNumD (ds.getD i .none))) :=
      e_all (n := ds.length) (fun i => isNumD (ds.getD i .none)) (e_lcMap (vs := [1]) (n := ds.length) (fun i => .bool (isNumD (ds.getD i .none))) (it_tup (e_var rfl p)) (by omega) fun i d x G' hG sd px => ⟨_, b_name (j := 1), rfl, (e_k1 (pre := fun _ => True) (F := fun d => .bool (isNumD d)) (E := E0) (e_var (i := 1) rfl px) trivial).to (by rw [getD_of sd])⟩)
    rw [all_range] at hall
    refine rt_if (t_or (t_not (t_B (e_isi (e_var rfl p) (by decide +kernel : kitB "tuple" "tuple" = some true)))) fun _ => t_not (t_B hall)) (fun h => rt_ret (e_bl.to ?_)) fun h => rt_ret ?_
    · have h : true = (!true || !ds.all isNumD) := h
      rw [Bool.not_true, Bool.false_or] at h
      show PyData.bool false = PyData.bool (ds.all isNumD && _)
      rw [(Bool.not_eq_true' _).mp h.symm]
      rfl
    · have h : false = (!true || !ds.all isNumD) := h
      rw [Bool.not_true, Bool.false_or] at h
      have hn : ds.all isNumD = true := (Bool.not_eq_false' _).mp h.symm
      have hint : ∀ i d, ds[i]? = some d → ∃ z : Int, d = PyData.int z := fun i d e => by
        have := List.all_eq_true.mp hn d (List.mem_of_getElem? e)
        cases d with
        | int z => exact ⟨z, rfl⟩
        | _ => cases this
      refine (e_all (n := min ds.length (ds.drop 1).length) (fun i => ltD (ds.getD i .none) (ds.getD (i + 1) .none)) (e_lcMap (n := min ds.length (ds.drop 1).length) _ (it_zipT (ds := ds) (es := ds.drop 1) (a_one (e_var rfl p) (a_one (e_sl1 (e_var rfl p) rfl) a_nil))) (by omega) fun i d x G' hG sd px => ?_)).to ?_
      · obtain ⟨d1, d2, q1, q2, e⟩ := sd
        subst e
        rw [List.getElem?_drop, Nat.add_comm] at q2
        obtain ⟨z1, rfl⟩ := hint _ _ q1
        obtain ⟨z2, rfl⟩ := hint _ _ q2
        obtain ⟨y, z, py, pz, hb⟩ := b_pair (i := 1) (j := 2) (σ := wipe (L2.start ["thing", "one", "other"] [v]) [1, 2]) px
        refine ⟨_, hb, rfl, ?_⟩
        rw [getD_of q1, getD_of q2]
        exact e_op1 (e_var (i := 1) rfl py) (e_var (i := 2) rfl pz) (rs_I0 fun _ => .bl _)
      · show _ = PyData.bool (ds.all isNumD && _)
        rw [hn, Bool.true_and, List.length_drop]
theorem sc_is_way : FnScope ["thing", "gap", "rows", "one"] ["thing"] (defScope s_is_way) := ⟨rfl, rfl, rfl, by decide +kernel, rfl, by decide +kernel, by decide +kernel⟩
theorem cl_is_way (T : Tx K mg) : Cl P w K mg base 6 "is_way" (sp1 K Fine (fun d => .bool (isWayD d))) := by
  refine cl_1 (a := "thing") T.d_is_way (fun _ _ _ _ _ _ us hl => match us, hl with | [_], _ => rfl) sc_is_way fun f cdv A outer s H E hr => ⟨_,
    (pss_cons (ps_if (PW.pt (pw_or (pt_not (pt_val (pe_callB call_isi rfl T.n_isinstance boot_isi (pa_cons (pv 0) (pa_cons (pe_bltn (v := .ty "tuple") rfl T.n_tuple boot_tupleT rfl) pa_nil))))) (pw_or1 (pt_not (pt_val (pe_callB (cr_all rfl) rfl T.n_all boot_allB (pa_cons (pe_lc (own := [("one", 3)]) rfl sc_is_way.nd (pi_tup (pv 0)) (blkOk_by (N := ["thing", "gap", "rows", "one"]) (sc := defScope s_is_way) (by decide +kernel)) (fun _ _ _ _ _ => (pg_name (i := 3) sc_is_way.nd rfl (Or.inl rfl))) (fun _ _ _ _ _ => pts_nil) (fun _ _ _ _ _ => (pe_k (cl_is_pair T) hr (by decide) rfl (pa_cons (pv 3) pa_nil)))) pa_nil))))))) (pss_one (ps_ret pe_bl)) pss_nil) (pss_cons (ps_if (pt_not (pt_val (pe_callB (cr_all rfl) rfl T.n_all boot_allB (pa_cons (pe_lc (own := [("gap", 1), ("rows", 2)]) (g := gTup K 2 (gCons (gName 1) (gCons (gName 2) gNil))) (te := tAndV (tCall (sp1 K Fine (fun d => .bool (isTextD d))) [] E0 (tCons (tVar 2) tNil)) (tOp (rI0 fun i j => .bl (decide (j < i))) (tCB (rLenD K) (tCons (tVar 2) tNil)) (tC (.int 0)))) rfl sc_is_way.nd (pi_tup (pv 0)) (blkOk_by (N := ["thing", "gap", "rows", "one"]) (sc := defScope s_is_way) (by decide +kernel)) (fun _ _ _ _ _ => (pg_tup rfl (pgs_cons (pg_name (i := 1) sc_is_way.nd rfl (Or.inl rfl)) (pgs_cons (pg_name (i := 2) sc_is_way.nd rfl (Or.inl rfl)) pgs_nil)))) (fun _ _ _ _ _ => pts_nil) (fun _ _ _ _ _ => (pe_and (pe_k (cl_is_text T) hr (by decide) rfl (pa_cons (pv 2) pa_nil)) (pe_one (pe_cmpR op_gt (pe_callB call_len rfl T.n_len PySem.boot_len (pa_cons (pv 2) pa_nil)) pe_int (nomark _)))))) pa_nil)))) (pss_one (ps_ret pe_bl)) pss_nil) (pss_one (ps_ret (pe_k (cl_is_gaps T) hr (by decide) rfl (pa_cons (pe_callTy call_tuple_of rfl T.n_tuple boot_tupleT (pa_cons (pe_lc (own := [("gap", 1), ("rows", 2)]) (g := gTup K 2 (gCons (gName 1) (gCons (gName 2) gNil))) rfl sc_is_way.nd (pi_tup (pv 0)) (blkOk_by (N := ["thing", "gap", "rows", "one"]) (sc := defScope s_is_way) (by decide +kernel)) (fun _ _ _ _ _ => (pg_tup rfl (pgs_cons (pg_name (i := 1) sc_is_way.nd rfl (Or.inl rfl)) (pgs_cons (pg_name (i := 2) sc_is_way.nd rfl (Or.inl rfl)) pgs_nil)))) (fun _ _ _ _ _ => pts_nil) (fun _ _ _ _ _ => (pv 1))) pa_nil)) pa_nil)))))), fun v G d p hd => ?_⟩
  rcases noTup p with ⟨h1, _, _, e⟩ | ⟨ds, rfl⟩
  · have e : isWayD d = false := by
      cases d with
      | tuple ds => exact absurd h1 (by show ¬ kitB "tuple" "tuple" = some false; decide +kernel)
      | _ => rfl
    exact rt_if (Sb := (· = true)) (t_or (b := false) (t_not (t_B (e_isi (e_var rfl p) h1))) fun h => by cases h) (fun _ => rt_ret (e_bl.to (by rw [e]))) fun h => by cases h
  · obtain ⟨hz, hf⟩ := hd.tup
    have hall : EvS Same K (tCB (rAll K) (tCons (tLc (iTup K (tVar 0)) (gName 3) tYes (tCall (sp1 K (fun _ => True) fun d => .bool (isPairD d)) [] E0 (tCons (tVar 3) tNil)) [3]) tNil)) (L2.start ["thing", "gap", "rows", "one"] [v]) G (· = .bool ((List.range ds.length).all fun i => isPairD (ds.getD i .none))) :=
      e_all (n := ds.length) (fun i => isPairD (ds.getD i .none)) (e_lcMap (vs := [3]) (n := ds.length) (fun i => .bool (isPairD (ds.getD i .none))) (it_tup (e_var rfl p)) (by omega) fun i d x G' hG sd px => ⟨_, b_name (j := 3), rfl, (e_k1 (pre := fun _ => True) (F := fun d => .bool (isPairD d)) (E := E0) (e_var (i := 3) rfl px) trivial).to (by rw [getD_of sd])⟩)
    rw [all_range] at hall
    refine rt_if (t_or (t_not (t_B (e_isi (e_var rfl p) (by decide +kernel : kitB "tuple" "tuple" = some true)))) fun _ => t_not (t_B hall)) (fun h => rt_ret (e_bl.to ?_)) fun h => ?_
    · have h : true = (!true || !ds.all isPairD) := h
      rw [Bool.not_true, Bool.false_or] at h
      show PyData.bool false = PyData.bool (ds.all isPairD && _)
      rw [(Bool.not_eq_true' _).mp h.symm]
      rfl
    have h : false = (!true || !ds.all isPairD) := h
    rw [Bool.not_true, Bool.false_or] at h
    have hn : ds.all isPairD = true := (Bool.not_eq_false' _).mp h.symm
    have hp : ∀ i d, ds[i]? = some d → ∃ a b : PyData, d = PyData.tuple [a, b] := fun i d e => pair_tup (List.all_eq_true.mp hn d (List.mem_of_getElem? e))
    refine rt_if (t_not (t_B (e_all (n := ds.length) (fun i => wayEntry (ds.getD i .none)) (e_lcMap (n := ds.length) _ (it_tup (e_var rfl p)) (by omega) fun i d x G' hG sd px => ?_)))) (fun h => rt_ret (e_bl.to ?_)) fun h => rt_ret ?_
    · obtain ⟨a, b, rfl⟩ := hp i d sd
      obtain ⟨y, z, py, pz, hb⟩ := b_pair (i := 1) (j := 2) (σ := wipe (L2.start ["thing", "gap", "rows", "one"] [v]) [1, 2]) px
      refine ⟨_, hb, rfl, ?_⟩
      rw [getD_of sd]
      have hfb : Fine b := (hf _ (List.mem_of_getElem? sd)).tup.2 b (by simp)
      refine (e_and (a := isTextD b) (b := wayEntry (.tuple [a, b])) (e_k1 (e_var (i := 2) rfl pz) hfb) fun hb => ?_).to ?_
      · cases b with
        | tuple r =>
          refine (e_op1 (e_len (e_var (i := 2) rfl pz) (.inl ⟨r, rfl, rfl⟩)) e_int (rs_I0 fun _ => .bl _)).to ?_
          show _ = PyData.bool (isTextD (.tuple r) && decide ((0 : Int) < (r.length : Int)))
          rw [hb, Bool.true_and]
        | _ => cases hb
      · cases b with
        | tuple r =>
          show PyData.bool (isTextD (.tuple r) && (isTextD (.tuple r) && decide ((0 : Int) < (r.length : Int)))) = PyData.bool (isTextD (.tuple r) && decide ((0 : Int) < (r.length : Int)))
          rw [← Bool.and_assoc, Bool.and_self]
        | _ => rfl
    · rw [all_range] at h
      show PyData.bool false = PyData.bool (ds.all isPairD && (ds.all wayEntry && _))
      rw [(Bool.not_eq_true' _).mp h.symm, Bool.false_and, Bool.and_false]
    · rw [all_range] at h
      have hw : ds.all wayEntry = true := (Bool.not_eq_false' _).mp h.symm
      refine (e_k1 (d := .tuple (ds.map fstD)) (e_cb1 (ds := [.list (ds.map fstD)]) (a_one ((e_lcMap (n := ds.length) (fun i => fstD (ds.getD i .none)) (it_tup (e_var rfl p)) (by omega) fun i d x G' hG sd px => ?_).to ?_) a_nil) rc_tuple) ?_).to ?_
      · obtain ⟨a, b, rfl⟩ := hp i d sd
        obtain ⟨y, z, py, pz, hb⟩ := b_pair (i := 1) (j := 2) (σ := wipe (L2.start ["thing", "gap", "rows", "one"] [v]) [1, 2]) px
        refine ⟨_, hb, rfl, ?_⟩
        rw [getD_of sd]
        exact e_var (i := 1) rfl py
      · have : ∀ ds : List PyData, (List.range ds.length).map (fun i => fstD (ds.getD i .none)) = ds.map fstD := by
          intro ds
          refine List.ext_getElem? fun i => ?_
          rw [List.getElem?_map, List.getElem?_map]
          by_cases hi : i < ds.length
          · rw [List.getElem?_range hi, List.getElem?_eq_getElem hi]
            simp [List.getD_eq_getElem?_getD, hi]
          · rw [List.getElem?_eq_none (by rw [List.length_range]; omega), List.getElem?_eq_none (by omega)]
            rfl
        rw [this]
      · intro es e
        cases e
        rw [List.length_map]
        exact hz
      · show _ = PyData.bool (ds.all isPairD && (ds.all wayEntry && _))
        rw [hn, hw]
        rfl
end
end K25
end
section
set_option maxRecDepth 100000
set_option maxHeartbeats 2000000
/-! NotUsable(word, at): its __init__ calls super().__init__(word, at) and stores both. -/
namespace K25
abbrev s_NotUsable : PySem.Stmt := topS 16
abbrev s_nuInit : PySem.Stmt := L2.inClass s_NotUsable 0
end K25
namespace K25X
open PySem PySem.W PySem.Calls PyProof.Rows PySem.HandSPX
/-- what the top has written of NotUsable, at C; its __init__ at fI, the cell of the class at cc -/
structure NuTxt (P : Program) (K : Frag) (mg : Str → Option Value) (C fI cc : Addr) : Prop where
  gC : mg "NotUsable" = some (.ref C)
  cls : ∃ nm q N bs bm sn sub ab col dd k0 k1 k2 k3 k5, K.lookup C = some (excClassObj nm q C N bs bm true sn sub ab col dd k0 k1 k2 k3 k5 "ValueError.__new__") ∧ refsVE bm = true
  sa : findIn K (.ref C) "__setattr__" = some (some (.builtin "object.__setattr__"))
  noW : findIn K (.ref C) "word" = some none
  noA : findIn K (.ref C) "at" = some none
  iC : findIn K (.ref C) "__init__" = some (some (.ref fI))
  tC : typeIn K (.ref fI) = some (.type "function")
  kC : keepIn K (.ref C) = true
  exC : subIn K (.ref C) (.type "BaseException") = some true
  veC : subIn K (.ref C) (.type "ValueError") = some true
  tyC : typeIn K (.ref C) = some (.type "type")
  up : ks_superIn K C C "__init__" = some (some (.builtin "ValueError.__init__"))
  me : mroIn K C (.ref C) = some true
  opq : nsIn K cStatics "thirdparty.any" = some none
  noSup : mg "super" = none
  cell : ∃ cl cld csl, K.lookup cc = some ⟨cl, cld, .cell (some (.ref C)), csl⟩
  fn : ∃ (oc : Value) (od : Option Addr) (doc pm : Value) (an : Option Addr) (cda : Addr) (ct : Value) (osl : Array (Option Value)) (ccl : Value) (cdd : Option Addr) (vs : Array Value) (ccs : Array (Option Value)) (file : Str) (tf : Tok),
    K.lookup fI = some ⟨oc, od, .func (ksFn "__init__" "NotUsable.__init__" (L2.defArgs K25.s_nuInit) (L2.defBody K25.s_nuInit) (L2.defScope K25.s_nuInit) .none .none doc pm an (.ref cda) ct cc), osl⟩ ∧ codeIn K (.ref cda) "NotUsable.__init__" = true ∧
    K.lookup cda = some ⟨ccl, cdd, .fields vs, ccs⟩ ∧ vs[2]? = some (.str file tf) ∧ ((P.main.file : Str) == file) = true
  top : (P.main.scope.names.lookup ("super" : Str)).isSome = false
/-- what __init__ leaves of a fresh exception at x -/
structure NuEnd (h h' : Heap) (x C dx : Addr) (v1 v2 : Value) : Prop where
  keep : ∀ b o, b ≠ x → h.get? b = some o → h'.get? b = some o
  obj : ∃ t1 : Addr, h'.get? x = some { cls := .ref C, dict := some dx, data := .fields #[.ref t1, .none, .none, .none, .bool false, .none] }
  dbig : h.objs.size ≤ dx
  dne : dx ≠ x
  ns : h'.Ns1 dx (fun y => if y = "at" then some v2 else if y = "word" then some v1 else none)
section
variable {prog : Program} {w : World} {A : Around} {E : Value → Shared → Prop} {R : Result → Shared → Prop} {s : Shared} {K : Frag} {mg mb : Str → Option Value} {C fI cc : Addr}
/-- a local's value -/
theorem ldN {M : Model} {env : Env} {m : Str → Option Value} {x : Str} {pos : Pos} {v : Value} {Q : Value → Shared → Prop} (hn : s.heap.Ns env.locals m) (hv : m x = some v) (h : Q v s)
    (hk : env.scope.kind = .function := by rfl) (hl : env.kindOf x = some .local := by rfl) (hd : (x == ("__debug__" : Str)) = false := by decide) : wpAny M A (eval (.Name x pos) env) Q E s := wpAny_Name (wpAny_loadName_local hk hl hn hv h) hd
/-- the bound built-in __init__, called: the exception's args are laid anew -/
theorem mw_call {u x t : Addr} {rest : List Value} {Q : Value → Shared → Prop} {nm q : Str} {N : Addr} {bs bm : List Value} {sn : List Str} {sub : List Value} {ab : Bool} {col : Option Bool} {dd : Option Addr} {k0 k1 k2 k3 k5 : Option Value}
    (hC : s.heap.get? C = some (excClassObj nm q C N bs bm true sn sub ab col dd k0 k1 k2 k3 k5 "ValueError.__new__")) (hu : s.heap.get? u = some (kxs_mw "ValueError.__init__" x)) (hx : s.heap.get? x = some (excO C t)) (hz : rest.length ≤ sizeLine)
    (h : ∀ h' t', (∀ b o, b ≠ x → s.heap.get? b = some o → h'.get? b = some o) → h'.get? x = some (excO C t') → Q .none { s with heap := h' }) : wpAny (model prog w) A (call (.ref u) rest) Q E s := by
  obtain ⟨hh, g, d, tk, os⟩ := s
  have FB := F.excBase_ValueError
  refine wpAny_call (codeAny_of_tree ?_)
  show wpAny _ A.in1 (callAny (.ref u) ⟨rest, []⟩) _ _ _
  simp only [callAny]
  refine wpAny_bind (wpAny_load hu ?_)
  simp only [kxs_mw, show (Value.type "method-wrapper" == Value.type "method" || Value.type "method-wrapper" == Value.type "builtin_function_or_method" || Value.type "method-wrapper" == Value.type "method-wrapper") = true by decide, if_true]
  refine KFB.if_so (by decide) ?_
  refine wpAny_bind (check_bound_init FB.toExcCallFacts hC hx rfl ?_)
  refine wpAny_bind (wpAny_pure (wpAny_pure ?_))
  refine ⟨plainId_quiet FB.init.plain _, codeAny_builtin FB.initEntry ?_⟩
  exact exc_init_tree (cls := .ref C) (t0 := t) (dv := none) (c2 := .none) (c3 := .none) (b4 := .bool false) hx hz fun h' k e _ => h h' _ k e

theorem nu_init (T : NuTxt prog K mg C fI cc) {x t0 : Addr} {v1 v2 : Value} (X : K.In s.heap) (hlim : s.heap.NoLimit) (hg : s.heap.Ns mainGlobals mg) (hb : s.heap.Ns builtinsNs mb) (hbb : mb "super" = bootBuiltins "super")
    (hx : s.heap.get? x = some (excO C t0)) (hnx : K.lookup x = none) (hroom : A.depth < recursionLimit) (hq : ∀ h' tk dx, NuEnd s.heap h' x C dx v1 v2 → R (.ok (.ret .none)) { s with heap := h', toks := tk }) :
    codeAny (model prog w) A (.call (.ref fI) ⟨[.ref x, v1, v2], []⟩) R s := by
  obtain ⟨oc, od, doc, pm, an, cda, ct, osl, ccl, cdd, vs, ccs, file, tf, ho, hcd, hcode, hvs, hfile⟩ := T.fn
  obtain ⟨cl, cld, csl, hcell⟩ := T.cell
  obtain ⟨nm, q, N, bs, bm, sn, sub, ab, col, dd, k0, k1, k2, k3, k5, hC, hbm⟩ := T.cls
  have hcl : clsIn K C = some { name := nm, bases := bs, mro := .ref C :: bm, ns := N, qualname := q, hasDict := true, slotNames := sn, subclasses := sub, abstract := ab, collection := col, hasDel := false } := by unfold clsIn; rw [hC] <;> rfl
  refine ks_codeAny_call_defAt (fd := ksFn "__init__" "NotUsable.__init__" (L2.defArgs K25.s_nuInit) (L2.defBody K25.s_nuInit) (L2.defScope K25.s_nuInit) .none .none doc pm an (.ref cda) ct cc) (body := L2.defBody K25.s_nuInit) (binds := [("self", .ref x), ("word", v1), ("at", v2)])
    hroom (X _ _ ho) rfl hlim (codeRec_of X hcd) rfl (BindsTo.of_eq (by first | rfl | with_unfolding_all rfl)) (show ∀ x ∈ (L2.defScope K25.s_nuInit).names, x.2 ≠ .cell from by decide +kernel) (fun y hy => ?hl) (fun h₁ hns hk => ?_) rfl rfl rfl
  case hl =>
    rcases List.mem_cons.1 hy with rfl | hy
    · exact (by decide +kernel : (L2.defScope K25.s_nuInit).names.lookup ("self" : Str) = some NameKind.local)
    rcases List.mem_cons.1 hy with rfl | hy
    · exact (by decide +kernel : (L2.defScope K25.s_nuInit).names.lookup ("word" : Str) = some NameKind.local)
    rcases List.mem_cons.1 hy with rfl | hy
    · exact (by decide +kernel : (L2.defScope K25.s_nuInit).names.lookup ("at" : Str) = some NameKind.local)
    cases hy
  have X₁ : K.In h₁ := X.keeps hk
  have hx₁ := hk _ _ hx
  have hxL : s.heap.objs.size ≠ x := Nat.ne_of_gt (Heap.lt_size hx)
  have hC₁ : h₁.get? C = some (excClassObj nm q C N bs bm true sn sub ab col dd k0 k1 k2 k3 k5 "ValueError.__new__") := X₁ _ _ hC
  have sz1 : s.heap.objs.size < h₁.objs.size := hns.lt
  obtain ⟨hh, g, d, t, os⟩ := s
  -- super().__init__(word, at)
  refine ks_wpAt_execs_cons (ks_wpAt_Expr_any (ks_wpAt_MethodCall ?_))
  refine ks_wpAt_super_base (env := ksEnv "NotUsable.__init__" (L2.defScope K25.s_nuInit) hh.objs.size fI (.ref cda) cc) (by first | rfl | decide +kernel) (by first | rfl | decide +kernel) (by decide) rfl (X₁ _ _ ho) rfl rfl rfl (X₁ _ _ hcode) rfl hvs hfile T.top ?_
  refine ks_loadName_global rfl (by first | rfl | decide +kernel) (loadGlobal_builtin (env := ksEnv "NotUsable.__init__" (L2.defScope K25.s_nuInit) hh.objs.size fI (.ref cda) cc) (hg.keeps hk) T.noSup (hb.keeps hk) (hbb.trans (by decide +kernel : bootBuiltins "super" = some (.type "super"))) ⟨rfl, ?_⟩)
  refine wpAny_loadName_free rfl (by first | rfl | decide +kernel) rfl ⟨_, X₁ _ _ hcell, rfl⟩ ?_
  refine wpAny_loadName_local rfl (by first | rfl | decide +kernel) hns (by first | rfl | decide +kernel) ?_
  refine ks_wpAny_isType_cls hC₁ rfl ⟨rfl, ?_⟩
  refine ks_wpAny_call_super hC₁ rfl hx₁ rfl (fun c e => by cases e) (looks_mroIn X₁ T.me) (fun h₂ hso k2 => ?_)
  have X₂ : K.In h₂ := X₁.keeps k2
  have hx₂ := k2 _ _ hx₁
  have I₂ : InstAt h₂ x (excO C t0) C none := ⟨hx₂, rfl, rfl, trivial⟩
  have hns₂ : h₂.Ns hh.objs.size _ := hns.keeps k2
  have kk2 : ∀ b o, hh.get? b = some o → h₂.get? b = some o := fun b o e => k2 b o (hk b o e)
  refine kxs_getMethod kxs_ValueError hso (looks_opaque X₂ T.opq) (l₀ := .ref C :: bm) (fun A Q E s k q => wpAny_bind ((looks_clsIn X₂ hcl) A _ E s k (wpAny_pure q))) rfl X₂ ?hf (I₂.type.andThen (looks_subIn X₂ T.veC)) (ks_ne X₂ I₂ hcl) (by decide) ?_
  case hf =>
    have e := T.up
    unfold ks_superIn at e
    rw [hcl] at e
    exact e
  have k3 : ∀ b o, h₂.get? b = some o → (h₂.push (kxs_mw "ValueError.__init__" x)).get? b = some o := fun b o e => Heap.get?_push_of_some _ e
  have hmw : (h₂.push (kxs_mw "ValueError.__init__" x)).get? h₂.objs.size = some (kxs_mw "ValueError.__init__" x) := by heap_get
  have hns₃ := hns₂.keeps k3
  refine kxs_callWith (i := "ValueError.__init__") (x := x) (by first | rfl | decide +kernel) ?_
  refine evalArgs_plain (spliced_cons (ldN (v := v1) hns₃ (by first | rfl | decide +kernel | with_unfolding_all rfl) (spliced_cons (ldN (v := v2) hns₃ (by first | rfl | decide +kernel | with_unfolding_all rfl) (wpAny_pure ⟨hmw, ?_⟩)))))
  show wpAny _ _ (call (.ref h₂.objs.size) [v1, v2]) _ _ _
  have hC₃ := k3 _ _ (k2 _ _ hC₁)
  refine mw_call hC₃ hmw (k3 _ _ hx₂) (by rw [sizeLine_eq]; exact (by decide : 2 ≤ 16777216)) fun h₄ t4 k4 hx₄ => ?_
  have kx : ∀ b o, b ≠ x → hh.get? b = some o → h₄.get? b = some o := fun b o n e => k4 b o n (k3 b o (kk2 b o e))
  have hlx : hh.objs.size ≠ x := hxL
  have hCx : C ≠ x := Ne.symm (ks_ne X₂ I₂ hcl)
  have X₄ : K.In h₄ := fun a o e => k4 a o (fun z => by rw [z, hnx] at e; cases e) ((X₂.keeps k3) a o e)
  let m0 : Str → Option Value := fun y => List.lookup y [(("self" : Str), Value.ref x), (("word" : Str), v1), (("at" : Str), v2)].reverse
  have hns₃ : (h₂.push (kxs_mw "ValueError.__init__" x)).Ns hh.objs.size m0 := hns₃
  have hns₄ : h₄.Ns hh.objs.size m0 := by
    obtain ⟨o, es, ep, e, r⟩ := hns₃
    exact ⟨o, es, ep, k4 _ _ hlx e, r⟩
  show PySem.wpAt _ _ _ _ _ _ _
  refine wpAt_of_wpAny (wpAny_execs_cons (plainObj_wpAny_Assign_Attribute ?_))
  refine ldN (v := v1) hns₄ (by first | rfl | decide +kernel | with_unfolding_all rfl) (ldN (v := .ref x) hns₄ (by first | rfl | decide +kernel | with_unfolding_all rfl) ?_)
  refine set_plain X₄ (ox := excO C t4) (od := none) ⟨hx₄, rfl, rfl, trivial⟩ T.sa ?_
  refine exc_osa X₄ hx₄ hcl (show refsVE (.ref C :: bm) = true from hbm) rfl T.noW (fun h₅ tk₅ dx k₅ dn dne hx₅ hn₅ => ?_)
  have X₅ : K.In h₅ := fun a o e => k₅ a o (fun z => by rw [z, hnx] at e; cases e) (X₄ a o e)
  have hns₅ : h₅.Ns hh.objs.size m0 := by
    obtain ⟨o, es, ep, e, r⟩ := hns₄
    exact ⟨o, es, ep, k₅ _ _ hlx e, r⟩
  have sz4 : hh.objs.size < h₄.objs.size := by
    obtain ⟨o, es, ep, e, r⟩ := hns₄
    exact Heap.lt_size e
  show wpAny _ _ (execs _ _) _ _ _
  refine wpAny_execs_cons (plainObj_wpAny_Assign_Attribute ?_)
  refine ldN (v := v2) hns₅ (by first | rfl | decide +kernel | with_unfolding_all rfl) (ldN (v := .ref x) hns₅ (by first | rfl | decide +kernel | with_unfolding_all rfl) ?_)
  obtain ⟨oD, _, _, hoD, _, _⟩ := hn₅.count (ns := [("word" : Str)]) (Within.cons ("word" : Str) v1 Within.nil)
  refine set_plain X₅ (ox := { cls := .ref C, dict := some dx, data := .fields #[.ref t4, .none, .none, .none, .bool false, .none] }) (od := some oD) ⟨hx₅, rfl, rfl, hoD⟩ T.sa ?_
  refine PySem.OEX.osa_old X₅ hx₅ hn₅ (nl := [("word" : Str)]) (Within.cons ("word" : Str) v1 Within.nil) (by decide) hcl (show refsVE (.ref C :: bm) = true from hbm) rfl T.noA (fun h₆ tk₆ k₆ hn₆ => ?_)
  show wpAny _ _ (execs _ _) _ _ _
  have lx : ∀ {b o}, hh.get? b = some o → b ≠ dx := fun e => Nat.ne_of_lt (Nat.lt_of_lt_of_le (Heap.lt_size e) (Nat.le_trans (Nat.le_of_lt sz4) dn))
  exact wpAny_execs_nil (hq h₆ tk₆ dx ⟨fun b o hb e => k₆ b o (lx e) (k₅ b o hb (kx b o hb e)), ⟨t4, k₆ _ _ (Ne.symm dne) hx₅⟩, Nat.le_trans (Nat.le_of_lt sz4) dn, dne, hn₆⟩)
/-- a made NotUsable -/
structure NuMade (h h' : Heap) (e C d : Addr) (v1 v2 : Value) : Prop where
  keep : ∀ b o, h.get? b = some o → h'.get? b = some o
  new : h.objs.size ≤ e
  obj : ∃ oe vs, h'.get? e = some oe ∧ oe.cls = .ref C ∧ oe.dict = some d ∧ oe.data = .fields vs ∧ vs[1]? = some .none
  dbig : h.objs.size ≤ d
  dne : d ≠ e
  ns : h'.Ns1 d (fun y => if y = "at" then some v2 else if y = "word" then some v1 else none)
theorem nu_made (T : NuTxt prog K mg C fI cc) {v1 v2 : Value} (X : K.In s.heap) (hlim : s.heap.NoLimit) (hg : s.heap.Ns mainGlobals mg) (hb : s.heap.Ns builtinsNs mb) (hbb : mb "super" = bootBuiltins "super") (hroom : A.depth + 1 < recursionLimit)
    (hq : ∀ h' tk e d, NuMade s.heap h' e C d v1 v2 → R (.ok (.ret (.ref e))) { s with heap := h', toks := tk }) :
    codeAny (model prog w) A (.call (.ref C) ⟨[v1, v2], []⟩) R s := by
  obtain ⟨nm, q, N, bs, bm, sn, sub, ab, col, dd, k0, k1, k2, k3, k5, hC, hbm⟩ := T.cls
  obtain ⟨hp, g, dr, tk, os⟩ := s
  have k : ∀ b o, hp.get? b = some o → ((hp.push (kdv_tup [v1, v2])).push (excO C hp.objs.size)).get? b = some o := fun b o e => Heap.get?_push_of_some _ (Heap.get?_push_of_some _ e)
  have hget : ((hp.push (kdv_tup [v1, v2])).push (excO C hp.objs.size)).get? (hp.objs.size + 1) = some (excO C hp.objs.size) := by heap_get
  have hnx : K.lookup (hp.objs.size + 1) = none := by
    cases e : K.lookup (hp.objs.size + 1) with
    | none => rfl
    | some o =>
      have z : hp.get? (hp.objs.size + 1) = some o := X _ _ e
      exact absurd (Nat.lt_of_succ_lt (Heap.lt_size z)) (Nat.lt_irrefl _)
  refine call_own F.excBase_ValueError (fun X => refsVE_contains X bm hbm) (X _ _ hC) (looks_findIn X T.iC) (fun self => bind_fn X self T.tC) (by rw [sizeLine_eq]; exact (by decide : 2 ≤ 16777216)) ?_
  refine nu_init (s := ⟨(hp.push (kdv_tup [v1, v2])).push (excO C hp.objs.size), g, dr, tk, os⟩) T (X.keeps k) (hlim.keeps k) (hg.keeps k) (hb.keeps k) hbb hget hnx ?_ fun h' tk' dx ⟨k', ⟨t1, hx⟩, dn, dne, hns⟩ => ?_
  · show A.depth + 1 < recursionLimit
    exact hroom
  · have old : ∀ b o, hp.get? b = some o → h'.get? b = some o := fun b o e => k' b o (Nat.ne_of_lt (Nat.lt_succ_of_lt (Heap.lt_size e))) (k b o e)
    have z : hp.objs.size + 1 + 1 ≤ dx := by
      first
        | (simpa only [Heap.size_push] using dn)
        | exact dn
        | (have q := dn; rw [Heap.size_push, Heap.size_push] at q; exact q)
    exact ⟨rfl, hq h' tk' (hp.objs.size + 1) dx ⟨old, Nat.le_succ _, ⟨_, _, hx, rfl, rfl, rfl, rfl⟩, Nat.le_trans (Nat.le_trans (Nat.le_succ _) (Nat.le_succ _)) z, dne, hns⟩⟩
end
end K25X
end
section
set_option maxRecDepth 100000
set_option maxHeartbeats 2000000
namespace K25X
open PySem
/-! ### enumerate(tuple) -/
abbrev enO (n : Addr) : Obj := { cls := .type "enumerate", data := .fields #[.none, .bool false, .ref n, rawInt 0, .none, .none] }
theorem meets_enT {v : Value} {ob : Obj} {Hh : Heap → Prop} (B : Begins v ob Hh) :
    Meets (Builtin.«enumerate.__new__» ⟨[.type "enumerate", v], []⟩) (fun _ Rr z => Hh z.heap ∧
      Rr (.ok (.ret (.ref (z.heap.push ob).objs.size))) { z with heap := (z.heap.push ob).push (enO z.heap.objs.size) }) :=
  .of_wp fun P w A Rr z hz => by
    obtain ⟨hh, gg, dd, nt, os⟩ := z; obtain ⟨hv, hz⟩ := hz
    have sb := sub_enumerate
    have it : ∀ {Y : Around} {Er : Value → Shared → Prop} {Qq : Value → Shared → Prop}, Qq (.ref hh.objs.size) ⟨hh.push ob, gg, dd, nt, os⟩ → wpAny (model P w) Y (pyIter v) Qq Er ⟨hh, gg, dd, nt, os⟩ :=
      fun k => B.iter P w _ _ ⟨hh, gg, dd, nt, os⟩ _ hv k
    wp_walk using it
    refine wpAny_stack_any fun st => wpAny_pure ?_
    split
    · rename_i cc _ _ _ _ _
      cases (cc == Value.type "enumerate")
      all_goals (wp_walk using it; exact ⟨_, rfl, hz⟩)
    · (wp_walk using it; exact ⟨_, rfl, hz⟩)
theorem call_enT {P : Program} {w : World} {A : Around} {Er : Value → Shared → Prop} {z : Shared} {v : Value} {ob : Obj} {Hh : Heap → Prop} {Qq : Value → Shared → Prop} (B : Begins v ob Hh) (hv : Hh z.heap)
    (k : ∀ h', IsEnum h' (z.heap.objs.size + 1) z.heap.objs.size 0 .none → h'.get? z.heap.objs.size = some ob → (∀ b o, z.heap.get? b = some o → h'.get? b = some o) → Qq (.ref (z.heap.objs.size + 1)) { z with heap := h' }) :
    wpAny (model P w) A (call (.type "enumerate") [v]) Qq Er z := by
  refine callType_new F.called_enumerate (by decide) (F.typeCall_enumerate_1 _) (F.newCall_enumerate_1 _) (fun obj => F.args_object_init_2 obj _) F.entry_enumerate_new (meets_enT B) ⟨hv, ?_⟩
  have sz : (z.heap.push ob).objs.size = z.heap.objs.size + 1 := Heap.size_push ..
  show _ ∧ _
  rw [sz]
  have ie : IsEnum ((z.heap.push ob).push (enO z.heap.objs.size)) (z.heap.objs.size + 1) z.heap.objs.size 0 .none := by
    have q := Heap.get?_push_size (z.heap.push ob) (o := enO z.heap.objs.size) rfl
    rw [sz] at q
    exact q
  refine ⟨⟨_, ie, rfl⟩, k _ ie (Heap.get?_push_of_some _ (Heap.get?_push_size _ B.free)) fun b o q => Heap.get?_push_of_some _ (Heap.get?_push_of_some _ q)⟩
end K25X
namespace K25
open PySem PySem.Spec PyProof.Rows L2
/-- the tuple at a, counted; each item in a new pair -/
def IteT (K : PySem.W.Frag) (a : Addr) : It :=
  ⟨fun i H => ∃ (zs : List V) (z : V), SqT K H a zs ∧ zs[i]? = some z, fun i H v H' => ∃ T z, v = .ref T ∧ H T = none ∧ H' = upd H T (.tup [.int (i : Nat), z]) ∧ ∀ zs, SqT K H a zs → zs[i]? = some z, fun i H => ∃ zs : List V, SqT K H a zs ∧ zs.length = i⟩
theorem turn_enT {P : Program} {w : World} {K : PySem.W.Frag} {elts : List Expr} {kk : Nat} {tpos : Pos} (a e it : Addr) :
    Turn P w K (.Tuple elts kk tpos) (IteT K a) [e, it] e (fun i h => (∃ old, IsEnum h e it ((i : Nat) : Int) old) ∧ h.IsTupleIter it a i ∧ e ≠ it ∧ a ≠ it ∧ a ≠ e) where
  mem := by simp
  obj := fun i h st b hb => by
    obtain ⟨⟨old, he⟩, ⟨o, ho, hc, hd⟩, _⟩ := st
    rcases List.mem_cons.1 hb with z | hb
    · rw [z]; exact ⟨_, he, fun v q => nomatch q⟩
    · rw [List.mem_singleton.1 hb]; exact ⟨o, ho, fun v q => by rw [hd] at q; cases q⟩
  keep := fun i h h' st k => let ⟨⟨old, he⟩, hi, hne⟩ := st; ⟨⟨old, k e (by simp) _ he⟩, hi.at fun o q => k it (by simp) o q, hne⟩
  item := by
    intro X hP hw hK hc i pins s σ H E I hf st hg
    subst hP hw hK
    obtain ⟨⟨old, he⟩, hit, hne, hai, hae⟩ := st
    obtain ⟨zs, z, hq, hz⟩ := hg
    obtain ⟨its, rv, pT, _⟩ := I.tuple hq
    obtain ⟨u, hu, ru⟩ := rv.get hz
    have hel : e < s.heap.objs.size := Heap.lt_size he
    have hil : it < s.heap.objs.size := by obtain ⟨_, q, _⟩ := hit; exact Heap.lt_size q
    have hlt : i < its.toArray.size := by
      have := List.getElem?_eq_some_iff.1 hu
      simpa using this.1
    refine wpAny_pyNext_enum_itemC (Draws.tuple (show X.A.in1.handled = none from I.ok.hd hc) it a hai its.toArray) he ⟨hit, pT⟩ hlt hne (by simp [hne, Ne.symm hae]) fun y h' nt hy ho hs' hT hsz hk => ?_
    obtain ⟨hit', _⟩ := hs'
    obtain rfl : y = u := by
      have hu' : its.toArray[i]? = some u := by simpa using hu
      rw [hu'] at hy
      exact (Option.some.inj hy).symm
    refine ⟨_, rfl, wpAny_letOwnedTupleGo_enum (s := { s with heap := h', toks := nt + 1 }) ho fun h'' he' sb => ?_⟩
    have hT2 : h''.get? s.heap.objs.size = some { cls := .type "tuple", data := .seq #[.int i nt, y] } := (sb.2 _ (Nat.ne_of_gt hel)).trans hT
    have new : ObjOk X.prog X.w (upd H s.heap.objs.size (.tup [.int (i : Nat), z])) h'' s.heap.objs.size (.tup [.int (i : Nat), z]) :=
      ⟨by show 2 ≤ sizeLine; decide, [.int i nt, y], .cons ⟨_, rfl⟩ (.cons ru .nil), ⟨_, hT2, rfl, _, rfl⟩⟩
    have J : Inv X pins σ (upd H s.heap.objs.size (.tup [.int (i : Nat), z])) { s with heap := h'', toks := nt + 1 } :=
      I.turnedNew (ch := [e, it]) (fun b ob hb q => (sb.2 b (fun z => hb (by simp [z]))).trans (hk b ob (fun z => hb (by simp [z])) (fun z => hb (by simp [z])) q)) hf (Nat.le_refl _) new
    refine ⟨.ref s.heap.objs.size, _, J, rfl, ⟨_, z, rfl, I.hok.fresh (Nat.le_refl _), rfl, fun ys hy => by rw [I.tuple_inj hy hq]; exact hz⟩, ⟨⟨y, ?_⟩, hit'.at fun o q => (sb.2 it (Ne.symm hne)).trans q, hne, hai, hae⟩, fun b hb => ?_⟩
    · have e1 : ((i + 1 : Nat) : Int) = (i : Int) + 1 := by omega
      rw [e1]; exact he'
    · have hb' : b < s.heap.objs.size := by
        rcases List.mem_cons.1 hb with z | hb
        · rw [z]; exact hel
        · rw [List.mem_singleton.1 hb]; exact hil
      rw [upd_ne (Nat.ne_of_lt hb')]
      exact (hf b hb).1
  done := by
    intro X hP hw hK hc i pins s σ H E I hf st hg
    subst hP hw hK
    obtain ⟨⟨old, he⟩, hit, hne, hai, hae⟩ := st
    obtain ⟨zs, hq, hz⟩ := hg
    obtain ⟨its, rv, pT, _⟩ := I.tuple hq
    obtain ⟨f0, f1, f2, f3, f4, f5⟩ := hf it (by simp)
    have hl := rv.length
    obtain rfl : i = its.toArray.size := by simp; omega
    exact wpAny_pyNext_enum_endD (Draws.tuple (show X.A.in1.handled = none from I.ok.hd hc) it a hai its.toArray) he ⟨hit, pT⟩ fun h' eb => ⟨rfl, I.turned (t' := s.toks) (fun b o hb q => eb b o hb q) f0 f1 f3 f4 f5⟩
  self := fun A i s Q E st h => let ⟨⟨_, he⟩, _⟩ := st; wpAny_pyIter_enum he h
def iEnumT (K : PySem.W.Frag) (ta : TA) : TI := fun σ H Rk => ta σ H fun vs H1 => ∃ a zs, vs = [.ref a] ∧ SqT K H1 a zs ∧ Rk (IteT K a) H1
theorem pi_enumT {X : Cx} {e : Expr} {ta : TA} {p pos tpos : Pos} {elts : List Expr} {kk : Nat} (hg : Gl X "enumerate") (hm : X.mg "enumerate" = none) (ha : PA X [e] ta) (hs : starEach [e] X.env = [(false, eval e X.env)] := by rfl) :
    PI X (.Tuple elts kk tpos) (.Call (.Name "enumerate" p) [e] [] pos) (iEnumT X.K ta) := by
  refine ⟨fun pins s σ H Rk I h => ?_⟩
  refine Call_ (ld_blt I hg hm boot_enumerate (PyProof.Rows.callWith_type1 (thn (ha.run pos pins s σ H _ I h) fun us s1 ⟨vs, H1, I1, r1, q1⟩ => ?_) hs rfl))
  obtain ⟨a, zs, ev, hq, q⟩ := q1
  subst ev
  cases r1 with
  | cons r rr =>
    cases rr
    cases r
    obtain ⟨its, rv, pT, _⟩ := I1.tuple hq
    have hal : a < s1.heap.objs.size := by obtain ⟨_, q, _⟩ := pT; exact Heap.lt_size q
    refine K25X.call_enT (begins_tuple a its.toArray) pT fun h' he hit hk => wpAny_pyIter_enum he ?_
    have I2 : Inv X pins σ H1 { s1 with heap := h' } := I1.kept (t' := s1.toks) hk
    refine ⟨s1.heap.objs.size + 1, [s1.heap.objs.size + 1, s1.heap.objs.size], _, _, H1, rfl, I2, turn_enT a (s1.heap.objs.size + 1) s1.heap.objs.size, ⟨⟨.none, he⟩, ⟨_, hit, rfl, rfl⟩, Nat.succ_ne_self _, Nat.ne_of_lt hal, Nat.ne_of_lt (Nat.lt_succ_of_lt hal)⟩, fun b hb => ?_, q⟩
    have hle : s1.heap.objs.size ≤ b := by
      rcases List.mem_cons.1 hb with z | hb
      · rw [z]; exact Nat.le_add_right _ _
      · rw [List.mem_singleton.1 hb]; exact Nat.le_refl _
    exact I1.fpOk hle (I1.hok.fresh hle)
section
variable {R : Hp → Hp → Prop} [Rl R] {K : PySem.W.Frag} {σ : L2.St} {G : Hp} {te : TE}
theorem walk_enT {a : Addr} {zs : List V} : Walk (IteT K a) zs.length (fun H => SqT K H a zs) (fun i H v H' => ∃ T z, v = .ref T ∧ H T = none ∧ H' = upd H T (.tup [.int (i : Nat), z]) ∧ zs[i]? = some z) :=
  ⟨fun i H hi q => ⟨zs, zs[i], q, by simp [hi]⟩, fun H q => ⟨zs, q, rfl⟩, fun i H v H' hi q y => by
    obtain ⟨T, z, h1, h2, h3, h4⟩ := y
    exact ⟨T, z, h1, h2, h3, h4 zs q⟩⟩
theorem it_enT {ds : List PyData} (h : EvS R K te σ G (· = .tuple ds)) : ItD R K (iEnumT K (tCons te tNil)) σ G (· = ds.length) (fun i d => ∃ e, ds[i]? = some e ∧ d = .tuple [.int i, e]) := fun A hA Rk k =>
  a_one h a_nil A hA _ fun vs es B r s p => by
    subst s
    cases p with
    | cons p p2 =>
      cases p2
      cases p with
      | @tup a xs _ hs ha =>
        refine ⟨a, xs, rfl, sqt_up up_sub hs, k (IteT K a) ds.length B _ _ r rfl (by rw [← dpa_len ha]; exact walk_enT (zs := xs)) (fun X rx => sqt_up (fun b o t e => Rl.stay rx t e) (sqt_up up_sub hs)) fun i X x X' hi rx y => ?_⟩
        obtain ⟨T, z, e1, nT, e2, ez⟩ := y
        subst e1 e2
        obtain ⟨d, q1, q2⟩ := dpa_getV ha ez
        have up : ∀ a o, Stay o → own G A B a = some o → own (own G A B) X (upd X T (.tup [.int (i : Nat), z])) a = some o := fun a o t e =>
          up_new (R := R) (Rl.refl X) nT a o t (up_base (R := R) (Rl.trans own_r rx) (Rl.refl X) a o t e)
        exact ⟨Rl.new (Rl.refl X) nT, _, ⟨d, q1, rfl⟩, .tup (.inl (.inl (own_at (R := R) (Rl.refl X) nT))) (.cons (.int _) (.cons (dp_up up d _ q2) .nil))⟩
end
end K25
end
section
set_option maxRecDepth 100000
set_option maxHeartbeats 2000000
namespace K25
open PySem PySem.Spec PyProof.Rows L2
/-! ### raise NotUsable(word, at) -/
abbrev nuF (vw va : V) : List (Str × V) := [(("at" : Str), va), (("word" : Str), vw)]
theorem relO_nu {vw va : V} {uw ua : Value} (rw_ : RelV vw uw) (ra : RelV va ua) (f : Str) : RelO (List.lookup f (nuF vw va)) (if f = "at" then some ua else if f = "word" then some uw else none) := by
  by_cases h1 : f = "at"
  · subst h1
    rw [if_pos rfl, show List.lookup ("at" : Str) (nuF vw va) = some va by simp [List.lookup, nuF]]
    exact ra
  · have q1 : (f == ("at" : Str)) = false := by simpa using h1
    rw [if_neg h1]
    by_cases h2 : f = "word"
    · subst h2
      rw [if_pos rfl, show List.lookup ("word" : Str) (nuF vw va) = some vw by simp [List.lookup, nuF, q1]]
      exact rw_
    · have q2 : (f == ("word" : Str)) = false := by simpa using h2
      rw [if_neg h2, show List.lookup f (nuF vw va) = none by simp [List.lookup, nuF, q1, q2]]
      trivial
section
variable {X : Cx} {C fI cc : Addr}
def tNu (C : Addr) (ta : TA) : L2.St → Hp → XK → Prop := fun σ H Q => ta σ H fun vs H1 => ∃ vw va, vs = [vw, va] ∧ ∀ d, H1 d = none → Q (.ref C) (some d) (upd H1 d (.xd (nuF vw va)))
theorem pmk_nu {a b : Expr} {ta : TA} {p pos : Pos} {k : Nat} (T : K25X.NuTxt X.prog X.K X.mg C fI cc) (hr : Room k X.A) (ha : PA X [a, b] ta) (hg : Gl X "NotUsable" := by rfl)
    (he : starEach [a, b] X.env = (false, eval a X.env) :: starEach [b] X.env := by rfl) (hpl : (backTo pos (starEach [b] X.env)).any (·.1) = false := by rfl) :
    PMk X (.Call (.Name "NotUsable" p) [a, b] [] pos) (tNu C ta) := by
  intro pins s σ H Q I h
  refine wpAny_Call_Name_kw (ld_glob I hg T.gC ?_)
  refine PySem.W.callWith_K (h₀ := X.base) I.ok.mod.kin T.kC (thn (ha.run pos pins s σ H _ I h) fun us s1 hh => ?_) he hpl
  obtain ⟨vs, H1, J, rr, vw, va, ev, qq⟩ := hh
  subst ev
  refine ⟨J.kIn, ?_⟩
  match us, rr with
  | [uw, ua], .cons rw_ (.cons ra .nil) =>
    show wpAny _ _ (call (.ref C) [uw, ua]) _ _ _
    have hlim := J.nolimit
    have hgl := J.mod.glob.keeps J.bk
    obtain ⟨mb, hb1, hb2⟩ := J.mod.blt
    have hbl := hb1.keeps J.bk
    obtain ⟨hp, g, dr, tk, os⟩ := s1
    refine wpAny_call (K25X.nu_made T J.kIn hlim hgl hbl (hb2 _ (by decide)) (by have := hr.dp; omega) fun h' tk' e d M => ?_)
    show MkP X pins σ Q (.ref e) ⟨h', g, dr, tk', os⟩
    obtain ⟨oe, fv, hoe, hc, hd, hdat, hn1⟩ := M.obj
    have hns := M.ns
    obtain ⟨G', g1, g2⟩ := restrict h' fun b => decide (b ≠ e)
    have gk : ∀ b, b ≠ e → G'.get? b = h'.get? b := fun b hb => g1 b (decide_eq_true hb)
    have ge : G'.get? e = none := g2 e (by simp)
    have old : ∀ b o, hp.get? b = some o → G'.get? b = some o := fun b o q => (gk b (Nat.ne_of_lt (Nat.lt_of_lt_of_le (Heap.lt_size q) M.new))).trans (M.keep b o q)
    have ob : ObjOk X.prog X.w (upd H1 d (.xd (nuF vw va))) G' d (.xd (nuF vw va)) :=
      ⟨_, hns.at (fun o q => (gk d M.dne).trans q), fun f => relO_nu rw_ ra f⟩
    have J2 : Inv X pins σ (upd H1 d (.xd (nuF vw va))) ⟨G', g, dr, tk', os⟩ := J.laid (t' := tk') old M.dbig ob
    refine ⟨e, oe, fv, ⟨G', g, dr, tk', os⟩, _, .ref C, some d, rfl, J2, fun b o q => ?_, ge, hoe, ⟨hc, hd⟩, hdat, hn1, ?_, rfl, J.bare, raises_own T.exC T.tyC, qq d (J.hok.fresh M.dbig)⟩
    · by_cases hb : b = e
      · have z : G'.get? b = some o := q
        rw [hb, ge] at z
        cases z
      · exact (gk b hb).symm.trans q
    · rw [upd_ne (Ne.symm M.dne)]
      exact J.hok.fresh M.new
end

/-! ### statements that may raise NotUsable -/
section
variable (R : Hp → Hp → Prop) (K : PySem.W.Frag) (C : Addr)
/-- an error with this word and place is taken -/
def ErrAt (E : XK) (G A : Hp) (w a : PyData) : Prop := ∀ (dd : Addr) (vw va : V) (B : Hp), R A B → B dd = some (.xd (nuF vw va)) → Dp K (own G A B) vw w → Dp K (own G A B) va a → E (.ref C) (some dd) B
abbrev ErD := Option (PyData × PyData)
/-- goes on, or raises -/
def Nx (E : L2.St → XK) (ts : TS) (σ : L2.St) (G : Hp) (er : ErD) : Prop := ∀ A, R G A → ∀ D : Ends, (er = none → ∀ B, R A B → D.nx σ B) → (∀ w a, er = some (w, a) → ErrAt R K C (E σ) G A w a) → ts D σ A
/-- returns, or raises -/
def Rx (E : L2.St → XK) (ts : TS) (σ : L2.St) (G : Hp) (er : ErD) (S : PyData → Prop) : Prop := ∀ A, R G A → ∀ D : Ends, (er = none → ∀ v d B, R A B → S d → Dp K (own G A B) v d → D.rt v B) →
  (∀ w a, er = some (w, a) → ErrAt R K C (E σ) G A w a) → ts D σ A
/-- a value, or raises -/
def Ex (E : L2.St → XK) (te : TE) (σ : L2.St) (G : Hp) (er : ErD) (S : PyData → Prop) : Prop := ∀ A, R G A → ∀ Q : VK, (er = none → ∀ v d B, R A B → S d → Dp K (own G A B) v d → Q v B) →
  (∀ w a, er = some (w, a) → ErrAt R K C (E σ) G A w a) → te σ A Q
/-- the promise of a def that may raise -/
def spX (pre : List PyData → Prop) (er : List PyData → ErD) (S : List PyData → PyData → Prop) : Sp := fun vs H Q E => ∃ (G : Hp) (ds : List PyData), Same G H ∧ DpAll K G vs ds ∧ pre ds ∧
  (er ds = none → ∀ v d B, Same H B → S ds d → Dp K (own G H B) v d → Q v B) ∧ ∀ w a, er ds = some (w, a) → ErrAt Same K C E G H w a
end
section
variable {R : Hp → Hp → Prop} [Rl R] {K : PySem.W.Frag} {C : Addr} {E : L2.St → XK} {σ : L2.St} {G A B : Hp} {ts tu : TS} {te : TE} {er er1 er2 : ErD} {S : PyData → Prop}
/-- what comes first, raises first -/
def erOr : ErD → ErD → ErD
  | some e, _ => some e
  | none, x => x
theorem ErrAt.later {E : XK} {w a : PyData} (r : R A B) (h : ErrAt R K C E G A w a) : ErrAt R K C E G B w a := fun dd vw va D rD e p1 p2 =>
  h dd vw va D (Rl.trans r rD) e (dp_up (up_back r) _ _ p1) (dp_up (up_back r) _ _ p2)
theorem nx_seq (h : Nx R K C E ts σ G er1) (k : Nx R K C E tu σ G er2) : Nx R K C E (tSeq ts tu) σ G (erOr er1 er2) := fun A hA D q e =>
  h A hA _ (fun z B r => k B (Rl.trans hA r) D (fun z2 B2 r2 => q (by rw [z, z2]; rfl) B2 (Rl.trans r r2)) fun w a z2 => (e w a (by rw [z, z2]; rfl)).later r) fun w a z => e w a (by rw [z]; rfl)
theorem rx_seq (h : Nx R K C E ts σ G er1) (k : Rx R K C E tu σ G er2 S) : Rx R K C E (tSeq ts tu) σ G (erOr er1 er2) S := fun A hA D q e =>
  h A hA _ (fun z B r => k B (Rl.trans hA r) D (fun z2 v d B2 r2 s p => q (by rw [z, z2]; rfl) v d B2 (Rl.trans r r2) s (dp_up (up_back r) d v p)) fun w a z2 => (e w a (by rw [z, z2]; rfl)).later r) fun w a z => e w a (by rw [z]; rfl)
theorem rx_rt (h : Rt R K ts σ G S) : Rx R K C E ts σ G none S := fun A hA D q _ => h A hA D fun v d B r s p => q rfl v d B r s p
theorem rx_ret (h : Ex R K C E te σ G er S) : Rx R K C E (tRet te) σ G er S := fun A hA D q e => h A hA D.rt q e
theorem nx_drop (h : Ex R K C E te σ G er S) : Nx R K C E (tDrop te) σ G er := fun A hA D q e => h A hA _ (fun z v d B r _ _ => q z B r) e
theorem nx_next : Nx R K C E tNext σ G none := fun A hA D q _ => q rfl A (Rl.refl A)
theorem ex_ev (h : EvS R K te σ G S) : Ex R K C E te σ G none S := fun A hA Q q _ => h A hA Q fun v d B r s p => q rfl v d B r s p
/-- f(..), f a def that may raise -/
theorem ex_call {ta : TA} {pre : List PyData → Prop} {erF : List PyData → ErD} {SF : List PyData → PyData → Prop} {ds dfl : List PyData} {dv : List V} (h : EvA R K ta σ G (· = ds)) (hd : ∀ X : Hp, DpAll K X dv dfl) (k : pre (ds ++ dfl)) :
    Ex R K C E (tCallSD (spX K C pre erF SF) dv E ta) σ G (erF (ds ++ dfl)) (SF (ds ++ dfl)) := fun A hA Q q e =>
  h A hA _ fun vs es B r s p => by
    subst s
    refine ⟨own G A B, es ++ dfl, own_same, dpa_app p (hd _), k, fun z v d D rD sd pd => q z v d D (Rl.trans r (Rl.ext rD)) sd (dp_up (fun a o t z => ?_) d v pd), fun w a z dd vw va D rD ed p1 p2 => ?_⟩
    · exact up_in (R := R) r a o t z
    · exact e w a z dd vw va D (Rl.trans r (Rl.ext rD)) ed (dp_up (up_in (R := R) r) _ _ p1) (dp_up (up_in (R := R) r) _ _ p2)
theorem ex_call0 {ta : TA} {pre : List PyData → Prop} {erF : List PyData → ErD} {SF : List PyData → PyData → Prop} {ds : List PyData} (h : EvA R K ta σ G (· = ds)) (k : pre ds) :
    Ex R K C E (tCallSD (spX K C pre erF SF) [] E ta) σ G (erF ds) (SF ds) := by
  have q := ex_call (C := C) (E := E) (pre := pre) (erF := erF) (SF := SF) (dfl := []) (dv := []) h (fun _ => .nil) (by rw [List.append_nil]; exact k)
  rw [List.append_nil] at q
  exact q
end
/-- a def that may raise, called by name -/
structure Cx1 (P : Program) (w : World) (K : PySem.W.Frag) (mg : Str → Option Value) (base : Heap) (k : Nat) (x : Str) (ps : List Str) (dv : List V) (sp : Sp) : Prop where
  ex : ∃ f fd ds, FnOk P w K mg base (L2.CX P w) k f fd ps sp ∧ mg x = some (.ref f) ∧ PySem.W.keepIn K (.ref f) = true ∧ Vals dv ds ∧ Binds K fd ps ds
section
variable {X : Cx} {x : Str} {j k : Nat} {sp : Sp} {t : TA} {e : Expr} {es : List Expr} {p pos : Pos} {ps : List Str} {dv : List V} {W : WX}
theorem pe_x (c : Cx1 X.prog X.w X.K X.mg X.base k x ps dv sp) (hr : Room j X.A) (hk : k ≤ j) (tk : Takes X W) (hg : Gl X x) (ha : PA X (e :: es) t) (hdb : (x == ("__debug__" : Str)) = false := by decide)
    (he : starEach (e :: es) X.env = (false, eval e X.env) :: starEach es X.env := by rfl) (hpl : (backTo pos (starEach es X.env)).any (·.1) = false := by rfl) : PE X (.Call (.Name x p) (e :: es) [] pos) (tCallSD sp dv (WE W) t) := by
  obtain ⟨f, fd, ds, F, hm, kp, rv, b⟩ := c.ex
  exact pe_callSD F (hr.mono hk) hg hm kp b rv (fun σ => passAt tk σ) ha hdb he hpl
end
end K25
end
section
set_option maxRecDepth 100000
set_option maxHeartbeats 2000000
namespace K25
open PySem PySem.Spec PyProof.Rows L2
abbrev s_want : Stmt := topS 18
abbrev s_want_rows : Stmt := topS 19
abbrev s_want_text : Stmt := topS 20
abbrev s_is_row_of : Stmt := topS 21
abbrev s_want_row : Stmt := topS 22
abbrev s_want_way : Stmt := topS 23
/-- what the top holds for the second and third modules -/
structure Ty (P : Program) (K : PySem.W.Frag) (mg : Str → Option Value) (C fI cc : Addr) : Prop where
  x : Tx K mg
  nu : K25X.NuTxt P K mg C fI cc
  n_enumerate : mg "enumerate" = none
  d_want : ∃ f fd, FunD K "want" "want" (defArgs s_want) (defBody s_want) (defScope s_want) [.int (-1)] [] f fd ∧ mg "want" = some (.ref f)
  d_want_rows : DefAt K mg "want_rows" s_want_rows
  d_want_text : DefAt K mg "want_text" s_want_text
  d_is_row_of : DefAt K mg "is_row_of" s_is_row_of
  d_want_row : DefAt K mg "want_row" s_want_row
  d_want_way : DefAt K mg "want_way" s_want_way
section
variable {R : Hp → Hp → Prop} [Rl R] {K : PySem.W.Frag} {C : Addr} {E : L2.St → XK} {σ : L2.St} {G A B : Hp} {ts tu tw : TS} {te : TE} {er er1 er2 : ErD} {S : PyData → Prop}
theorem nx_if {t : TT} {b : Bool} (h : EvT R t σ G (· = b)) (h1 : b = true → Nx R K C E tu σ G er) (h2 : b = false → Nx R K C E tw σ G er) : Nx R K C E (tIfS t tu tw) σ G er := fun A hA D q e =>
  h A hA _ fun c B r s => by
    subst s
    cases c with
    | true => exact h1 rfl B (Rl.trans hA r) D (fun z B2 r2 => q z B2 (Rl.trans r r2)) fun w a z => (e w a z).later r
    | false => exact h2 rfl B (Rl.trans hA r) D (fun z B2 r2 => q z B2 (Rl.trans r r2)) fun w a z => (e w a z).later r
theorem nx_raise {W : WX} {ta : TA} {w a : PyData} (h : EvA R K ta σ G (· = [w, a])) : Nx R K C (WE W) (fun _ σ H => tNu C ta σ H fun cls d H' => W cls d σ H') σ G (some (w, a)) := fun A hA D q e =>
  h A hA _ fun vs es B r s p => by
    subst s
    match vs, p with
    | [vw, va], .cons pw (.cons pa .nil) =>
      refine ⟨vw, va, rfl, fun d nd => ?_⟩
      have up : ∀ b o, Stay o → own G A B b = some o → own G A (upd B d (.xd (nuF vw va))) b = some o := up_new (R := R) r nd
      exact e w a rfl d vw va _ (Rl.new r (Rl.dom r nd)) upd_same (dp_up up _ _ pw) (dp_up up _ _ pa)
theorem nx_ex0 {er' : ErD} (h : Nx R K C E ts σ G er) (e : er = er') : Nx R K C E ts σ G er' := e ▸ h
end
section
variable {P : Program} {w : World} {K : PySem.W.Frag} {mg : Str → Option Value} {base : Heap} {C : Addr}
theorem cx_fn {x : Str} {st : Stmt} {N ps : List Str} {k : Nat} {pre : List PyData → Prop} {er : List PyData → ErD} {S : List PyData → PyData → Prop} {f : Addr} {fd : FuncData} {dvs : List V}
    (F : FunD K x x (defArgs st) (defBody st) (defScope st) dvs [] f fd) (Sc : FnScope N ps (defScope st)) (hn : ∀ ds, pre ds → ds.length = ps.length)
    (hbody : ∀ (cdv : Value) (A : Around) (outer : List Env) (s : Shared) (H : Hp) (E : XK), Room k (A.deeper (envOfC x (defScope st) s.heap.objs.size f cdv)) →
      ∃ t, PSs (cxOf (L2.CX P w) P w K mg base N x (defScope st) f cdv A outer s H E) (defBody st) t ∧ ∀ (vs : List V) (G : Hp) (ds : List PyData), DpAll K G vs ds → pre ds →
        Rx Same K C (fun _ => E) t (L2.start N vs) G (er ds) (S ds) ∨ (Nx Same K C (fun _ => E) t (L2.start N vs) G (er ds) ∧ S ds .none)) :
    FnOk P w K mg base (L2.CX P w) (k + 1) f fd ps (spX K C pre er S) := by
  refine F.ok Sc (fun vs H Q E h => ?_) fun cdv A outer s H vs Q E hr h => ?_
  · obtain ⟨G, ds, _, p, hp, _⟩ := h
    rw [dpa_len p]
    exact hn ds hp
  · obtain ⟨t, ht, hq⟩ := hbody cdv A outer s H E hr
    refine ⟨t, ht, ?_⟩
    obtain ⟨G, ds, sm, p, hp, q, e⟩ := h
    rcases hq vs G ds p hp with hq | ⟨hq, s0⟩
    · exact hq H sm _ q e
    · exact hq H sm _ (fun z B r => q z .non .none B r s0 .non) e
theorem funD_of {x : Str} {st : Stmt} {f : Addr} {fd : FuncData} (F : Fun K x x st f fd) : FunD K x x (defArgs st) (defBody st) (defScope st) [] [] f fd := by
  obtain ⟨oc, od, kV, doc, pm, an, cdv, ct, osl, e1, e2, e3⟩ := F.ex
  exact ⟨⟨oc, od, .none, kV, doc, pm, an, cdv, ct, osl, e1, e2, e3, .inl ⟨rfl, rfl⟩, .inl rfl⟩, F.kp⟩
theorem cx_d {x : Str} {st : Stmt} {N ps : List Str} {k : Nat} {pre : List PyData → Prop} {er : List PyData → ErD} {S : List PyData → PyData → Prop} (D : DefAt K mg x st)
    (hb : ∀ (kV doc pm : Value) (an : Option Addr) (cdv ct : Value) (us : List Value), us.length = ps.length → bindArgs (PySem.W.fnOf x x (defArgs st) (defBody st) (defScope st) .none kV doc pm an cdv ct) ⟨us, []⟩ = pure (ps.zip us))
    (Sc : FnScope N ps (defScope st)) (hn : ∀ ds, pre ds → ds.length = ps.length)
    (hbody : ∀ (f : Addr) (cdv : Value) (A : Around) (outer : List Env) (s : Shared) (H : Hp) (E : XK), Room k (A.deeper (envOfC x (defScope st) s.heap.objs.size f cdv)) →
      ∃ t, PSs (cxOf (L2.CX P w) P w K mg base N x (defScope st) f cdv A outer s H E) (defBody st) t ∧ ∀ (vs : List V) (G : Hp) (ds : List PyData), DpAll K G vs ds → pre ds →
        Rx Same K C (fun _ => E) t (L2.start N vs) G (er ds) (S ds) ∨ (Nx Same K C (fun _ => E) t (L2.start N vs) G (er ds) ∧ S ds .none)) :
    Cx1 P w K mg base (k + 1) x ps [] (spX K C pre er S) := by
  obtain ⟨f, fd, F, hm⟩ := D
  exact ⟨f, fd, [], cx_fn (funD_of F) Sc hn (fun cdv => hbody f cdv), hm, F.kp, .nil, F.binds hb⟩
variable {fI cc : Addr}
/-! ### want -/
def preWant (ds : List PyData) : Prop := ∃ b x y, ds = [.bool b, x, y]
def erWant : List PyData → ErD
  | [.bool true, _, _] => none
  | [_, x, y] => some (x, y)
  | _ => none
abbrev isNone (_ : List PyData) (d : PyData) : Prop := d = .none
abbrev spWant (K : PySem.W.Frag) (C : Addr) : Sp := spX K C preWant erWant isNone
theorem sc_want : FnScope ["is_right", "word", "at"] ["is_right", "word", "at"] (defScope s_want) := ⟨rfl, rfl, rfl, by decide +kernel, rfl, by decide +kernel, by decide +kernel⟩
theorem fn_want (T : Ty P K mg C fI cc) {f : Addr} {fd : FuncData} (F : FunD K "want" "want" (defArgs s_want) (defBody s_want) (defScope s_want) [.int (-1)] [] f fd) : FnOk P w K mg base (L2.CX P w) 1 f fd ["is_right", "word", "at"] (spWant K C) := by
  refine cx_fn F sc_want (fun ds ⟨b, x, y, e⟩ => by rw [e]; rfl) fun cdv A outer s H E hr => ?_
  refine ⟨_, (pss_one (ps_if (pt_not (pt_val (pv 0))) (pss_one (ps_raise (W := fun c d _ H => E c d H) rfl (takes_of rfl rfl rfl rfl) (by exact pmk_nu T.nu hr (pa_cons (pv 1) (pa_cons (pv 2) pa_nil))))) pss_nil)), fun vs G ds p hp => ?_⟩
  obtain ⟨b, x, y, e⟩ := hp
  subst e
  match vs, p with
  | [v1, v2, v3], .cons p1 (.cons p2 (.cons p3 .nil)) =>
    refine .inr ⟨nx_if (t_not (t_B (e_var rfl p1))) (fun hb => ?_) fun hb => ?_, rfl⟩
    · cases b with
      | true => cases hb
      | false => exact nx_raise (W := fun c d _ H => E c d H) (a_one (e_var rfl p2) (a_one (e_var rfl p3) a_nil))
    · cases b with
      | true => exact nx_next
      | false => cases hb
theorem dfl_bind {x : Str} {st : Stmt} {f : Addr} {fd : FuncData} {dvs : List V} {ps : List Str} (F : FunD K x x (defArgs st) (defBody st) (defScope st) dvs [] f fd) (n : Nat) (hn : n + dvs.length = ps.length) (hd : dvs ≠ [])
    (h : ∀ (Ta : Addr) (kV doc pm : Value) (an : Option Addr) (cdv ct : Value) (us its : List Value), us.length = n → its.length = dvs.length →
      ∃ k, bindArgs (PySem.W.fnOf x x (defArgs st) (defBody st) (defScope st) (.ref Ta) kV doc pm an cdv ct) ⟨us, []⟩ = seqItems? (.ref Ta) >>= k ∧ k (some its.toArray) = pure (ps.zip (us ++ its))) : ∃ ds, Vals dvs ds ∧ Binds K fd ps ds :=
  F.binds1 n 0 hd hn h
theorem cl_want3 (T : Ty P K mg C fI cc) : Cx1 P w K mg base 1 "want" ["is_right", "word", "at"] [] (spWant K C) := by
  obtain ⟨f, fd, F, hm⟩ := T.d_want
  obtain ⟨ds, rv, b⟩ := F.binds1 (ps := ["is_right", "word", "at"]) 3 1 (by simp) rfl fun Ta kV doc pm an cdv ct us its l1 l2 => by
    match us, l1, its, l2 with
    | [a, b, c], _, [d], _ => exact ⟨_, by first | rfl | with_unfolding_all rfl, by first | rfl | with_unfolding_all rfl⟩
  exact ⟨f, fd, ds, fn_want T F, hm, F.kp, rv, b⟩
theorem cl_want2 (T : Ty P K mg C fI cc) : Cx1 P w K mg base 1 "want" ["is_right", "word", "at"] [.int (-1)] (spWant K C) := by
  obtain ⟨f, fd, F, hm⟩ := T.d_want
  obtain ⟨ds, rv, b⟩ := dfl_bind (ps := ["is_right", "word", "at"]) F 2 rfl (by simp) fun Ta kV doc pm an cdv ct us its l1 l2 => by
    match us, l1, its, l2 with
    | [a, b], _, [c], _ => exact ⟨_, by first | rfl | with_unfolding_all rfl, by first | rfl | with_unfolding_all rfl⟩
  exact ⟨f, fd, ds, fn_want T F, hm, F.kp, rv, b⟩
end
end K25
end
section
set_option maxRecDepth 100000
set_option maxHeartbeats 2000000
namespace K25
open PySem PySem.Spec PyProof.Rows L2
/-! ### loops that may raise -/
/-- the first error of m turns from the i-th on -/
def erFrom (f : Nat → ErD) : Nat → Nat → ErD
  | _, 0 => none
  | i, m + 1 => erOr (f i) (erFrom f (i + 1) m)
section
variable {R : Hp → Hp → Prop} [Rl R] {K : PySem.W.Frag} {C : Addr} {E : L2.St → XK} {σ : L2.St} {G A B : Hp} {ts tu tw : TS} {te : TE} {er er1 er2 : ErD} {S : PyData → Prop}
/-- goes on with slots of which P tells, or raises -/
def Nz (R : Hp → Hp → Prop) (K : PySem.W.Frag) (C : Addr) (E : XK) (ts : TS) (σ : L2.St) (G : Hp) (er : ErD) (Ps : L2.St → Prop) : Prop := ∀ A, R G A → ∀ D : Ends, (er = none → ∀ B σ', R A B → Ps σ' → D.nx σ' B) → (∀ w a, er = some (w, a) → ErrAt R K C E G A w a) → ts D σ A
theorem nz_nx {E0 : XK} {Ps : L2.St → Prop} (h : Nx R K C (fun _ => E0) ts σ G er) (hp : Ps σ) : Nz R K C E0 ts σ G er Ps := fun A hA D q e => h A hA D (fun z B r => q z B σ r hp) e
theorem nx_seq' (h : Nx R K C E ts σ G er1) (k : er1 = none → Nx R K C E tu σ G er2) : Nx R K C E (tSeq ts tu) σ G (erOr er1 er2) := fun A hA D q e =>
  h A hA _ (fun z B r => k z B (Rl.trans hA r) D (fun z2 B2 r2 => q (by rw [z, z2]; rfl) B2 (Rl.trans r r2)) fun w a z2 => (e w a (by rw [z, z2]; rfl)).later r) fun w a z => e w a (by rw [z]; rfl)
theorem rx_seq' (h : Nx R K C E ts σ G er1) (k : er1 = none → Rx R K C E tu σ G er2 S) : Rx R K C E (tSeq ts tu) σ G (erOr er1 er2) S := fun A hA D q e =>
  h A hA _ (fun z B r => k z B (Rl.trans hA r) D (fun z2 v d B2 r2 s p => q (by rw [z, z2]; rfl) v d B2 (Rl.trans r r2) s (dp_up (up_back r) d v p)) fun w a z2 => (e w a (by rw [z, z2]; rfl)).later r) fun w a z => e w a (by rw [z]; rfl)
theorem nz_seq' {E0 : XK} {Ps : L2.St → Prop} (h : Nx R K C (fun _ => E0) ts σ G er1) (k : er1 = none → Nz R K C E0 tu σ G er2 Ps) : Nz R K C E0 (tSeq ts tu) σ G (erOr er1 er2) Ps := fun A hA D q e =>
  h A hA _ (fun z B r => k z B (Rl.trans hA r) D (fun z2 B2 σ' r2 hp => q (by rw [z, z2]; rfl) B2 σ' (Rl.trans r r2) hp) fun w a z2 => (e w a (by rw [z, z2]; rfl)).later r) fun w a z => e w a (by rw [z]; rfl)
theorem up_loop {X X' : Hp} (r : R A B) (rX : R B X) (r2 : R X X') {D : Hp} (rD : R X' D) : ∀ a o, Stay o → own (own (own G A B) X X') X' D a = some o → own G A D a = some o := fun a o t e =>
  up_in (R := R) r a o t (up_back (R := R) rX a o t (up_in (R := R) r2 a o t e))
theorem nz_er {E0 : XK} {Ps : L2.St → Prop} (h : Nz R K C E0 ts σ G er Ps) (e : er = er1) : Nz R K C E0 ts σ G er1 Ps := e ▸ h
theorem nz_tr {E0 : XK} {Ps : L2.St → Prop} (h : Nz R K C E0 ts σ G er Ps) : Nz R K C E0 ts σ G er (fun _ => True) := fun A hA D q e => h A hA D (fun z B σ' r _ => q z B σ' r trivial) e
theorem nz_for {E0 : XK} {wi : TI} {g : TG} {n : Nat} {Sd : Nat → PyData → Prop} (Ps : L2.St → Prop) (f : Nat → ErD) (hi : ItD R K wi σ G (· = n) Sd) (h0 : Ps σ)
    (hb : ∀ i d x σ' G', i < n → R G G' → Ps σ' → Sd i d → Dp K G' x d → ∃ σ2, Binds2 K g σ' G' x σ2 ∧ Nz R K C E0 ts σ2 G' (f i) Ps) : Nz R K C E0 (tFor wi g ts) σ G (erFrom f 0 n) Ps := fun A hA D q e =>
  hi A hA _ fun J m B Gd Y r sn wk hG hy => by
    subst sn
    refine ⟨fun i k σ' X => i + k = m ∧ Ps σ' ∧ R B X ∧ erFrom f 0 m = erFrom f i k, ⟨m, by omega, h0, Rl.refl B, rfl⟩, fun i k σ' X ⟨hik, hp, rX, he⟩ => ?_⟩
    cases k with
    | zero =>
      obtain rfl : i = m := by omega
      exact .inl ⟨wk.stops X (hG X rX), q he X σ' (Rl.trans r rX) hp⟩
    | succ k =>
      refine .inr ⟨wk.goes i X (by omega) (hG X rX), fun σ2 H2 => (∃ m', m' < k + 1 ∧ i + 1 + m' = m ∧ Ps σ2 ∧ R B H2 ∧ erFrom f 0 m = erFrom f (i + 1) m'), fun σ2 H2 ⟨m', h1, h2⟩ => ⟨m', h1, h2⟩, fun x X' y => ?_⟩
      obtain ⟨rXX, d, sd, pd⟩ := hy i X x X' (by omega) rX (wk.yields i X x X' (by omega) (hG X rX) y)
      have g1 : R G (own G A B) := r_own hA r
      have gX : R (own G A B) X := Rl.trans own_r rX
      have g2 : R (own G A B) (own (own G A B) X X') := r_own gX rXX
      obtain ⟨σ2, b, hn⟩ := hb i d x σ' _ (by omega) (Rl.trans g1 g2) hp sd pd
      refine b X' _ (fun a o t z => (own_some z).1) (hn X' own_r _ (fun z H3 σ3 r3 hp3 => ?_) fun w a z dd vw va H3 r3 ed p1 p2 => ?_)
      · exact ⟨k, Nat.lt_succ_self k, by omega, hp3, Rl.trans (Rl.trans rX rXX) r3, by rw [he, erFrom, z]; rfl⟩
      · refine e w a (by rw [he, erFrom, z]; rfl) dd vw va H3 (Rl.trans r (Rl.trans (Rl.trans rX rXX) r3)) ed (dp_up (up_loop r rX rXX r3) _ _ p1) (dp_up (up_loop r rX rXX r3) _ _ p2)
end
theorem e_un {R : Hp → Hp → Prop} [Rl R] {K : PySem.W.Frag} {σ : L2.St} {G : Hp} {te : TE} {i : Int} {g : Int → V} {d : PyData} (h : EvS R K te σ G (· = .int i)) (hg : ∀ X : Hp, Dp K X (g i) d) : EvS R K (tUn (rU g) te) σ G (· = d) := fun A hA Q q =>
  h A hA _ fun v d' B r s p => by
    subst s
    cases p
    exact ⟨i, rfl, q _ _ B r rfl (hg _)⟩
section
variable {P : Program} {w : World} {K : PySem.W.Frag} {mg : Str → Option Value} {base : Heap} {C : Addr}
theorem cx_n {x : Str} {st : Stmt} {N ps : List Str} {k : Nat} {pre : List PyData → Prop} {er : List PyData → ErD} (D : DefAt K mg x st)
    (hb : ∀ (kV doc pm : Value) (an : Option Addr) (cdv ct : Value) (us : List Value), us.length = ps.length → bindArgs (PySem.W.fnOf x x (defArgs st) (defBody st) (defScope st) .none kV doc pm an cdv ct) ⟨us, []⟩ = pure (ps.zip us))
    (Sc : FnScope N ps (defScope st)) (hn : ∀ ds, pre ds → ds.length = ps.length)
    (hbody : ∀ (f : Addr) (cdv : Value) (A : Around) (outer : List Env) (s : Shared) (H : Hp) (E : XK), Room k (A.deeper (envOfC x (defScope st) s.heap.objs.size f cdv)) →
      ∃ t, PSs (cxOf (L2.CX P w) P w K mg base N x (defScope st) f cdv A outer s H E) (defBody st) t ∧ ∀ (vs : List V) (G : Hp) (ds : List PyData), DpAll K G vs ds → pre ds →
        Nz Same K C E t (L2.start N vs) G (er ds) (fun _ => True)) :
    Cx1 P w K mg base (k + 1) x ps [] (spX K C pre er isNone) := by
  obtain ⟨f, fd, F, hm⟩ := D
  refine ⟨f, fd, [], (funD_of F).ok Sc (fun vs H Q E h => ?_) (fun cdv A outer s H vs Q E hr h => ?_), hm, F.kp, .nil, F.binds hb⟩
  · obtain ⟨G, ds, _, p, hp, _⟩ := h
    rw [dpa_len p]
    exact hn ds hp
  · obtain ⟨t, ht, hq⟩ := hbody f cdv A outer s H E hr
    refine ⟨t, ht, ?_⟩
    obtain ⟨G, ds, sm, p, hp, q, e⟩ := h
    exact hq vs G ds p hp H sm _ (fun z B _ r _ => q z .non .none B r rfl .non) e
variable {fI cc : Addr}
/-! ### want_rows .. want_way -/
theorem sc_want_rows : FnScope ["word", "thing", "k", "row"] ["word", "thing"] (defScope s_want_rows) := ⟨rfl, rfl, rfl, by decide +kernel, rfl, by decide +kernel, by decide +kernel⟩
def rowEr (wd : PyData) (ds : List PyData) (i : Nat) : ErD := erWant [.bool (isRowD (ds.getD i .none)), wd, .int i]
def erRows : List PyData → ErD
  | [wd, .tuple ds] => erFrom (rowEr wd ds) 0 ds.length
  | [wd, _] => some (wd, .int (-1))
  | _ => none
def preRows (ds : List PyData) : Prop := ∃ wd d, ds = [wd, d] ∧ Fine d
theorem cl_want_rows (T : Ty P K mg C fI cc) : Cx1 P w K mg base 5 "want_rows" ["word", "thing"] [] (spX K C preRows erRows isNone) := by
  refine cx_n T.d_want_rows (fun _ _ _ _ _ _ us hl => match us, hl with | [_, _], _ => rfl) sc_want_rows (fun ds ⟨a, b, e, _⟩ => by rw [e]; rfl) fun f cdv A outer s H E hr => ⟨_,
    (pss_cons (ps_expr (pe_x (W := fun c d _ H => E c d H) (cl_want2 T) hr (by decide) (takes_of rfl rfl rfl rfl) rfl (pa_cons (pe_callB call_isi rfl T.x.n_isinstance boot_isi (pa_cons (pv 1) (pa_cons (pe_bltn (v := .ty "tuple") rfl T.x.n_tuple boot_tupleT rfl) pa_nil))) (pa_cons (pv 0) pa_nil))))
      (pss_one (ps_for (passes_of rfl) rfl (pi_enumT rfl T.n_enumerate (pa_cons (pv 1) pa_nil)) (pg_tup rfl (pgs_cons (pg_name (i := 2) sc_want_rows.nd rfl (Or.inl rfl)) (pgs_cons (pg_name (i := 3) sc_want_rows.nd rfl (Or.inl rfl)) pgs_nil)))
        (pss_one (ps_expr (pe_x (W := fun c d _ H => E c d H) (cl_want3 T) hr (by decide) (takes_of rfl rfl rfl rfl) rfl (pa_cons (pe_k (cl_is_row T.x) hr (by decide) rfl (pa_cons (pv 3) pa_nil)) (pa_cons (pv 0) (pa_cons (pv 2) pa_nil))))))))), fun vs G ds p hp => ?_⟩
  obtain ⟨wd, d, e, hd⟩ := hp
  subst e
  match vs, p with
  | [v1, v2], .cons p1 (.cons p2 .nil) =>
    rcases noTup p2 with ⟨h1, _, _, _⟩ | ⟨ds, rfl⟩
    · refine nz_er (er := erOr (some (wd, .int (-1))) none) (nz_seq' (er1 := some (wd, .int (-1))) (nx_drop (ex_call (ds := [.bool false, wd]) (dfl := [.int (-1)]) (a_one (e_isi (e_var rfl p2) h1) (a_one (e_var rfl p1) a_nil)) (fun _ => .cons (.int _) .nil) ⟨_, _, _, rfl⟩)) fun z => by cases z) ?_
      cases d with
      | tuple ds => exact absurd h1 (by show ¬ kitB "tuple" "tuple" = some false; decide +kernel)
      | _ => rfl
    · refine nz_seq' (er1 := none) (nx_drop (ex_call (ds := [.bool true, wd]) (dfl := [.int (-1)]) (a_one (e_isi (e_var rfl p2) (by decide +kernel : kitB "tuple" "tuple" = some true)) (a_one (e_var rfl p1) a_nil)) (fun _ => .cons (.int _) .nil) ⟨_, _, _, rfl⟩)) fun _ => ?_
      refine nz_tr (nz_for (fun σ => ∃ a b, σ = [some v1, some v2, a, b]) (rowEr wd ds) (it_enT (e_var rfl p2)) ⟨none, none, rfl⟩ fun i d x σ' G' hi hG hs sd pd => ?_)
      obtain ⟨e, he, rfl⟩ := sd
      obtain ⟨a, b, rfl⟩ := hs
      obtain ⟨y, z, py, pz, hb⟩ := b_pair (i := 2) (j := 3) (σ := [some v1, some v2, a, b]) pd
      refine ⟨_, hb, nz_nx (nx_drop (ex_call0 (C := C) (E := fun _ => E) (pre := preWant) (erF := erWant) (SF := isNone) (ds := [.bool (isRowD (ds.getD i .none)), wd, .int i]) ?_ ⟨_, _, _, rfl⟩)) ⟨_, _, rfl⟩⟩
      refine a_one (e_k1 (e_var rfl (by rw [getD_of he]; exact pz)) ?_) (a_one (e_var rfl (dp_up (fun a o t e => Rl.stay hG t e) _ _ p1)) (a_one (e_var rfl py) a_nil))
      rw [getD_of he]
      exact hd.tup.2 e (List.mem_of_getElem? he)
theorem sc_want_text : FnScope ["text"] ["text"] (defScope s_want_text) := ⟨rfl, rfl, rfl, by decide +kernel, rfl, by decide +kernel, by decide +kernel⟩
def strD (s : String) : PyData := .str (Str.ofString s)
def erText : List PyData → ErD
  | [d] => erRows [.str "text", d]
  | _ => none
def fine1 (ds : List PyData) : Prop := ∃ d, ds = [d] ∧ Fine d
theorem cl_want_text (T : Ty P K mg C fI cc) : Cx1 P w K mg base 6 "want_text" ["text"] [] (spX K C fine1 erText isNone) := by
  refine cx_n T.d_want_text (fun _ _ _ _ _ _ us hl => match us, hl with | [_], _ => rfl) sc_want_text (fun ds ⟨a, e, _⟩ => by rw [e]; rfl) fun f cdv A outer s H E hr => ⟨_,
    (pss_one (ps_expr (pe_x (W := fun c d _ H => E c d H) (cl_want_rows T) hr (by decide) (takes_of rfl rfl rfl rfl) rfl (pa_cons pe_str (pa_cons (pv 0) pa_nil))))), fun vs G ds p hp => ?_⟩
  obtain ⟨d, e, hd⟩ := hp
  subst e
  match vs, p with
  | [v1], .cons p1 .nil => exact nz_nx (nx_drop (ex_call0 (a_one e_str (a_one (e_var rfl p1) a_nil)) ⟨_, _, rfl, hd⟩)) trivial
theorem sc_is_row_of : FnScope ["text", "thing"] ["text", "thing"] (defScope s_is_row_of) := ⟨rfl, rfl, rfl, by decide +kernel, rfl, by decide +kernel, by decide +kernel⟩
def isRowOf : List PyData → Bool
  | [.tuple es, .int i] => decide (0 ≤ i) && decide (i < es.length)
  | _ => false
theorem cl_is_row_of (T : Ty P K mg C fI cc) : Cl P w K mg base 3 "is_row_of" (spD K (fun ds => ∃ es d, ds = [.tuple es, d]) (fun ds => .bool (isRowOf ds))) := by
  refine cl_d (ps := ["text", "thing"]) T.d_is_row_of (fun _ _ _ _ _ _ us hl => match us, hl with | [_, _], _ => rfl) sc_is_row_of (fun ds ⟨a, b, e⟩ => by rw [e]; rfl) fun f cdv A outer s H E hr => ⟨_,
    (pss_one (ps_ret (pe_and (pe_k (cl_is_number T.x) hr (by decide) rfl (pa_cons (pv 1) pa_nil)) (pe_one (pe_cmpR op_lt (pv 1) (pe_callB call_len rfl T.x.n_len PySem.boot_len (pa_cons (pv 0) pa_nil)) (nomark _)))))), fun vs G ds p hp => ?_⟩
  obtain ⟨es, d, e⟩ := hp
  subst e
  match vs, p with
  | [v1, v2], .cons p1 (.cons p2 .nil) =>
    refine rt_ret ((e_and (b := isRowOf [.tuple es, d]) (e_k1 (e_var rfl p2) trivial) fun hi => ?_).to ?_)
    · cases d with
      | int i => exact e_op1 (e_var rfl p2) (e_len (e_var rfl p1) (.inl ⟨es, rfl, rfl⟩)) (rs_I0 fun X => by
          have h : decide ((0 : Int) ≤ i) = true := hi
          show Dp K X (.bl (decide (i < (es.length : Int)))) (.bool (decide ((0 : Int) ≤ i) && decide (i < (es.length : Int))))
          rw [h]
          exact .bl _)
      | _ => cases hi
    · cases d with
      | int i =>
        show PyData.bool (decide ((0 : Int) ≤ i) && (decide ((0 : Int) ≤ i) && decide (i < (es.length : Int)))) = .bool (decide ((0 : Int) ≤ i) && decide (i < (es.length : Int)))
        rw [← Bool.and_assoc, Bool.and_self]
      | _ => rfl
theorem sc_want_row : FnScope ["text", "row"] ["text", "row"] (defScope s_want_row) := ⟨rfl, rfl, rfl, by decide +kernel, rfl, by decide +kernel, by decide +kernel⟩
def erRow : List PyData → ErD
  | [t, d] => erWant [.bool (isRowOf [t, d]), .str "row", d]
  | _ => none
theorem cl_want_row (T : Ty P K mg C fI cc) : Cx1 P w K mg base 4 "want_row" ["text", "row"] [] (spX K C (fun ds => ∃ es d, ds = [.tuple es, d]) erRow isNone) := by
  refine cx_n T.d_want_row (fun _ _ _ _ _ _ us hl => match us, hl with | [_, _], _ => rfl) sc_want_row (fun ds ⟨a, b, e⟩ => by rw [e]; rfl) fun f cdv A outer s H E hr => ⟨_,
    (pss_one (ps_expr (pe_x (W := fun c d _ H => E c d H) (cl_want3 T) hr (by decide) (takes_of rfl rfl rfl rfl) rfl (pa_cons (pe_k (cl_is_row_of T) hr (by decide) rfl (pa_cons (pv 0) (pa_cons (pv 1) pa_nil))) (pa_cons pe_str (pa_cons (pv 1) pa_nil)))))), fun vs G ds p hp => ?_⟩
  obtain ⟨es, d, e⟩ := hp
  subst e
  match vs, p with
  | [v1, v2], .cons p1 (.cons p2 .nil) => exact nz_nx (nx_drop (ex_call0 (a_one (e_callD (a_one (e_var rfl p1) (a_one (e_var rfl p2) a_nil)) ⟨_, _, rfl⟩) (a_one e_str (a_one (e_var rfl p2) a_nil))) ⟨_, _, _, rfl⟩)) trivial
theorem sc_want_way : FnScope ["text", "way"] ["text", "way"] (defScope s_want_way) := ⟨rfl, rfl, rfl, by decide +kernel, rfl, by decide +kernel, by decide +kernel⟩
/-- the last entry's gap is of the text -/
def gapOk (n : Nat) : PyData → Bool
  | .tuple [.int i, _] => decide (i ≤ n)
  | _ => false
def lastOk (n : Nat) (ds : List PyData) : Bool := match ds.getLast? with
  | none => true
  | some d => gapOk n d
theorem way_entry {ds : List PyData} {d : PyData} (h : isWayD (.tuple ds) = true) (m : d ∈ ds) : ∃ (i : Int) (r : List PyData), d = .tuple [.int i, .tuple r] ∧ 0 ≤ i ∧ r ≠ [] ∧ ∀ e ∈ r, isRowD e = true := by
  have h : (ds.all isPairD && (ds.all wayEntry && isGapsD (.tuple (ds.map fstD)))) = true := h
  rw [Bool.and_eq_true, Bool.and_eq_true, List.all_eq_true, List.all_eq_true] at h
  obtain ⟨h1, h2, h3⟩ := h
  have h3 : ((ds.map fstD).all isNumD && _) = true := h3
  rw [Bool.and_eq_true, List.all_eq_true] at h3
  obtain ⟨a, b, rfl⟩ := pair_tup (h1 d m)
  have q := h2 _ m
  have n := h3.1 a (List.mem_map.2 ⟨_, m, rfl⟩)
  cases b with
  | tuple r =>
    have q2 : (isTextD (.tuple r) && decide ((0 : Int) < (r.length : Int))) = true := q
    rw [Bool.and_eq_true, decide_eq_true_eq] at q2
    cases a with
    | int i =>
      refine ⟨i, r, rfl, of_decide_eq_true n, fun e => by rw [e] at q2; exact absurd q2.2 (by decide), ?_⟩
      have t : r.all isRowD = true := q2.1
      rw [List.all_eq_true] at t
      exact t
    | _ => cases n
  | _ => cases q
def lastD (n : Nat) : PyData → Bool
  | .tuple ds => lastOk n ds
  | _ => false
def wayOk (n : Nat) (d : PyData) : Bool := isWayD d && lastD n d
def erWay : List PyData → ErD
  | [.tuple es, d] => erWant [.bool (wayOk es.length d), .str "way", .int (-1)]
  | _ => none
theorem cl_want_way (T : Ty P K mg C fI cc) : Cx1 P w K mg base 7 "want_way" ["text", "way"] [] (spX K C (fun ds => ∃ es d, ds = [.tuple es, d] ∧ Fine d) erWay isNone) := by
  refine cx_n T.d_want_way (fun _ _ _ _ _ _ us hl => match us, hl with | [_, _], _ => rfl) sc_want_way (fun ds ⟨a, b, e, _⟩ => by rw [e]; rfl) fun f cdv A outer s H E hr => ⟨_,
    (pss_one (ps_expr (pe_x (W := fun c d _ H => E c d H) (cl_want2 T) hr (by decide) (takes_of rfl rfl rfl rfl) rfl (pa_cons (pe_and (pe_k (cl_is_way T.x) hr (by decide) rfl (pa_cons (pv 1) pa_nil)) (pe_one (pe_or (pe_cmpR (op_eqD hr.units) (pe_callB call_len rfl T.x.n_len PySem.boot_len (pa_cons (pv 1) pa_nil)) pe_int (nomark _)) (pe_one (pe_cmpR op_le (pe_ix ix_tup (pe_ix ix_tup (pv 1) (pe_un un_neg pe_int) (fun _ _ => rfl)) pe_int (fun _ _ => rfl)) (pe_callB call_len rfl T.x.n_len PySem.boot_len (pa_cons (pv 0) pa_nil)) (nomark _)))))) (pa_cons pe_str pa_nil))))), fun vs G ds p hp => ?_⟩
  obtain ⟨es, d, e, hd⟩ := hp
  subst e
  match vs, p with
  | [v1, v2], .cons p1 (.cons p2 .nil) =>
    refine nz_nx (nx_ex0 (nx_drop (ex_call (ds := [.bool (wayOk es.length d), .str "way"]) (dfl := [.int (-1)]) (a_one ((e_and (b := wayOk es.length d) (e_k1 (e_var rfl p2) hd) fun hi => ?_).to ?_) (a_one e_str a_nil)) (fun _ => .cons (.int _) .nil) ⟨_, _, _, rfl⟩)) rfl) trivial
    · cases d with
      | tuple ds =>
        have e : wayOk es.length (.tuple ds) = lastOk es.length ds := by
          show (isWayD (.tuple ds) && lastOk es.length ds) = _
          rw [hi, Bool.true_and]
        rw [e]
        rcases List.eq_nil_or_concat ds with rfl | ⟨ls, l, rfl⟩
        · exact (e_or (a := true) (b := true) ((e_op1 (e_len (e_var rfl p2) (.inl ⟨_, rfl, rfl⟩)) e_int (rs_eq (sh_int _) (sh_int _))).to rfl) fun h => by cases h).to rfl
        · rw [List.concat_eq_append] at hi p2 ⊢
          obtain ⟨i, r, rfl, h0, hr, hR⟩ := way_entry hi (List.mem_append_right _ (List.mem_singleton.2 rfl))
          refine (e_or (a := false) (b := decide (i ≤ (es.length : Int))) ((e_op1 (e_len (e_var rfl p2) (.inl ⟨_, rfl, rfl⟩)) e_int (rs_eq (sh_int _) (sh_int _))).to ?_) fun _ => ?_).to ?_
          · rw [eqv_int]
            have : ((ls ++ [PyData.tuple [.int i, .tuple r]]).length : Int) ≠ 0 := by rw [List.length_append]; simp; omega
            rw [show (((ls ++ [PyData.tuple [.int i, .tuple r]]).length : Int) == 0) = false by simpa using this]
          · exact e_op1 (e_op1 (dx := .tuple [.int i, .tuple r]) (e_op1 (e_var rfl p2) (e_un e_int (fun X => .int _)) (rs_ixT (atI_last _ _))) e_int (rs_ixT (d := .int i) rfl)) (e_len (e_var rfl p1) (.inl ⟨es, rfl, rfl⟩)) (rs_I0 fun X => .bl _)
          · show PyData.bool (false || decide (i ≤ (es.length : Int))) = .bool (lastOk es.length _)
            rw [Bool.false_or]
            unfold lastOk
            rw [List.getLast?_append]
            rfl
      | _ => cases hi
    · show PyData.bool (isWayD d && (isWayD d && _)) = .bool (isWayD d && _)
      rw [← Bool.and_assoc, Bool.and_self]
end
end K25
end
section
set_option maxRecDepth 100000
set_option maxHeartbeats 2000000
namespace K25
open PySem PySem.Spec PyProof.Rows L2
/-! ### values of which more is told than their data -/
abbrev ZP := Hp → V → Prop
def ZMono (Z : ZP) : Prop := ∀ X Y v, (∀ a o, Stay o → X a = some o → Y a = some o) → Z X v → Z Y v
/-- data d -/
def ZD (K : PySem.W.Frag) (S : PyData → Prop) : ZP := fun X v => ∃ d, S d ∧ Dp K X v d
theorem zd_mono {K : PySem.W.Frag} {S : PyData → Prop} : ZMono (ZD K S) := fun _ _ v up ⟨d, s, p⟩ => ⟨d, s, dp_up up d v p⟩
/-- a tuple without a dict, known to the object -/
def PlainT (X : Hp) (v : V) : Prop := ∃ a o xs, v = .ref a ∧ X a = some (.frz o (.tup xs)) ∧ o.dict = none
theorem plain_mono : ZMono PlainT := fun _ _ _ up ⟨a, o, xs, e, h, n⟩ => ⟨a, o, xs, e, up a _ trivial h, n⟩
/-- .. with data d -/
def ZF (K : PySem.W.Frag) (S : PyData → Prop) : ZP := fun X v => ZD K S X v ∧ PlainT X v
theorem zf_mono {K : PySem.W.Frag} {S : PyData → Prop} : ZMono (ZF K S) := fun X Y v up h => ⟨zd_mono X Y v up h.1, plain_mono X Y v up h.2⟩
section
variable (R : Hp → Hp → Prop)
def EvZ (te : TE) (σ : L2.St) (G : Hp) (Z : ZP) : Prop := ∀ A, R G A → ∀ Q : VK, (∀ v B, R A B → Z (own G A B) v → Q v B) → te σ A Q
def EvAZ (ta : TA) (σ : L2.St) (G : Hp) (Z : Hp → List V → Prop) : Prop := ∀ A, R G A → ∀ Q : List V → Hp → Prop, (∀ vs B, R A B → Z (own G A B) vs → Q vs B) → ta σ A Q
end
section
variable {R : Hp → Hp → Prop} [Rl R] {K : PySem.W.Frag} {σ : L2.St} {G A B C : Hp} {te tf : TE} {ta tr : TA} {S : PyData → Prop} {Z Z1 : ZP} {tw : TS}
theorem z_of (h : EvS R K te σ G S) : EvZ R te σ G (ZD K S) := fun A hA Q q => h A hA Q fun v d B r s p => q v B r ⟨d, s, p⟩
theorem z_to (h : EvZ R te σ G (ZD K S)) : EvS R K te σ G S := fun A hA Q q => h A hA Q fun v B r ⟨d, s, p⟩ => q v d B r s p
theorem z_imp (h : EvZ R te σ G Z) (k : ∀ X v, Z X v → Z1 X v) : EvZ R te σ G Z1 := fun A hA Q q => h A hA Q fun v B r z => q v B r (k _ v z)
theorem z_var {i : Nat} {v : V} (h : σ[i]? = some (some v)) (hm : ZMono Z) (p : Z G v) : EvZ R (tVar i) σ G Z := fun A hA Q q => ⟨v, h, q v A (Rl.refl A) (hm _ _ v (up_base hA (Rl.refl A)) p)⟩
theorem rt_setZ {i : Nat} (h : EvZ R te σ G Z) (k : ∀ v G', R G G' → Z G' v → Rt R K tw (σ.set i (some v)) G' S) : Rt R K (tSeq (tAsg te (gName i)) tw) σ G S := fun A hA D q =>
  h A hA _ fun v B r z => by
    show tw D (σ.set i (some v)) B
    exact k v (own G A B) (r_own hA r) z B own_r D fun v2 d2 C r2 s2 p2 => q v2 d2 C (Rl.trans r r2) s2 (dp_up (up_in r) d2 v2 p2)
theorem az_nil : EvAZ R tNil σ G (fun _ vs => vs = []) := fun A _ _ q => q [] A (Rl.refl A) rfl
def AMono (Z : Hp → List V → Prop) : Prop := ∀ X Y v, (∀ a o, Stay o → X a = some o → Y a = some o) → Z X v → Z Y v
theorem am_nil : AMono (fun _ vs => vs = []) := fun _ _ _ _ h => h
theorem am_cons {Zl : Hp → List V → Prop} (hm : ZMono Z) (hl : AMono Zl) : AMono (fun X vs => ∃ v ws, vs = v :: ws ∧ Z X v ∧ Zl X ws) := fun X Y _ up ⟨v, ws, e, z, l⟩ => ⟨v, ws, e, hm X Y v up z, hl X Y ws up l⟩
theorem az_cons {Zl : Hp → List V → Prop} (h : EvZ R te σ G Z) (hm : ZMono Z) (hl : AMono Zl) (k : EvAZ R tr σ G Zl) : EvAZ R (tCons te tr) σ G (fun X vs => ∃ v ws, vs = v :: ws ∧ Z X v ∧ Zl X ws) := fun A hA Q q =>
  h A hA _ fun v B r z => k B (Rl.trans hA r) _ fun ws D r2 zl => q (v :: ws) D (Rl.trans r r2) ⟨v, ws, rfl, hm _ _ v (up_next r2) z, hl _ _ ws (up_back r) zl⟩
/-- *e, .. -/
theorem a_star {es fs : List PyData} (h : EvS R K te σ G (· = .tuple es)) (k : EvA R K tr σ G (· = fs)) : EvA R K (StX.tStar K te tr) σ G (· = es ++ fs) := fun A hA Q q =>
  h A hA _ fun v d B r s p => by
    subst s
    cases p with
    | @tup a xs _ hs ha =>
      refine ⟨a, xs, rfl, .inl (sqt_up up_sub hs), k B (Rl.trans hA r) _ fun ws ds D r2 s2 p2 => ?_⟩
      subst s2
      exact q (xs ++ ws) _ D (Rl.trans r r2) rfl (dpa_app (dpa_up (up_next r2) _ _ ha) (dpa_up (up_back r) _ _ p2))
end
/-! ### tuples known to the object -/
section
variable {X : Cx} {es : List Expr} {t : TA} {pos : Pos}
/-- a display of a tuple -/
def tTupF (t : TA) : TE := fun σ H Q => t σ H fun xs H1 => xs.length ≤ sizeLine ∧ ∀ p o, H1 p = none → o.dict = none → Q (.ref p) (upd H1 p (.frz o (.tup xs)))
theorem pe_tupF {x1} (h : PA X es t) : PE X (.Tuple es x1 pos) (tTupF t) := by
  refine ⟨fun pins s σ H Q I hq => ?_⟩
  refine wpAny_Tuple_spliced (thn (h.run pos pins s σ H _ I hq) fun us s1 ⟨xs, H1, J, r, z, q⟩ => ⟨by rw [← r.length]; exact z, ?_⟩)
  have nf : H1 s1.heap.objs.size = none := J.hok.fresh (Nat.le_refl _)
  have hg : (s1.heap.push { cls := .type "tuple", data := .seq us.toArray }).get? s1.heap.objs.size = some { cls := .type "tuple", data := .seq us.toArray } := Heap.get?_push_size _ rfl
  refine ⟨.ref s1.heap.objs.size, _, J.laid (t' := s1.toks) (o := .frz { cls := .type "tuple", data := .seq us.toArray } (.tup xs)) (fun b u e => Heap.get?_push_of_some _ e) (Nat.le_refl _) ⟨hg, z, us, r, ⟨_, hg, rfl, _, rfl⟩⟩, rfl, q _ _ nf rfl⟩
/-- tuple(a list) -/
theorem call_tupleF : CallR X (.type "tuple") (fun xs H Q => ∃ p ys, xs = [.ref p] ∧ SqL X.K H p ys ∧ ∀ l o, H l = none → o.dict = none → Q (.ref l) (upd H l (.frz o (.tup ys)))) := by
  intro pins s σ H xs us Q I r h
  obtain ⟨p, ys, rfl, hq, q⟩ := h
  obtain ⟨u, rfl, rx⟩ := vals1 r
  cases rx
  obtain ⟨its, r2, pl, hz⟩ := I.list hq
  have hlen := r2.length
  refine call_tuple_list pl.isList (fun h' kp => ?_) (by simp only [List.size_toArray] <;> omega)
  have J : Inv X pins σ H { s with heap := h' } := I.kept (t' := s.toks) kp
  have hg : (h'.push { cls := .type "tuple", data := .seq its.toArray }).get? h'.objs.size = some { cls := .type "tuple", data := .seq its.toArray } := Heap.get?_push_size _ rfl
  have J2 : Inv X pins σ (upd H h'.objs.size (.frz { cls := .type "tuple", data := .seq its.toArray } (.tup ys))) { s with heap := h'.push { cls := .type "tuple", data := .seq its.toArray } } :=
    J.laid (t' := s.toks) (fun b o e => Heap.get?_push_of_some _ e) (Nat.le_refl _) ⟨hg, hz, its, r2, ⟨_, hg, rfl, _, rfl⟩⟩
  exact ⟨.ref h'.objs.size, _, J2, rfl, q _ _ (J.hok.fresh (Nat.le_refl _)) rfl⟩
/-- tuple + tuple: the other one, if one is empty -/
def rCatF (K : PySem.W.Frag) : R2 := fun x y H Q => ∃ a b xs ys, x = .ref a ∧ y = .ref b ∧ SqT K H a xs ∧ SqT K H b ys ∧ xs.length + ys.length ≤ sizeLine ∧
  (xs = [] → Q (.ref b) H) ∧ (ys = [] → Q (.ref a) H) ∧ (xs ≠ [] → ys ≠ [] → ∀ p o, H p = none → o.dict = none → Q (.ref p) (upd H p (.frz o (.tup (xs ++ ys)))))
theorem op_catF : OpR X (binaryOp .Add) (rCatF X.K) := by
  intro pins s σ H x y v u Q I rx ry h
  obtain ⟨a, b, xs, ys, rfl, rfl, ha, hb, hz, q0, q1, q2⟩ := h
  by_cases hx : xs = []
  · exact op_catA pins s σ H _ _ v u Q I rx ry ⟨a, b, xs, ys, rfl, rfl, ha, hb, hz, fun _ => q0 hx, fun n => absurd hx n, fun n => absurd hx n⟩
  · cases rx
    cases ry
    obtain ⟨its, r1, p1, _⟩ := I.tuple ha
    obtain ⟨its2, r2, p2, _⟩ := I.tuple hb
    refine HT.cat_tup p1 p2 (fun z => hx (r1.nil_iff.mp z)) (fun z => ⟨.ref a, H, I, rfl, q1 (r2.nil_iff.mp z)⟩) (fun z => ?_) (by rw [← r1.length, ← r2.length]; exact hz)
    have hg : (s.heap.push { cls := .type "tuple", data := .seq (its ++ its2).toArray }).get? s.heap.objs.size = some { cls := .type "tuple", data := .seq (its ++ its2).toArray } := Heap.get?_push_size _ rfl
    refine ⟨.ref s.heap.objs.size, _, I.laid (t' := s.toks) (o := .frz { cls := .type "tuple", data := .seq (its ++ its2).toArray } (.tup (xs ++ ys))) (fun b ob q => Heap.get?_push_of_some _ q) (Nat.le_refl _) ?_, rfl, q2 hx (fun n => z (r2.nil_iff.mpr n)) _ _ (I.hok.fresh (Nat.le_refl _)) rfl⟩
    exact ⟨hg, by rw [List.length_append]; exact hz, _, r1.append r2, ⟨_, hg, rfl, _, rfl⟩⟩
/-! ### dict(tuple of pairs) -/
theorem choose_keys {Pj : Nat → Key × Value → Value → Addr → Prop} : ∀ prs : List (Key × Value), (∀ (j : Nat) (q : Key × Value), prs[j]? = some q → ∃ (b : Addr) (u : Value), Pj j q u b) →
    ∃ pvs : List (Value × Value), pvs.length = prs.length ∧ ∀ (j : Nat) (q : Key × Value), prs[j]? = some q → ∃ u, pvs[j]? = some (u, q.2) ∧ ∃ b, Pj j q u b := by
  intro prs
  induction prs generalizing Pj with
  | nil => exact fun _ => ⟨[], rfl, fun j q e => by simp at e⟩
  | cons p r ih =>
    intro h
    obtain ⟨pvs, hl, hp⟩ := ih (Pj := fun j => Pj (j + 1)) fun j q e => h (j + 1) q (by simpa using e)
    obtain ⟨b, u, e⟩ := h 0 p rfl
    refine ⟨(u, p.2) :: pvs, by simp [hl], fun j q e2 => ?_⟩
    cases j with
    | zero =>
      have e3 : p = q := Option.some.inj e2
      subst e3
      exact ⟨u, rfl, b, e⟩
    | succ j =>
      obtain ⟨u', e3, b', e4⟩ := hp j q (by simpa using e2)
      exact ⟨u', by simpa using e3, b', e4⟩
theorem call_dictT (hcalm : X.calm = true) : CallR X (.type "dict") (fun xs H Q => ∃ (a : Addr) (o : Obj) (ps : List Addr) (kvs : List (Key × V)), xs = [.ref a] ∧ H a = some (.frz o (.tup (ps.map V.ref))) ∧ o.dict = none ∧
    Paired (fun p kv => SqT X.K H p [kV kv.1, kv.2]) ps kvs ∧ ∀ p, H p = none → Q (.ref p) (upd H p (.dK (mergeK [] kvs)))) := by
  intro pins s σ H xs us Q I r q
  obtain ⟨a, o, ps, kvs, ex, hq, hd, hp, q⟩ := q
  subst ex
  obtain ⟨u, eu, rx⟩ := vals1 r
  subst eu
  cases rx
  obtain ⟨hg, hz, its, rv, o2, hg2, hc, n, hdat⟩ := I.hok a _ hq
  have eo : o2 = o := Option.some.inj (hg2.symm.trans hg)
  subst eo
  have ei := refs_at rv
  subst ei
  rw [List.length_map] at hz
  obtain ⟨prs, rel, hl, hpr⟩ := pairs_of I hp
  obtain ⟨pvs, hlp, hpv⟩ := choose_keys prs fun j q' e => hpr j q' e
  have hT : ∀ (j : Nat) (k v : Value), pvs[j]? = some (k, v) → ∃ q' : Key × Value, prs[j]? = some q' ∧ v = q'.2 ∧ ∃ b, ps[j]? = some b ∧ IsTup s.heap b #[k, q'.2] ∧ keyIs q'.1 k = true := fun j k v e => by
    have hj : j < prs.length := by rw [← hlp]; exact (List.getElem?_eq_some_iff.1 e).1
    obtain ⟨u, e1, b, e2⟩ := hpv j prs[j] (by simp [hj])
    rw [e1] at e
    cases e
    exact ⟨prs[j], by simp [hj], rfl, b, e2⟩
  have hm : (s.heap.objs.size == sysModules) = false := beq_eq_false_iff_ne.mpr (Nat.ne_of_gt I.big)
  have hlen : (mergeK [] kvs).length ≤ sizeLine := by
    refine Nat.le_trans (length_mergeK kvs []) ?_
    rw [List.length_nil, Nat.zero_add, rel.length, hl]
    exact hz
  refine PySem.call_dict_pairs (knd := mixKind X.prog X.w) (kvs := prs) (PairArg.tuple a (ps.map Value.ref).toArray (fun j => ps.getD j 0) pvs) (I.ok.hd hcalm)
    ⟨⟨o2, n, hg, hc, hd, hdat⟩, by simp [hlp, hl], fun j k v e => ?_⟩ ⟨hlp.symm, fun j k v e => ?_⟩ (by rw [hlp, hl]; exact hz) fun h' tk hd' k => ?_
  · obtain ⟨q', e1, rfl, b, e2, e3, e4⟩ := hT j k v e
    have eb : ps.getD j 0 = b := by rw [List.getD_eq_getElem?_getD, e2]; rfl
    exact ⟨by show (ps.map Value.ref).toArray[j]? = some (.ref (ps.getD j 0)); rw [eb]; simp [e2], .inl (by show s.heap.IsTuple (ps.getD j 0) _; rw [eb]; exact e3)⟩
  · obtain ⟨q', e1, rfl, b, e2, e3, e4⟩ := hT j k v e
    exact ⟨q'.1, e1, e4⟩
  · exact ⟨.ref s.heap.objs.size, upd H s.heap.objs.size (.dK (mergeK [] kvs)), I.laid (t' := tk) (fun b o e => k b o (by simp) e) (Nat.le_refl _) (show ObjOk X.prog X.w _ _ _ (.dK (mergeK [] kvs)) from ⟨hlen, hm, merged [] prs, KV.merge rel .nil, hd'⟩), rfl, q _ (I.hok.fresh (Nat.le_refl _))⟩
end
end K25
end
section
set_option maxRecDepth 100000
set_option maxHeartbeats 2000000
namespace K25
open PySem PySem.Spec PyProof.Rows L2
/-! ### a list that is being filled -/
def ownD (G A : Hp) (D : Addr) (X : Hp) : Hp := fun a => if a = D then none else own G A X a
theorem ownD_some {G A X : Hp} {D a : Addr} {o : HO} (h : ownD G A D X a = some o) : a ≠ D ∧ own G A X a = some o := by
  unfold ownD at h
  by_cases e : a = D
  · rw [if_pos e] at h
    cases h
  · rw [if_neg e] at h
    exact ⟨e, h⟩
theorem ownD_mk {G A X : Hp} {D a : Addr} {o : HO} (h : own G A X a = some o) (e : a ≠ D) : ownD G A D X a = some o := by
  unfold ownD
  rw [if_neg e]
  exact h
def Fills (K : PySem.W.Frag) (G A : Hp) (D : Addr) (X : Hp) (es : List PyData) : Prop := ∃ xs, X D = some (.lst xs) ∧ DpAll K (ownD G A D X) xs es
/-- what may not be of an element's data -/
def Bad (G A : Hp) (D a : Addr) : Prop := a = D ∨ (G a = none ∧ A a ≠ none)
def Good (G A : Hp) (D : Addr) (Gx : Hp) : Prop := ∀ a, Bad G A D a → Gx a = none
def Old (G A : Hp) (D : Addr) (X : Hp) : Prop := ∀ a, Bad G A D a → X a ≠ none
theorem good_own {G A Gx X Y : Hp} {D : Addr} (h : Good G A D Gx) (o : Old G A D X) : Good G A D (own Gx X Y) := fun a b => by
  cases e : own Gx X Y a with
  | none => rfl
  | some u => exact absurd ((own_some e).2 (h a b)) (o a b)
theorem good_first {R : Hp → Hp → Prop} [Rl R] {G A B : Hp} {D : Addr} (hD : B D = none) : Good G A D (own G A B) := fun a b => by
  cases e : own G A B a with
  | none => rfl
  | some u =>
    obtain ⟨e1, e2⟩ := own_some e
    rcases b with rfl | ⟨b1, b2⟩
    · rw [hD] at e1
      cases e1
    · exact absurd (e2 b1) b2
theorem Good.up {G A Gx X Y : Hp} {D a : Addr} {o : HO} (h : Good G A D Gx) (w : Old G A D X) (e : own Gx X Y a = some o) : ownD G A D Y a = some o := by
  obtain ⟨e1, e2⟩ := own_some e
  refine ownD_mk (own_mk e1 fun g => ?_) fun z => ?_
  · cases q : A a with
    | none => rfl
    | some u =>
      have b : Bad G A D a := .inr ⟨g, by rw [q]; simp⟩
      exact absurd (e2 (h a b)) (w a b)
  · have b : Bad G A D a := .inl z
    exact absurd (e2 (h a b)) (w a b)
section
variable {R : Hp → Hp → Prop} [Rl R] {K : PySem.W.Frag} {G A B X Y Gx : Hp} {D : Addr} {es : List PyData}
theorem old_of (r : R A X) (hD : X D ≠ none) : Old G A D X := fun a b => by
  rcases b with rfl | ⟨_, b⟩
  · exact hD
  · exact fun z => b (Rl.dom r z)
theorem Fills.there (h : Fills K G A D X es) : X D ≠ none := by
  obtain ⟨xs, e, _⟩ := h
  rw [e]
  simp
theorem fills_new : Fills K G A D (upd B D (.lst [])) [] := ⟨[], upd_same, .nil⟩
theorem Fills.later (h : Fills K G A D X es) (r : R X Y) : Fills K G A D Y es := by
  obtain ⟨xs, e, p⟩ := h
  refine ⟨xs, Rl.stay r trivial e, dpa_up (fun a o t z => ?_) _ _ p⟩
  obtain ⟨z1, z2⟩ := ownD_some z
  exact ownD_mk (up_next (R := R) r a o t z2) z1
theorem Fills.put {yv : V} {e : PyData} (h : Fills K G A D X es) (r : R X Y) (g : Good G A D Gx) (o : Old G A D X) (p : Dp K (own Gx X Y) yv e) :
    ∃ xs, Y D = some (.lst xs) ∧ xs.length = es.length ∧ Fills K G A D (upd Y D (.lst (xs ++ [yv]))) (es ++ [e]) := by
  obtain ⟨xs, eD, px⟩ := h.later r
  refine ⟨xs, eD, dpa_len px, _, upd_same, ?_⟩
  have lift : ∀ a o, Stay o → ownD G A D Y a = some o → ownD G A D (upd Y D (.lst (xs ++ [yv]))) a = some o := fun a o _ z => by
    obtain ⟨z1, z2⟩ := ownD_some z
    exact ownD_mk (own_mk (by rw [upd_ne z1]; exact (own_some z2).1) (own_some z2).2) z1
  exact dpa_app (dpa_up lift _ _ px) (.cons (dp_up lift _ _ (dp_up (fun a ob _ z => g.up o z) _ _ p)) .nil)
theorem Fills.done (h : Fills K G A D X es) (hA : A D = none) : Dp K (own G A X) (.ref D) (.list es) := by
  obtain ⟨xs, e, p⟩ := h
  exact .lst (.inl (.inl (own_mk e fun _ => hA))) (dpa_up (fun a o _ z => (ownD_some z).2) _ _ p)
end
section
variable {K : PySem.W.Frag} {σ : L2.St} {G : Hp} {te te1 : TE} {wi : TI} {g g1 : TG} {vs vs1 : List Nat}
/-- [x for y in .. for x in y]: the tuples one behind the other -/
theorem e_lc2 {n : Nat} {Sd : Nat → PyData → Prop} (F : Nat → List PyData) (hi : ItD Same K wi σ G (· = n) Sd) (hz : ((List.range n).flatMap F).length ≤ 100000)
    (hs : ∀ (i : Nat) (d : PyData) (x : V) (G' : Hp), i < n → Same G G' → Sd i d → Dp K G' x d → ∃ σ2, Binds2 K g (wipe σ vs) G' x σ2 ∧ wipe σ2 vs = wipe σ vs ∧ EvS Same K te1 σ2 G' (· = .tuple (F i)) ∧
      ∀ (j : Nat) (d1 : PyData) (x1 : V) (G2 : Hp), Same G' G2 → (F i)[j]? = some d1 → Dp K G2 x1 d1 → ∃ σ3, Binds2 K g1 (wipe σ2 vs1) G2 x1 σ3 ∧ wipe σ3 vs1 = wipe σ2 vs1 ∧ EvS Same K te σ3 G2 (· = d1)) :
    EvS Same K (tLc2 wi g tYes (iTup K te1) g1 tYes te vs vs1) σ G (· = .list ((List.range n).flatMap F)) := fun A hA Q q =>
  hi A hA _ fun J n' B Gd Y r sn wk hG hy D hD => by
    subst sn
    have hAD : A D = none := Rl.dom (R := Same) r hD
    have gd1 : Good G A D (own G A B) := good_first (R := Same) hD
    refine ⟨fun i k X => i + k = n' ∧ Same B X ∧ Fills K G A D X ((List.range i).flatMap F), ⟨n', by omega, Rl.new (R := Same) (Rl.refl B) hD, fills_new⟩, ?_⟩
    rintro i k X ⟨hik, rX, fl⟩
    cases k with
    | zero =>
      obtain rfl : i = n' := by omega
      exact .inl ⟨wk.stops X (hG X rX), q (.ref D) _ X (Rl.trans (R := Same) r rX) rfl (fl.done hAD)⟩
    | succ k =>
      refine .inr ⟨wk.goes i X (by omega) (hG X rX), fun X2 => (∃ m', m' < k + 1 ∧ i + 1 + m' = n' ∧ Same B X2 ∧ Fills K G A D X2 ((List.range (i + 1)).flatMap F)), fun X2 ⟨m', h1, h2⟩ => ⟨m', h1, h2⟩, fun x X' y => ?_⟩
      obtain ⟨rXX, d, sd, pd⟩ := hy i X x X' (by omega) rX (wk.yields i X x X' (by omega) (hG X rX) y)
      have oX : Old G A D X := old_of (R := Same) (Rl.trans (R := Same) r rX) fl.there
      have gd2 : Good G A D (own (own G A B) X X') := good_own gd1 oX
      have s2 : Same G (own (own G A B) X X') := Rl.trans (R := Same) (r_own (R := Same) hA r) (r_own (R := Same) (Rl.trans (R := Same) own_r rX) rXX)
      obtain ⟨σ2, hb, hw, h1, h2⟩ := hs i d x _ (by omega) s2 sd pd
      refine hb X' _ (fun a o t z => (own_some z).1) ⟨hw, ?_⟩
      dsimp only [tYes]
      rw [if_pos rfl]
      refine h1 X' own_same _ fun v dv B1 r1 ev pv => ?_
      subst ev
      have fl' : Fills K G A D X' ((List.range i).flatMap F) := fl.later (R := Same) rXX
      have oX' : Old G A D X' := old_of (R := Same) (Rl.trans (R := Same) (Rl.trans (R := Same) r rX) rXX) fl'.there
      have gd3 : Good G A D (own (own (own G A B) X X') X' B1) := good_own gd2 oX'
      cases pv with
      | @tup a xs _ ha hxs =>
        refine ⟨a, rfl, ⟨xs, sqt_up up_sub ha⟩, fun j k2 X3 => j + k2 = xs.length ∧ Same B X3 ∧ (∀ b o, b ≠ D → B1 b = some o → X3 b = some o) ∧ Fills K G A D X3 ((List.range i).flatMap F ++ (F i).take j),
          ⟨xs.length, by omega, Rl.trans (R := Same) (Rl.trans (R := Same) rX rXX) r1, fun b o _ e => e, by rw [List.take_zero, List.append_nil]; exact fl'.later (R := Same) r1⟩, ?_⟩
        rintro j k2 X3 ⟨hjk, r3, st3, fl3⟩
        have sm3 : Same (own (own (own G A B) X X') X' B1) X3 := fun b o e => st3 b o (fun z => by rw [gd3 b (.inl z)] at e; cases e) (own_some e).1
        have ha3 : SqT K X3 a xs := sqt_up (fun b o _ e => sm3 b o e) ha
        have hlen := dpa_len hxs
        have wk1 := walk_tup (K := K) (a := a) (xs := xs)
        cases k2 with
        | zero =>
          obtain rfl : j = xs.length := by omega
          refine .inl ⟨wk1.stops X3 ha3, k, Nat.lt_succ_self k, by omega, r3, ?_⟩
          rw [List.take_of_length_le (by omega)] at fl3
          rw [List.range_succ, List.flatMap_append]
          simpa using fl3
        | succ k2 =>
          refine .inr ⟨wk1.goes j X3 (by omega) ha3, fun X4 => (∃ k', k' < k2 + 1 ∧ j + 1 + k' = xs.length ∧ Same B X4 ∧ (∀ b o, b ≠ D → B1 b = some o → X4 b = some o) ∧ Fills K G A D X4 ((List.range i).flatMap F ++ (F i).take (j + 1))), fun X4 ⟨k', h1, h2⟩ => ⟨k', h1, h2⟩, fun x1 X4 y1 => ?_⟩
          obtain ⟨rfl, ex⟩ := wk1.yields j X3 x1 X4 (by omega) ha3 y1
          obtain ⟨d1, q1, q2⟩ := dpa_getV hxs ex
          obtain ⟨σ3, hb1, hw1, he⟩ := h2 j d1 x1 _ (r_own (R := Same) own_same r1) q1 q2
          refine hb1 X4 _ (fun b o t e => sm3 b o e) ⟨hw1, ?_⟩
          dsimp only [tYes]
          rw [if_pos rfl]
          refine he X4 sm3 _ fun yv e X5 r5 ee pe => ?_
          subst ee
          have o4 : Old G A D X4 := old_of (R := Same) (Rl.trans (R := Same) r r3) fl3.there
          obtain ⟨acc, e1, e2, e3⟩ := fl3.put (R := Same) r5 gd3 o4 pe
          have hle : ((List.range i).flatMap F ++ (F i).take j).length ≤ 100000 := by
            refine Nat.le_trans ?_ hz
            have e4 : n' = i + 1 + k := by omega
            rw [e4, List.range_add, List.range_succ, List.flatMap_append, List.flatMap_append]
            simp
            omega
          refine ⟨acc, e1, Nat.lt_of_lt_of_le (by rw [e2]; exact Nat.lt_succ_of_le hle) (by decide), k2, Nat.lt_succ_self k2, by omega, Rl.new (R := Same) (Rl.trans (R := Same) r3 r5) hD, fun b o nb eb => ?_, ?_⟩
          · rw [upd_ne nb]
            exact r5 b o (st3 b o nb eb)
          · rw [List.append_assoc] at e3
            have e5 : (F i).take (j + 1) = (F i).take j ++ [e] := by rw [List.take_add_one, q1]; rfl
            rw [e5]
            exact e3
end
end K25
end
section
set_option maxRecDepth 100000
set_option maxHeartbeats 2000000
namespace K25
open PySem PySem.Spec PyProof.Rows L2
abbrev s_grown_rows : Stmt := topS 25
abbrev s_later_row : Stmt := topS 26
abbrev s_later_rows : Stmt := topS 27
abbrev s_grown : Stmt := topS 28
abbrev s_moved : Stmt := topS 29
abbrev s_old_row : Stmt := topS 30
structure Tz (P : Program) (K : PySem.W.Frag) (mg : Str → Option Value) (C fI cc : Addr) : Prop where
  y : Ty P K mg C fI cc
  n_dict : mg "dict" = none
  n_range : mg "range" = none
  n_sum : mg "sum" = none
  d_grown_rows : DefAt K mg "grown_rows" s_grown_rows
  d_later_row : DefAt K mg "later_row" s_later_row
  d_later_rows : DefAt K mg "later_rows" s_later_rows
  d_grown : DefAt K mg "grown" s_grown
  d_moved : DefAt K mg "moved" s_moved
  d_old_row : DefAt K mg "old_row" s_old_row
theorem boot_dictT : bootBuiltins "dict" = some (.type "dict") := by decide +kernel
/-! ### plain words for the third module -/
def entM : PyData → Int × List PyData
  | .tuple [.int i, .tuple r] => (i, r)
  | _ => (0, [])
def wayL : PyData → List (Int × List PyData)
  | .tuple ds => ds.map entM
  | _ => []
def look (ms : List (Int × List PyData)) (i : Int) : Option (List PyData) := (ms.find? fun m => decide (m.1 = i)).map (·.2)
def partD (es : List PyData) (ms : List (Int × List PyData)) (g : Nat) : List PyData := (look ms g).getD [] ++ (es.drop g).take 1
def grownL (es : List PyData) (ms : List (Int × List PyData)) : List PyData := (List.range (es.length + 1)).flatMap (partD es ms)
/-- tuples known to the object, with their data -/
def PlainD (K : PySem.W.Frag) (X : Hp) (v : V) (ds : List PyData) : Prop := ∃ a o xs, v = .ref a ∧ X a = some (.frz o (.tup xs)) ∧ o.dict = none ∧ DpAll K X xs ds
theorem PlainD.up {K : PySem.W.Frag} {X Y : Hp} {v : V} {ds : List PyData} (h : PlainD K X v ds) (up : ∀ a o, Stay o → X a = some o → Y a = some o) : PlainD K Y v ds := by
  obtain ⟨a, o, xs, e, h1, h2, h3⟩ := h
  exact ⟨a, o, xs, e, up a _ trivial h1, h2, dpa_up up _ _ h3⟩
theorem PlainD.dp {K : PySem.W.Frag} {X : Hp} {v : V} {ds : List PyData} (h : PlainD K X v ds) : Dp K X v (.tuple ds) := by
  obtain ⟨a, o, xs, rfl, h1, h2, h3⟩ := h
  exact .tup (.inl (.inr ⟨o, h1⟩)) h3
/-- an entry's own shape -/
def EntOk (d : PyData) : Prop := ∃ i r, d = .tuple [.int i, .tuple r]
def KvD (K : PySem.W.Frag) (X : Hp) : List (Key × V) → List (Int × List PyData) → Prop := Paired fun kv m => kv.1 = .inl m.1 ∧ Dp K X kv.2 (.tuple m.2)
theorem KvD.up {K : PySem.W.Frag} {X Y : Hp} (up : ∀ a o, Stay o → X a = some o → Y a = some o) : ∀ {kvs : List (Key × V)} {ms : List (Int × List PyData)}, KvD K X kvs ms → KvD K Y kvs ms
  | _, _, .nil => .nil
  | _, _, .cons h t => .cons ⟨h.1, dp_up up _ _ h.2⟩ (KvD.up up t)
theorem pairs_kv {K : PySem.W.Frag} {X : Hp} : ∀ (ds : List PyData) (xs : List V), DpAll K X xs ds → (∀ d ∈ ds, EntOk d) → ∃ (ps : List Addr) (kvs : List (Key × V)), xs = ps.map V.ref ∧ Paired (fun p kv => SqT K X p [kV kv.1, kv.2]) ps kvs ∧ KvD K X kvs (ds.map entM)
  | [], xs, h, _ => by
    cases h
    exact ⟨[], [], rfl, .nil, .nil⟩
  | d :: ds, xs, h, he => by
    cases h with
    | cons h t =>
      obtain ⟨ps, kvs, e1, e2, e3⟩ := pairs_kv ds _ t fun d m => he d (List.mem_cons_of_mem _ m)
      obtain ⟨i, r, rfl⟩ := he d (List.mem_cons_self ..)
      cases h with
      | @tup a ys _ hs ha =>
        cases ha with
        | cons hy ha =>
          cases ha with
          | cons hz ha =>
            cases ha
            cases hy
            subst e1
            exact ⟨a :: ps, (.inl i, _) :: kvs, rfl, .cons hs e2, .cons ⟨rfl, hz⟩ e3⟩
theorem kv_look {K : PySem.W.Frag} {X : Hp} (i : Int) : ∀ {kvs : List (Key × V)} {ms : List (Int × List PyData)}, KvD K X kvs ms → (valV kvs (.inl i) = none ∧ look ms i = none) ∨ ∃ v r, valV kvs (.inl i) = some v ∧ look ms i = some r ∧ Dp K X v (.tuple r)
  | _, _, .nil => .inl ⟨rfl, rfl⟩
  | _, _, .cons (a := kv) (b := m) (l₁ := kr) (l₂ := mr) h t => by
    by_cases e : m.1 = i
    · refine .inr ⟨kv.2, m.2, valV_pos (by rw [h.1, e]), ?_, h.2⟩
      unfold look
      rw [List.find?_cons_of_pos (by simp [e])]
      rfl
    · have q1 : valV (kv :: kr) (.inl i : Key) = valV kr (.inl i : Key) := valV_neg (by rw [h.1]; exact fun z => e (Sum.inl.inj z))
      have q2 : look (m :: mr) i = look mr i := by
        unfold look
        rw [List.find?_cons_of_neg (by simp [e])]
      rcases kv_look i t with ⟨h1, h2⟩ | ⟨v, r, h1, h2, h3⟩
      · exact .inl ⟨q1.trans h1, q2.trans h2⟩
      · exact .inr ⟨v, r, q1.trans h1, q2.trans h2, h3⟩
theorem merge_new : ∀ (kvs acc : List (Key × V)), ((acc ++ kvs).map (·.1)).Nodup → mergeK acc kvs = acc ++ kvs
  | [], acc, _ => by rw [List.append_nil]; rfl
  | p :: r, acc, h => by
    have e : putK acc p.1 p.2 = acc ++ [p] := by
      unfold putK
      rw [if_neg]
      intro z
      obtain ⟨q, m, e⟩ := List.any_eq_true.1 z
      have e := of_decide_eq_true e
      rw [List.map_append, List.nodup_append] at h
      exact h.2.2 q.1 (List.mem_map.2 ⟨q, m, rfl⟩) p.1 (List.mem_map.2 ⟨p, List.mem_cons_self .., rfl⟩) e
    show mergeK (putK acc p.1 p.2) r = _
    rw [e, merge_new r (acc ++ [p]) (by rw [List.append_assoc]; exact h), List.append_assoc]
    rfl
theorem kv_keys {K : PySem.W.Frag} {X : Hp} : ∀ {kvs : List (Key × V)} {ms : List (Int × List PyData)}, KvD K X kvs ms → kvs.map (·.1) = (ms.map (·.1)).map Sum.inl
  | _, _, .nil => rfl
  | _, _, .cons h t => by rw [List.map_cons, List.map_cons, List.map_cons, kv_keys t, h.1]
theorem kv_nodup {K : PySem.W.Frag} {X : Hp} {kvs : List (Key × V)} {ms : List (Int × List PyData)} (h : KvD K X kvs ms) (n : (ms.map (·.1)).Nodup) : (kvs.map (·.1)).Nodup := by
  rw [kv_keys h]
  exact List.Pairwise.map _ (fun a b e z => e (Sum.inl.inj z)) n
/-- a dict by its ints -/
def DictD (K : PySem.W.Frag) (ms : List (Int × List PyData)) (X : Hp) (v : V) : Prop := ∃ p kvs, v = .ref p ∧ X p = some (.dK kvs) ∧ KvD K X kvs ms
section
variable {R : Hp → Hp → Prop} [Rl R] {K : PySem.W.Frag} {σ : L2.St} {G A B C : Hp} {te ty tx : TE}
/-- dict(way) -/
theorem z_dict {i : Nat} {v : V} {ds : List PyData} (h : σ[i]? = some (some v)) (p : PlainD K G v ds) (he : ∀ d ∈ ds, EntOk d) (n : ((ds.map entM).map (·.1)).Nodup) :
    EvZ R (tCB (fun xs H Q => ∃ (a : Addr) (o : Obj) (ps : List Addr) (kvs : List (Key × V)), xs = [.ref a] ∧ H a = some (.frz o (.tup (ps.map V.ref))) ∧ o.dict = none ∧
      Paired (fun p kv => SqT K H p [kV kv.1, kv.2]) ps kvs ∧ ∀ p, H p = none → Q (.ref p) (upd H p (.dK (mergeK [] kvs)))) (tCons (tVar i) tNil)) σ G (DictD K (ds.map entM)) := fun A hA Q q => by
  refine ⟨v, h, ?_⟩
  obtain ⟨a, o, xs, rfl, h1, h2, h3⟩ := p
  have up : ∀ b ob, Stay ob → G b = some ob → A b = some ob := fun b ob t e => Rl.stay hA t e
  obtain ⟨ps, kvs, e1, e2, e3⟩ := pairs_kv _ _ h3 he
  subst e1
  have e2' : Paired (fun p kv => SqT K A p [kV kv.1, kv.2]) ps kvs := by
    clear h1 h3 e3
    induction e2 with
    | nil => exact .nil
    | cons h t ih => exact .cons (sqt_up up h) ih
  refine ⟨a, o, ps, kvs, rfl, up a _ trivial h1, h2, e2', fun p np => ?_⟩
  rw [merge_new kvs [] (by rw [List.nil_append]; exact kv_nodup e3 n)]
  refine q (.ref p) _ (Rl.new (Rl.refl A) np) ⟨p, kvs, rfl, own_mk upd_same fun _ => np, KvD.up (fun b ob t e => ?_) e3⟩
  exact own_mk (by rw [upd_ne (ne_of_none (up b ob t e) np)]; exact up b ob t e) fun z => by rw [e] at z; cases z
/-- d.get(k, ()) -/
theorem e_dget2 {i : Nat} {v : V} {ms : List (Int × List PyData)} {k : Int} (h : σ[i]? = some (some v)) (p : DictD K ms G v) (hk : EvS Same K ty σ G (· = .int k)) (hx : EvS Same K tx σ G (· = .tuple [])) :
    EvS Same K (tDGet2 (tVar i) ty tx) σ G (· = .tuple ((look ms k).getD [])) := fun A hA Q q => by
  obtain ⟨p, kvs, rfl, hp, hkv⟩ := p
  refine ⟨.ref p, h, p, rfl, .inl ⟨kvs, .inl (hA p _ hp)⟩, hk A hA _ fun y d B r e pk => ?_⟩
  subst e
  cases pk
  refine hx B (Rl.trans (R := Same) hA r) _ fun z d D r2 e pz => ?_
  subst e
  have up : ∀ b ob, Stay ob → G b = some ob → own G A D b = some ob := fun b ob _ e => own_mk (r2 b ob (r b ob (hA b ob e))) fun z => by rw [e] at z; cases z
  rcases kv_look k hkv with ⟨h1, h2⟩ | ⟨v, r', h1, h2, h3⟩
  · refine ⟨none, .inl ⟨kvs, .inl k, .inl (r2 p _ (r p _ (hA p _ hp))), rfl, h1.symm⟩, q z _ D (Rl.trans (R := Same) r r2) (by rw [h2]; rfl) (dp_up (up_back (R := Same) r) _ _ pz)⟩
  · refine ⟨some v, .inl ⟨kvs, .inl k, .inl (r2 p _ (r p _ (hA p _ hp))), rfl, h1.symm⟩, q v _ D (Rl.trans (R := Same) r r2) (by rw [h2]; rfl) (dp_up up _ _ h3)⟩
end
end K25
end
section
set_option maxRecDepth 100000
set_option maxHeartbeats 2000000
namespace K25
open PySem PySem.Spec PyProof.Rows L2
/-- a promise with a pre about the values -/
def spG (K : PySem.W.Frag) (pre : Hp → List V → List PyData → Prop) (S : List PyData → PyData → Prop) : Sp := fun vs H Q _ => ∃ (G : Hp) (ds : List PyData), Same G H ∧ DpAll K G vs ds ∧ pre G vs ds ∧ ∀ v d B, Same H B → S ds d → Dp K (own G H B) v d → Q v B
section
variable {P : Program} {w : World} {K : PySem.W.Frag} {mg : Str → Option Value} {base : Heap} {C fI cc : Addr}
theorem cl_g {x : Str} {st : Stmt} {N ps : List Str} {k : Nat} {pre : Hp → List V → List PyData → Prop} {S : List PyData → PyData → Prop} (D : DefAt K mg x st)
    (hb : ∀ (kV doc pm : Value) (an : Option Addr) (cdv ct : Value) (us : List Value), us.length = ps.length → bindArgs (PySem.W.fnOf x x (defArgs st) (defBody st) (defScope st) .none kV doc pm an cdv ct) ⟨us, []⟩ = pure (ps.zip us))
    (Sc : FnScope N ps (defScope st)) (hn : ∀ G vs ds, pre G vs ds → vs.length = ps.length)
    (hbody : ∀ (f : Addr) (cdv : Value) (A : Around) (outer : List Env) (s : Shared) (H : Hp) (E : XK), Room k (A.deeper (envOfC x (defScope st) s.heap.objs.size f cdv)) →
      ∃ t, PSs (cxOf CX0 P w K mg base N x (defScope st) f cdv A outer s H E).nox (defBody st) t ∧ ∀ (vs : List V) (G : Hp) (ds : List PyData), DpAll K G vs ds → pre G vs ds → Rt Same K t (L2.start N vs) G (S ds)) :
    Cl P w K mg base (k + 1) x (spG K pre S) := by
  obtain ⟨f, fd, F, hm⟩ := D
  refine ⟨f, fd, ps, F.ok Sc (fun vs H Q E h => ?_) (fun cdv A outer s H vs Q E hr h => ?_), hm, F.kp, F.binds hb⟩
  · obtain ⟨G, ds, _, p, hp, _⟩ := h
    exact hn G vs ds hp
  · obtain ⟨t, ht, hq⟩ := hbody f cdv A outer s H E hr
    obtain ⟨G, ds, sm, p, hp, q⟩ := h
    exact ⟨t, ht, hq vs G ds p hp H sm _ fun v d B r s pd => q v d B r s pd⟩
/-! ### grown_rows -/
structure SmallW (es : List PyData) (ms : List (Int × List PyData)) : Prop where
  n : es.length ≤ 4000
  m : ∀ x ∈ ms, x.2.length ≤ 4000
  g : (grownL es ms).length ≤ 100000
  u : (ms.map (·.1)).Nodup
/-- text and way, the way known to the object -/
structure TwOk (K : PySem.W.Frag) (G : Hp) (v2 : V) (es ws : List PyData) : Prop where
  pl : PlainD K G v2 ws
  en : ∀ d ∈ ws, EntOk d
  sm : SmallW es (ws.map entM)
def preGrown (K : PySem.W.Frag) (G : Hp) (vs : List V) (ds : List PyData) : Prop := ∃ v1 v2 es ws, vs = [v1, v2] ∧ ds = [.tuple es, .tuple ws] ∧ TwOk K G v2 es ws
def grownD : List PyData → PyData
  | [.tuple es, d] => .tuple (grownL es (wayL d))
  | _ => .none
theorem look_len {ms : List (Int × List PyData)} (h : ∀ x ∈ ms, x.2.length ≤ 4000) (i : Int) : ((look ms i).getD []).length ≤ 4000 := by
  unfold look
  cases e : ms.find? (fun m => decide (m.1 = i)) with
  | none => exact Nat.zero_le _
  | some m => exact h m (List.mem_of_find?_eq_some e)
theorem cut_at {es : List PyData} {g : Nat} : cutD es (some (g : Int)) (some ((g : Int) + 1)) = (es.drop g).take 1 := by
  unfold cutD
  rw [show ((g : Int) + 1) = ((g + 1 : Nat) : Int) from rfl, HT.sIx_nat, HT.sIx_nat]
  by_cases h : g < es.length
  · rw [Nat.min_eq_left (Nat.le_of_lt h), Nat.min_eq_left (by omega), show g + 1 - g = 1 by omega]
  · rw [Nat.min_eq_right (by omega), Nat.min_eq_right (by omega), Nat.sub_self, List.take_zero, List.drop_of_length_le (by omega)]
    rfl
theorem it_list' {R : Hp → Hp → Prop} [Rl R] {K : PySem.W.Frag} {σ : L2.St} {G : Hp} {te : TE} {n : Nat} {f : Nat → PyData} (h : EvS R K te σ G (· = .list ((List.range n).map f))) : ItD R K (iList K te) σ G (· = n) (fun i d => ((List.range n).map f)[i]? = some d) := by
  have q := it_list h
  rw [List.length_map, List.length_range] at q
  exact q
theorem un1 {n c : Nat} (h : n + 64 < c) : n + 1 < c := by omega
theorem sc_grown_rows : FnScope ["text", "way", "put", "parts", "gap", "part", "row"] ["text", "way"] (defScope s_grown_rows) := ⟨rfl, rfl, rfl, by decide +kernel, rfl, by decide +kernel, by decide +kernel⟩
abbrev tPart1 (K : PySem.W.Frag) : TE := tTup (StX.tStar K (tDGet2 (tVar 2) (tVar 4) (tTup tNil)) (StX.tStar K (tSl (rSlA K) (tVar 0) (tPart (tVar 4)) (tPart (tOp (rI0 fun i j => .int (i + j)) (tVar 4) (tC (.int 1))))) tNil))
theorem cl_grown_rows (T : Tz P K mg C fI cc) : Cl P w K mg base 2 "grown_rows" (spG K (preGrown K) fun ds d => d = grownD ds) := by
  refine cl_g (ps := ["text", "way"]) T.d_grown_rows (fun _ _ _ _ _ _ us hl => match us, hl with | [_, _], _ => rfl) sc_grown_rows (fun G vs ds ⟨v1, v2, es, ws, e, _⟩ => by rw [e]; rfl) fun f cdv A outer s H E hr => ⟨_,
    (pss_cons (ps_set (i := 2) sc_grown_rows.nd rfl (Or.inr rfl) (pe_callTy (call_dictT rfl) rfl T.n_dict boot_dictT (pa_cons (pv 1) pa_nil)))
      (pss_cons (ps_setLc (i := 3) (own := [("gap", 4)]) (te := tPart1 K) rfl sc_grown_rows.nd rfl rfl (sw_true rfl rfl rfl (by decide +kernel)) (pi_range1 rfl T.n_range (pa_cons (pe_op op_add (pe_callB call_len rfl T.y.x.n_len PySem.boot_len (pa_cons (pv 0) pa_nil)) pe_int) pa_nil)) (blkOk_by (N := ["text", "way", "put", "parts", "gap", "part", "row"]) (sc := defScope s_grown_rows) (by decide +kernel)) (fun _ _ _ _ _ => (pg_name (i := 4) sc_grown_rows.nd rfl (Or.inl rfl))) (fun _ _ _ _ _ => pts_nil)
          (fun _ _ _ _ _ => (pe_tup (StX.pa_star (pe_dget2 (un1 hr.units) (pv 2) (pv 4) (pe_tup pa_nil) ⟨rfl, rfl, rfl, rfl⟩) (StX.pa_star (pe_slice sl_tupA (pv 0) (po_some (pv 4)) (po_some (pe_op op_add (pv 4) pe_int))) pa_nil)))))
      (pss_one (ps_ret (pe_callTy call_tuple_of rfl T.y.x.n_tuple boot_tupleT (pa_cons (pe_lc2 (own := [("part", 5), ("row", 6)]) (vs1 := [6]) (wi1 := iTup K (tVar 5)) rfl sc_grown_rows.nd (pi_list (pv 3)) (blkOk_by (N := ["text", "way", "put", "parts", "gap", "part", "row"]) (sc := defScope s_grown_rows) (by decide +kernel)) (by decide) (fun _ _ _ _ _ => (pg_name (i := 5) sc_grown_rows.nd rfl (Or.inl rfl))) (fun _ _ _ _ _ => pts_nil) (fun _ _ _ _ _ => (pi_tup (pv 5))) (fun _ _ _ _ _ => (pg_name (i := 6) sc_grown_rows.nd rfl (Or.inl rfl))) (fun _ _ _ _ _ => pts_nil) (fun _ _ _ _ _ => (pv 6))) pa_nil)))))), fun vs G ds p hp => ?_⟩
  obtain ⟨v1, v2, es, ws, rfl, rfl, hw⟩ := hp
  cases p with
  | cons p1 p2 =>
    refine rt_setZ (z_dict rfl hw.pl hw.en hw.sm.u) fun v3 G' hG hd => ?_
    refine rt_set (Sa := (· = .list ((List.range (es.length + 1)).map fun i => .tuple (partD es (ws.map entM) i)))) (e_lcMap (n := es.length + 1) (fun i => .tuple (partD es (ws.map entM) i)) (it_range (Sn := (· = es.length + 1)) ?_ (fun n e => by rw [e]; have := hw.sm.n; omega)) (by have := hw.sm.n; omega) fun i d x G2 hG2 sd px => ⟨_, b_name (j := 4), rfl, ?_⟩) fun v4 d4 G2 hG2 e4 p4 => ?_
    · exact (e_op1 (e_len (e_var (i := 0) rfl (dp_up (fun a o _ e => hG a o e) _ _ p1)) (.inl ⟨es, rfl, rfl⟩)) e_int (rs_I0 (e := .int ((es.length : Int) + 1)) fun X => .int _)).imp fun d e => ⟨es.length + 1, by rw [e]; rfl, rfl⟩
    · subst sd
      have hz : (partD es (ws.map entM) i).length ≤ 100000 := by
        have h1 := look_len hw.sm.m i
        unfold partD
        rw [List.length_append, List.length_take]
        omega
      have d2 : DictD K (ws.map entM) G2 v3 := by
        obtain ⟨q, kvs, e1, e2, e3⟩ := hd
        exact ⟨q, kvs, e1, hG2 q _ e2, KvD.up (fun a o _ e => hG2 a o e) e3⟩
      have p12 : Dp K G2 v1 (.tuple es) := dp_up (fun a o _ e => hG2 a o (hG a o e)) _ _ p1
      exact e_tup1 (a_star (e_dget2 (i := 2) rfl d2 (e_var (i := 4) rfl px) (e_tup1 a_nil (by decide))) (a_star (fs := []) (es := (es.drop i).take 1) ((e_slT (e_var (i := 0) rfl p12) (o_some (e_var (i := 4) rfl px)) (o_some (i := (i : Int) + 1) (e_op1 (e_var (i := 4) rfl px) e_int (rs_I0 fun X => .int _)))).imp fun d ⟨lo, hi, e1, e2, e3⟩ => by rw [e3, e1, e2, cut_at]) a_nil |>.imp fun ds e => by rw [e, List.append_nil])) hz
    · subst e4
      refine rt_ret (e_cb1 (ds := [.list (grownL es (ws.map entM))]) (a_one (e_lc2 (n := es.length + 1) (partD es (ws.map entM)) (it_list' (e_var (i := 3) rfl p4)) hw.sm.g fun i d x G3 hi hG3 sd px => ?_) a_nil) rc_tuple)
      obtain rfl : d = .tuple (partD es (ws.map entM) i) := by
        rw [List.getElem?_map, List.getElem?_range hi] at sd
        exact (Option.some.inj sd).symm
      refine ⟨_, b_name (j := 5), rfl, e_var (i := 5) rfl px, fun j d1 x1 G4 hG4 e1 px1 => ⟨_, b_name (j := 6), rfl, e_var (i := 6) rfl px1⟩⟩
end
end K25
end
section
set_option maxRecDepth 100000
set_option maxHeartbeats 2000000
namespace K25
open PySem PySem.Spec PyProof.Rows L2
/-! ### later_row -/
def addN (ms : List (Int × List PyData)) (row : Int) : List Int := (ms.filter fun m => decide (m.1 ≤ row)).map fun m => (m.2.length : Int)
def laterN (ms : List (Int × List PyData)) (row : Int) : Int := row + (addN ms row).sum
def laterD : List PyData → PyData
  | [d, .int r] => .int (laterN (wayL d) r)
  | _ => .none
def preLater (ds : List PyData) : Prop := ∃ ws r, ds = [.tuple ws, .int r] ∧ (∀ d ∈ ws, EntOk d) ∧ ws.length ≤ 4000
def lastR (kf : Nat → Int) : Nat → Int → Option Nat
  | 0, _ => none
  | i + 1, k => if k = kf i then some i else lastR kf i k
theorem addN_app (a b : List (Int × List PyData)) (r : Int) : addN (a ++ b) r = addN a r ++ addN b r := by
  unfold addN
  rw [List.filter_append, List.map_append]
section
variable {P : Program} {w : World} {K : PySem.W.Frag} {mg : Str → Option Value} {base : Heap} {C fI cc : Addr}
theorem sc_later_row : FnScope ["way", "row", "gap", "rows"] ["way", "row"] (defScope s_later_row) := ⟨rfl, rfl, rfl, by decide +kernel, rfl, by decide +kernel, by decide +kernel⟩
theorem cl_later_row (T : Tz P K mg C fI cc) : Cl P w K mg base 1 "later_row" (spD K preLater laterD) := by
  refine cl_d (ps := ["way", "row"]) T.d_later_row (fun _ _ _ _ _ _ us hl => match us, hl with | [_, _], _ => rfl) sc_later_row (fun ds ⟨ws, r, e, _⟩ => by rw [e]; rfl) fun f cdv A outer s H E hr => ⟨_,
    (pss_one (ps_ret (pe_op op_add (pv 1) (pe_callB (cr_sum rfl) rfl T.n_sum boot_sumB (pa_cons (pe_lc (own := [("gap", 2), ("rows", 3)]) (g := gTup K 2 (gCons (gName 2) (gCons (gName 3) gNil))) (te := tCB (rLenD K) (tCons (tVar 3) tNil)) rfl sc_later_row.nd (pi_tup (pv 0)) (blkOk_by (N := ["way", "row", "gap", "rows"]) (sc := defScope s_later_row) (by decide +kernel)) (fun _ _ _ _ _ => (pg_tup rfl (pgs_cons (pg_name (i := 2) sc_later_row.nd rfl (Or.inl rfl)) (pgs_cons (pg_name (i := 3) sc_later_row.nd rfl (Or.inl rfl)) pgs_nil)))) (fun _ _ _ _ _ => (pts_one (pt_cmpR op_le (pv 2) (pv 1) (nomark _)))) (fun _ _ _ _ _ => (pe_callB call_len rfl T.y.x.n_len PySem.boot_len (pa_cons (pv 3) pa_nil)))) pa_nil))))), fun vs G ds p hp => ?_⟩
  obtain ⟨ws, r, rfl, he, hz⟩ := hp
  match vs, p with
  | [v1, v2], .cons p1 (.cons p2 .nil) =>
    refine rt_ret (e_op1 (e_var (i := 1) rfl p2) (e_cb1 (ds := [.list ((addN (ws.map entM) r).map .int)]) (a_one ((e_lc (Sd := fun i d => ws[i]? = some d) (Sn := (· = ws.length)) (fun i es => es = (addN ((ws.take i).map entM) r).map .int) (it_tup (e_var (i := 0) rfl p1)) (fun n e => by omega) rfl fun i d x es G' hG sd px iv le => ?_).imp fun d ⟨n, es, e1, e2, e3, _⟩ => by rw [e2, e3, e1, List.take_length]) a_nil) rc_sum) (rs_I0 (e := .int (laterN (ws.map entM) r)) fun X => .int _))
    obtain ⟨g, rs, rfl⟩ := he d (List.mem_of_getElem? sd)
    obtain ⟨y, z, py, pz, hb⟩ := b_pair (i := 2) (j := 3) (σ := wipe (L2.start ["way", "row", "gap", "rows"] [v1, v2]) [2, 3]) px
    have p2' : Dp K G' v2 (.int r) := dp_up (fun a o t e => Rl.stay hG t e) _ _ p2
    have e5 : addN ((ws.take (i + 1)).map entM) r = addN ((ws.take i).map entM) r ++ addN [(g, rs)] r := by
      rw [List.take_add_one, sd, Option.toList_some, List.map_append, addN_app]
      rfl
    refine ⟨_, hb, rfl, (· = decide (g ≤ r)), t_B (e_op1 (e_var (i := 2) rfl py) (e_var (i := 1) rfl p2') (rs_I0 fun X => .bl _)), fun hc => ?_, fun hc => ?_⟩
    · refine (e_len (e_var (i := 3) rfl pz) (.inl ⟨rs, rfl, rfl⟩)).imp fun d e => ?_
      rw [e, iv, e5, List.map_append]
      have : addN [(g, rs)] r = [(rs.length : Int)] := by
        have h : g ≤ r := of_decide_eq_true (Eq.symm hc)
        simp [addN, h]
      rw [this]
      rfl
    · rw [iv, e5]
      have : addN [(g, rs)] r = [] := by
        have h : ¬ g ≤ r := of_decide_eq_false (Eq.symm hc)
        simp [addN, h]
      rw [this, List.append_nil]
/-! ### later_rows -/
def LastZ (kf : Nat → Int) (n : Nat) : ZP := fun X v => ∃ p kvs, v = .ref p ∧ X p = some (.dK kvs) ∧ ∀ k, valV kvs (.inl k : Key) = (lastR kf n k).map fun r => .int r
theorem z_dc {σ : L2.St} {G : Hp} {wi : TI} {g : TG} {tk tv : TE} {vs : List Nat} {n : Nat} (kf : Nat → Int) (hi : ItD Same K wi σ G (· = n) (fun i d => d = .int i)) (hz : n ≤ 100000)
    (hs : ∀ (i : Nat) (x : V) (G' : Hp), Same G G' → Dp K G' x (.int i) → ∃ σ2, Binds2 K g (wipe σ vs) G' x σ2 ∧ wipe σ2 vs = wipe σ vs ∧ EvS Same K tk σ2 G' (· = .int (kf i)) ∧ EvS Same K tv σ2 G' (· = .int i)) :
    EvZ Same (tDc wi g tYes tk tv vs) σ G (LastZ kf n) := fun A hA Q q =>
  hi A hA _ fun J n' B Gd Y r sn wk hG hy D hD => by
    subst sn
    refine ⟨fun i k X => i + k = n' ∧ Same B X ∧ ∃ kvs, X D = some (.dK kvs) ∧ kvs.length ≤ i ∧ ∀ k, valV kvs (.inl k : Key) = (lastR kf i k).map fun r => .int r, ⟨n', by omega, Rl.new (R := Same) (Rl.refl B) hD, [], upd_same, Nat.le_refl _, fun k => rfl⟩, ?_⟩
    rintro i k X ⟨hik, rX, kvs, eD, le, hv⟩
    cases k with
    | zero =>
      obtain rfl : i = n' := by omega
      exact .inl ⟨wk.stops X (hG X rX), q (.ref D) X (Rl.trans (R := Same) r rX) ⟨D, kvs, rfl, own_mk eD fun _ => Rl.dom (R := Same) r hD, hv⟩⟩
    | succ k =>
      refine .inr ⟨wk.goes i X (by omega) (hG X rX), fun X2 => (∃ m', m' < k + 1 ∧ i + 1 + m' = n' ∧ Same B X2 ∧ ∃ kvs, X2 D = some (.dK kvs) ∧ kvs.length ≤ i + 1 ∧ ∀ k, valV kvs (.inl k : Key) = (lastR kf (i + 1) k).map fun r => .int r), fun X2 ⟨m', h1, h2⟩ => ⟨m', h1, h2⟩, fun x X' y => ?_⟩
      obtain ⟨rXX, d, sd, pd⟩ := hy i X x X' (by omega) rX (wk.yields i X x X' (by omega) (hG X rX) y)
      subst sd
      have s2 : Same G (own (own G A B) X X') := Rl.trans (R := Same) (r_own (R := Same) hA r) (r_own (R := Same) (Rl.trans (R := Same) own_r rX) rXX)
      obtain ⟨σ2, hb, hw, h1, h2⟩ := hs i x _ s2 pd
      refine hb X' _ (fun a o t z => (own_some z).1) ⟨hw, ?_⟩
      dsimp only [tYes]
      rw [if_pos rfl]
      refine h1 X' own_same _ fun kv d1 X1 r1 e1 q1 => h2 X1 (Rl.trans (R := Same) own_same r1) _ fun zv d2 X2 r2 e2 q2 => ?_
      subst e1 e2
      cases q1
      cases q2
      refine ⟨kvs, .inl (kf i), rfl, r2 D _ (r1 D _ (rXX D _ eD)), Nat.lt_of_le_of_lt le (Nat.lt_of_lt_of_le (show i < 100000 by omega) (by decide)), k, Nat.lt_succ_self k, by omega, Rl.new (R := Same) (Rl.trans (R := Same) (Rl.trans (R := Same) (Rl.trans (R := Same) rX rXX) r1) r2) hD, _, upd_same, ?_, fun j => ?_⟩
      · exact Nat.le_trans (length_putK kvs (.inl (kf i)) _) (Nat.succ_le_succ le)
      · rw [valV_put, lastR]
        by_cases e : j = kf i
        · rw [if_pos e, if_pos (by rw [e])]
          rfl
        · rw [if_neg e, if_neg (fun z => e (Sum.inl.inj z)), hv]
def spZ (K : PySem.W.Frag) (pre : List PyData → Prop) (Z : List PyData → ZP) : Sp := fun vs H Q _ => ∃ (G : Hp) (ds : List PyData), Same G H ∧ DpAll K G vs ds ∧ pre ds ∧ ∀ v B, Same H B → Z ds (own G H B) v → Q v B
theorem sc_later_rows : FnScope ["text", "way", "row"] ["text", "way"] (defScope s_later_rows) := ⟨rfl, rfl, rfl, by decide +kernel, rfl, by decide +kernel, by decide +kernel⟩
def preLaters (ds : List PyData) : Prop := ∃ es ws, ds = [.tuple es, .tuple ws] ∧ (∀ d ∈ ws, EntOk d) ∧ ws.length ≤ 4000 ∧ es.length ≤ 4000
def zLaters : List PyData → ZP
  | [.tuple es, d] => LastZ (fun i => laterN (wayL d) i) es.length
  | _ => fun _ _ => True
theorem cl_later_rows (T : Tz P K mg C fI cc) : Cl P w K mg base 2 "later_rows" (spZ K preLaters zLaters) := by
  obtain ⟨f, fd, F, hm⟩ := T.d_later_rows
  refine ⟨f, fd, ["text", "way"], F.ok sc_later_rows (fun vs H Q E h => ?_) (fun cdv A outer s H vs Q E hr h => ?_), hm, F.kp, F.binds fun _ _ _ _ _ _ us hl => match us, hl with | [_, _], _ => rfl⟩
  · obtain ⟨G, ds, _, p, ⟨es, ws, e, _⟩, _⟩ := h
    rw [dpa_len p, e]
    rfl
  · obtain ⟨G, ds, sm, p, hp, q⟩ := h
    obtain ⟨es, ws, rfl, he, hz, hz2⟩ := hp
    refine ⟨_, (pss_one (ps_ret (pe_dc (own := [("row", 2)]) rfl sc_later_rows.nd (pi_range1 rfl T.n_range (pa_cons (pe_callB call_len rfl T.y.x.n_len PySem.boot_len (pa_cons (pv 0) pa_nil)) pa_nil)) (blkOk_by (N := ["text", "way", "row"]) (sc := defScope s_later_rows) (by decide +kernel)) (fun _ _ _ _ _ => (pg_name (i := 2) sc_later_rows.nd rfl (Or.inl rfl))) (fun _ _ _ _ _ => pts_nil) (fun _ _ _ _ _ => (pe_k (cl_later_row T) hr (by decide) rfl (pa_cons (pv 1) (pa_cons (pv 2) pa_nil)))) (fun _ _ _ _ _ => (pv 2))))), ?_⟩
    match vs, p with
    | [v1, v2], .cons p1 (.cons p2 .nil) =>
      refine z_dc (n := es.length) (fun i => laterN (ws.map entM) i) (it_range (Sn := (· = es.length)) ((e_len (e_var (i := 0) rfl p1) (.inl ⟨es, rfl, rfl⟩)).imp fun d e => ⟨es.length, e, rfl⟩) (fun n e => by omega)) (by omega) (fun i x G' hG px => ⟨_, b_name (j := 2), rfl, ?_, e_var (i := 2) rfl px⟩) H sm _ fun v B r z => q v B r z
      exact e_callD (F := laterD) (ds := [.tuple ws, .int i]) (a_one (e_var (i := 1) rfl (dp_up (fun a o _ e => hG a o e) _ _ p2)) (a_one (e_var (i := 2) rfl px) a_nil)) ⟨ws, i, rfl, he, hz⟩
end
end K25
end
section
set_option maxRecDepth 100000
set_option maxHeartbeats 2000000
namespace K25
open PySem PySem.Spec PyProof.Rows L2
/-- the promise of a def that may raise, with a pre about the values -/
def spY (K : PySem.W.Frag) (C : Addr) (pre : Hp → List V → List PyData → Prop) (er : List PyData → ErD) (F : List PyData → PyData) : Sp := fun vs H Q E => ∃ (G : Hp) (ds : List PyData), Same G H ∧ DpAll K G vs ds ∧ pre G vs ds ∧
  (er ds = none → ∀ v B, Same H B → Dp K (own G H B) v (F ds) → Q v B) ∧ ∀ w a, er ds = some (w, a) → ErrAt Same K C E G H w a
section
variable {P : Program} {w : World} {K : PySem.W.Frag} {mg : Str → Option Value} {base : Heap} {C fI cc : Addr}
theorem cy_d {x : Str} {st : Stmt} {N ps : List Str} {k : Nat} {pre : Hp → List V → List PyData → Prop} {er : List PyData → ErD} {F : List PyData → PyData} (D : DefAt K mg x st)
    (Sc : FnScope N ps (defScope st)) (hn : ∀ G vs ds, pre G vs ds → vs.length = ps.length)
    (hbody : ∀ (f : Addr) (cdv : Value) (A : Around) (outer : List Env) (s : Shared) (H : Hp) (E : XK), Room k (A.deeper (envOfC x (defScope st) s.heap.objs.size f cdv)) →
      ∃ t, PSs (cxOf (L2.CX P w) P w K mg base N x (defScope st) f cdv A outer s H E) (defBody st) t ∧ ∀ (vs : List V) (G : Hp) (ds : List PyData), DpAll K G vs ds → pre G vs ds →
        Rx Same K C (fun _ => E) t (L2.start N vs) G (er ds) (· = F ds)) :
    ∃ f fd, FnOk P w K mg base (L2.CX P w) (k + 1) f fd ps (spY K C pre er F) ∧ Fun K x x st f fd ∧ mg x = some (.ref f) := by
  obtain ⟨f, fd, Fn, hm⟩ := D
  refine ⟨f, fd, (funD_of Fn).ok Sc (fun vs H Q E h => ?_) (fun cdv A outer s H vs Q E hr h => ?_), Fn, hm⟩
  · obtain ⟨G, ds, _, p, hp, _⟩ := h
    exact hn G vs ds hp
  · obtain ⟨t, ht, hq⟩ := hbody f cdv A outer s H E hr
    refine ⟨t, ht, ?_⟩
    obtain ⟨G, ds, sm, p, hp, q, e⟩ := h
    exact hq vs G ds p hp H sm _ (fun z v d B r s0 pd => q z v B r (s0 ▸ pd)) e
theorem text_tup {t : PyData} (h : erText [t] = none) : ∃ es, t = .tuple es := by
  cases t with
  | tuple es => exact ⟨es, rfl⟩
  | _ => cases h
theorem way_ok {es : List PyData} {d : PyData} (h : erWay [.tuple es, d] = none) : wayOk es.length d = true := by
  cases e : wayOk es.length d with
  | true => rfl
  | false =>
    have h : erWant [.bool (wayOk es.length d), .str "way", .int (-1)] = none := h
    rw [e] at h
    cases h
theorem row_ok {es : List PyData} {r : PyData} (h : erRow [.tuple es, r] = none) : ∃ i : Int, r = .int i ∧ 0 ≤ i ∧ i < es.length := by
  have h : erWant [.bool (isRowOf [.tuple es, r]), .str "row", r] = none := h
  cases e : isRowOf [.tuple es, r] with
  | false =>
    rw [e] at h
    cases h
  | true =>
    cases r with
    | int i =>
      have e : (decide ((0 : Int) ≤ i) && decide (i < (es.length : Int))) = true := e
      rw [Bool.and_eq_true, decide_eq_true_eq, decide_eq_true_eq] at e
      exact ⟨i, rfl, e.1, e.2⟩
    | _ => cases e
theorem way_tup {n : Nat} {d : PyData} (h : wayOk n d = true) : ∃ ws, d = .tuple ws ∧ (∀ e ∈ ws, EntOk e) := by
  have h : (isWayD d && lastD n d) = true := h
  rw [Bool.and_eq_true] at h
  cases d with
  | tuple ws =>
    refine ⟨ws, rfl, fun e m => ?_⟩
    obtain ⟨i, r, e2, _⟩ := way_entry h.1 m
    exact ⟨i, r, e2⟩
  | _ => cases h.1
def optD : Option Nat → PyData
  | some i => .int i
  | none => .none
theorem er_none (e : ErD) : erOr e none = e := by cases e <;> rfl
theorem rx_er {R : Hp → Hp → Prop} {E : L2.St → XK} {ts : TS} {σ : L2.St} {G : Hp} {er er1 : ErD} {S : PyData → Prop} (h : Rx R K C E ts σ G er S) (e : er = er1) : Rx R K C E ts σ G er1 S := e ▸ h
/-- d.get(k) of the dict of old rows -/
theorem e_get1 {σ : L2.St} {G : Hp} {td ty : TE} {kf : Nat → Int} {n : Nat} {i : Int} (h : EvZ Same td σ G (LastZ kf n)) (k : EvS Same K ty σ G (· = .int i)) : EvS Same K (tDGet1 td ty) σ G (· = optD (lastR kf n i)) := fun A hA Q q =>
  h A hA _ fun v B r ⟨p, kvs, e, hp, hk⟩ => by
    subst e
    have hpB : B p = some (.dK kvs) := (own_some hp).1
    refine ⟨p, rfl, .inl ⟨kvs, .inl hpB⟩, k B (Rl.trans (R := Same) hA r) _ fun y d D r2 e pk => ?_⟩
    subst e
    cases pk
    refine ⟨_, .inl ⟨kvs, .inl i, .inl (r2 p _ hpB), rfl, rfl⟩, ?_⟩
    rw [hk]
    cases hl : lastR kf n i with
    | none => exact q .non .none D (Rl.trans (R := Same) r r2) (by rw [hl]; rfl) .non
    | some j => exact q (.int j) (.int j) D (Rl.trans (R := Same) r r2) (by rw [hl]; rfl) (.int _)
/-- text and way as they are asked for -/
def preTW (K : PySem.W.Frag) (G : Hp) (v2 : V) (t d : PyData) : Prop := Fine t ∧ Fine d ∧ ∀ es, t = .tuple es → erText [.tuple es] = none → wayOk es.length d = true → ∃ ws, d = .tuple ws ∧ TwOk K G v2 es ws
def preG2 (K : PySem.W.Frag) (G : Hp) (vs : List V) (ds : List PyData) : Prop := ∃ v1 v2 t d, vs = [v1, v2] ∧ ds = [t, d] ∧ preTW K G v2 t d
def preG3 (K : PySem.W.Frag) (G : Hp) (vs : List V) (ds : List PyData) : Prop := ∃ v1 v2 v3 t d r, vs = [v1, v2, v3] ∧ ds = [t, d, r] ∧ preTW K G v2 t d
def erTW (t d : PyData) (e : ErD) : ErD := erOr (erText [t]) (erOr (erWay [t, d]) e)
def erGrown : List PyData → ErD
  | [t, d] => erTW t d none
  | _ => none
def erMoved : List PyData → ErD
  | [t, d, r] => erTW t d (erRow [t, r])
  | _ => none
def movedD : List PyData → PyData
  | [_, d, r] => laterD [d, r]
  | _ => .none
def erOld : List PyData → ErD
  | [t, d, r] => erTW t d (erRow [grownD [t, d], r])
  | _ => none
def oldD : List PyData → PyData
  | [.tuple es, d, .int i] => optD (lastR (fun j => laterN (wayL d) j) es.length i)
  | _ => .none
theorem e_callG2 {σ : L2.St} {G : Hp} {i j : Nat} {v1 v2 : V} {ds : List PyData} {pre : Hp → List V → List PyData → Prop} {S : List PyData → PyData → Prop} {E : XK} (h1 : σ[i]? = some (some v1)) (h2 : σ[j]? = some (some v2)) (p : DpAll K G [v1, v2] ds) (hp : pre G [v1, v2] ds) :
    EvS Same K (tCall (spG K pre S) [] E (tCons (tVar i) (tCons (tVar j) tNil))) σ G (S ds) := fun A hA Q q => ⟨v1, h1, v2, h2, G, ds, hA, p, hp, q⟩
theorem e_callZ2 {σ : L2.St} {G : Hp} {i j : Nat} {v1 v2 : V} {ds : List PyData} {pre : List PyData → Prop} {Z : List PyData → ZP} {E : XK} (h1 : σ[i]? = some (some v1)) (h2 : σ[j]? = some (some v2)) (p : DpAll K G [v1, v2] ds) (hp : pre ds) :
    EvZ Same (tCall (spZ K pre Z) [] E (tCons (tVar i) (tCons (tVar j) tNil))) σ G (Z ds) := fun A hA Q q => ⟨v1, h1, v2, h2, G, ds, hA, p, hp, q⟩
theorem sc_grown : FnScope ["text", "way"] ["text", "way"] (defScope s_grown) := ⟨rfl, rfl, rfl, by decide +kernel, rfl, by decide +kernel, by decide +kernel⟩
theorem ok_grown (T : Tz P K mg C fI cc) : ∃ f fd, FnOk P w K mg base (L2.CX P w) 8 f fd ["text", "way"] (spY K C (preG2 K) erGrown grownD) ∧ Fun K "grown" "grown" s_grown f fd ∧ mg "grown" = some (.ref f) := by
  refine cy_d T.d_grown sc_grown (fun G vs ds ⟨v1, v2, t, d, e, _⟩ => by rw [e]; rfl) fun f cdv A outer s H E hr => ⟨_,
    (pss_cons (ps_expr (pe_x (W := fun c d _ H => E c d H) (cl_want_text T.y) hr (by decide) (takes_of rfl rfl rfl rfl) rfl (pa_cons (pv 0) pa_nil)))
      (pss_cons (ps_expr (pe_x (W := fun c d _ H => E c d H) (cl_want_way T.y) hr (by decide) (takes_of rfl rfl rfl rfl) rfl (pa_cons (pv 0) (pa_cons (pv 1) pa_nil))))
      (pss_one (ps_ret (pe_k (cl_grown_rows T) hr (by decide) rfl (pa_cons (pv 0) (pa_cons (pv 1) pa_nil))))))), fun vs G ds p hp => ?_⟩
  obtain ⟨v1, v2, t, d, rfl, rfl, h1, h2, h3⟩ := hp
  match p with
  | .cons p1 (.cons p2 .nil) =>
    refine rx_seq' (nx_drop (ex_call0 (a_one (e_var rfl p1) a_nil) ⟨t, rfl, h1⟩)) fun z1 => ?_
    obtain ⟨es, rfl⟩ := text_tup z1
    refine rx_seq' (er2 := none) (nx_drop (ex_call0 (a_one (e_var rfl p1) (a_one (e_var rfl p2) a_nil)) ⟨es, d, rfl, h2⟩)) fun z2 => ?_
    obtain ⟨ws, rfl, hw⟩ := h3 es rfl z1 (way_ok z2)
    exact rx_rt (rt_ret (e_callG2 rfl rfl p ⟨v1, v2, es, ws, rfl, rfl, hw⟩))
theorem sc_moved : FnScope ["text", "way", "row"] ["text", "way", "row"] (defScope s_moved) := ⟨rfl, rfl, rfl, by decide +kernel, rfl, by decide +kernel, by decide +kernel⟩
theorem ok_moved (T : Tz P K mg C fI cc) : ∃ f fd, FnOk P w K mg base (L2.CX P w) 8 f fd ["text", "way", "row"] (spY K C (preG3 K) erMoved movedD) ∧ Fun K "moved" "moved" s_moved f fd ∧ mg "moved" = some (.ref f) := by
  refine cy_d T.d_moved sc_moved (fun G vs ds ⟨v1, v2, v3, t, d, r, e, _⟩ => by rw [e]; rfl) fun f cdv A outer s H E hr => ⟨_,
    (pss_cons (ps_expr (pe_x (W := fun c d _ H => E c d H) (cl_want_text T.y) hr (by decide) (takes_of rfl rfl rfl rfl) rfl (pa_cons (pv 0) pa_nil)))
      (pss_cons (ps_expr (pe_x (W := fun c d _ H => E c d H) (cl_want_way T.y) hr (by decide) (takes_of rfl rfl rfl rfl) rfl (pa_cons (pv 0) (pa_cons (pv 1) pa_nil))))
      (pss_cons (ps_expr (pe_x (W := fun c d _ H => E c d H) (cl_want_row T.y) hr (by decide) (takes_of rfl rfl rfl rfl) rfl (pa_cons (pv 0) (pa_cons (pv 2) pa_nil))))
      (pss_one (ps_ret (pe_k (cl_later_row T) hr (by decide) rfl (pa_cons (pv 1) (pa_cons (pv 2) pa_nil)))))))), fun vs G ds p hp => ?_⟩
  obtain ⟨v1, v2, v3, t, d, r, rfl, rfl, h1, h2, h3⟩ := hp
  match p with
  | .cons p1 (.cons p2 (.cons p3 .nil)) =>
    refine rx_seq' (nx_drop (ex_call0 (a_one (e_var rfl p1) a_nil) ⟨t, rfl, h1⟩)) fun z1 => ?_
    obtain ⟨es, rfl⟩ := text_tup z1
    refine rx_seq' (nx_drop (ex_call0 (a_one (e_var rfl p1) (a_one (e_var rfl p2) a_nil)) ⟨es, d, rfl, h2⟩)) fun z2 => ?_
    obtain ⟨ws, rfl, hw⟩ := way_tup (way_ok z2)
    refine rx_er (er := erOr (erRow [.tuple es, r]) none) (rx_seq' (nx_drop (ex_call0 (a_one (e_var rfl p1) (a_one (e_var rfl p3) a_nil)) ⟨es, r, rfl⟩)) fun z3 => ?_) (er_none _)
    obtain ⟨i, rfl, _, _⟩ := row_ok z3
    exact rx_rt (rt_ret (e_callD (a_one (e_var rfl p2) (a_one (e_var rfl p3) a_nil)) ⟨ws, i, rfl, hw, h2.tup.1⟩))
theorem sc_old_row : FnScope ["text", "way", "row"] ["text", "way", "row"] (defScope s_old_row) := ⟨rfl, rfl, rfl, by decide +kernel, rfl, by decide +kernel, by decide +kernel⟩
theorem ok_old_row (T : Tz P K mg C fI cc) : ∃ f fd, FnOk P w K mg base (L2.CX P w) 8 f fd ["text", "way", "row"] (spY K C (preG3 K) erOld oldD) ∧ Fun K "old_row" "old_row" s_old_row f fd ∧ mg "old_row" = some (.ref f) := by
  refine cy_d T.d_old_row sc_old_row (fun G vs ds ⟨v1, v2, v3, t, d, r, e, _⟩ => by rw [e]; rfl) fun f cdv A outer s H E hr => ⟨_,
    (pss_cons (ps_expr (pe_x (W := fun c d _ H => E c d H) (cl_want_text T.y) hr (by decide) (takes_of rfl rfl rfl rfl) rfl (pa_cons (pv 0) pa_nil)))
      (pss_cons (ps_expr (pe_x (W := fun c d _ H => E c d H) (cl_want_way T.y) hr (by decide) (takes_of rfl rfl rfl rfl) rfl (pa_cons (pv 0) (pa_cons (pv 1) pa_nil))))
      (pss_cons (ps_expr (pe_x (W := fun c d _ H => E c d H) (cl_want_row T.y) hr (by decide) (takes_of rfl rfl rfl rfl) rfl (pa_cons (pe_k (cl_grown_rows T) hr (by decide) rfl (pa_cons (pv 0) (pa_cons (pv 1) pa_nil))) (pa_cons (pv 2) pa_nil))))
      (pss_one (ps_ret (pe_dget1 (un1 hr.units) (pe_k (cl_later_rows T) hr (by decide) rfl (pa_cons (pv 0) (pa_cons (pv 1) pa_nil))) (pv 2) ⟨rfl, rfl, rfl, rfl⟩)))))), fun vs G ds p hp => ?_⟩
  obtain ⟨v1, v2, v3, t, d, r, rfl, rfl, h1, h2, h3⟩ := hp
  match p with
  | .cons p1 (.cons p2 (.cons p3 .nil)) =>
    refine rx_seq' (nx_drop (ex_call0 (a_one (e_var rfl p1) a_nil) ⟨t, rfl, h1⟩)) fun z1 => ?_
    obtain ⟨es, rfl⟩ := text_tup z1
    refine rx_seq' (nx_drop (ex_call0 (a_one (e_var rfl p1) (a_one (e_var rfl p2) a_nil)) ⟨es, d, rfl, h2⟩)) fun z2 => ?_
    obtain ⟨ws, rfl, hw⟩ := h3 es rfl z1 (way_ok z2)
    refine rx_er (er := erOr (erRow [.tuple (grownL es (ws.map entM)), r]) none) (rx_seq' (nx_drop (ex_call0 (a_one (e_callG2 rfl rfl (.cons p1 (.cons p2 .nil)) ⟨v1, v2, es, ws, rfl, rfl, hw⟩) (a_one (e_var rfl p3) a_nil)) ⟨_, r, rfl⟩)) fun z3 => ?_) (er_none _)
    obtain ⟨i, rfl, _, _⟩ := row_ok z3
    refine rx_rt (rt_ret (e_get1 (e_callZ2 (Z := zLaters) rfl rfl (.cons p1 (.cons p2 .nil)) ⟨es, ws, rfl, hw.en, h2.tup.1, hw.sm.n⟩) (e_var rfl p3)))
end
end K25
end
section
set_option maxRecDepth 100000
set_option maxHeartbeats 2000000
namespace K25
open PySem PySem.Spec PyProof.Rows L2
/-! ### the feed: a dict that is written -/
def feedK (L : Addr) (t r d : Int) : List (Key × V) := [(.inr "cells", .ref L), (.inr "turn", .int t), (.inr "rest", .int r), (.inr "drawn", .int d)]
def FdO (L : Addr) (o : HO) : Prop := ∃ t r d : Int, 0 ≤ t ∧ 0 ≤ r ∧ 0 ≤ d ∧ o = .dK (feedK L t r d)
/-- all stays but the feed at f, which stays a feed -/
structure RF (f L : Addr) (H H' : Hp) : Prop where
  all : ∀ a o, H a = some o → (a = f ∧ FdO L o) ∨ H' a = some o
  fd : ∀ o, H f = some o → FdO L o → ∃ o', H' f = some o' ∧ FdO L o'
theorem fdO_stay {L : Addr} {o : HO} (h : FdO L o) (s : Stay o) : False := by
  obtain ⟨t, r, d, _, _, _, rfl⟩ := h
  exact s
instance {f L : Addr} : Rl (RF f L) where
  refl H := ⟨fun _ _ h => .inr h, fun o h e => ⟨o, h, e⟩⟩
  trans {a b c} x y := ⟨fun p o h => by
    rcases x.all p o h with h1 | h1
    · exact .inl h1
    · exact y.all p o h1, fun o h e => by
    obtain ⟨o1, h1, e1⟩ := x.fd o h e
    exact y.fd o1 h1 e1⟩
  new {H H' p o} x n := ⟨fun a u h => by
    have na : a ≠ p := fun e => by rw [e, n] at h; cases h
    rcases x.all a u h with h1 | h1
    · exact .inl h1
    · exact .inr (by rw [upd_ne na]; exact h1), fun u h e => by
    have na : f ≠ p := fun z => by rw [z, n] at h; cases h
    obtain ⟨o1, h1, e1⟩ := x.fd u h e
    exact ⟨o1, by rw [upd_ne na]; exact h1, e1⟩⟩
  stay {H H' a o} x s h := by
    rcases x.all a o h with ⟨_, h1⟩ | h1
    · exact (fdO_stay h1 s).elim
    · exact h1
  dom {H H' a} x n := by
    cases e : H a with
    | none => rfl
    | some o =>
      rcases x.all a o e with ⟨rfl, h1⟩ | h1
      · obtain ⟨o1, h2, _⟩ := x.fd o e h1
        rw [n] at h2
        cases h2
      · rw [n] at h1
        cases h1
  ext {H H'} s := ⟨fun a o h => .inr (s a o h), fun o h e => ⟨o, s _ o h, e⟩⟩
  own {G A B} x y := ⟨fun a o h => by
    rcases x.all a o h with h1 | h1
    · exact .inl h1
    · rcases y.all a o h1 with h2 | h2
      · exact .inl h2
      · exact .inr (own_mk h2 fun z => by rw [h] at z; cases z), fun o h e => by
    obtain ⟨o1, h1, e1⟩ := x.fd o h e
    obtain ⟨o2, h2, e2⟩ := y.fd o1 h1 e1
    exact ⟨o2, own_mk h2 fun z => (by rw [h] at z; cases z), e2⟩⟩
/-- the feed as it stands -/
structure FdG (K : PySem.W.Frag) (f L : Addr) (ns : List Int) (G : Hp) : Prop where
  f : ∃ o, G f = some o ∧ FdO L o
  l : SqL K G L (ns.map V.int)
  n : ns.length ≤ 63
section
variable {K : PySem.W.Frag} {f L : Addr} {ns : List Int} {G A B : Hp} {σ : L2.St} {te ty tv : TE} {ts tw : TS} {S : PyData → Prop}
theorem FdG.to (h : FdG K f L ns G) (r : RF f L G A) : FdG K f L ns A := by
  obtain ⟨o, h1, h2⟩ := h.f
  exact ⟨r.fd o h1 h2, sql_up (fun a o t e => Rl.stay r t e) h.l, h.n⟩
theorem FdG.own (h : FdG K f L ns G) (hA : RF f L G A) (r : RF f L A B) : FdG K f L ns (own G A B) := h.to (Rl.own hA r)
abbrev NN (d : PyData) : Prop := ∃ i : Int, d = .int i ∧ 0 ≤ i
abbrev Lt (m : Int) (d : PyData) : Prop := ∃ i : Int, d = .int i ∧ 0 ≤ i ∧ i < m
/-- feed["turn"] .. -/
theorem e_fget {i : Nat} {k : Str} (h : σ[i]? = some (some (.ref f))) (F : FdG K f L ns G) (hk : k = "turn" ∨ k = "rest" ∨ k = "drawn") : EvS (RF f L) K (tDGet (tVar i) (tC (.str k))) σ G NN := fun A hA Q q => by
  obtain ⟨o, h1, t, r, d, ht, hr, hd, rfl⟩ := (F.to hA).f
  refine ⟨.ref f, h, ?_⟩
  rcases hk with rfl | rfl | rfl
  · exact ⟨f, .int t, rfl, .inl ⟨_, .inr "turn", .inl h1, rfl, rfl⟩, q _ (.int t) A (Rl.refl A) ⟨t, rfl, ht⟩ (.int _)⟩
  · exact ⟨f, .int r, rfl, .inl ⟨_, .inr "rest", .inl h1, rfl, rfl⟩, q _ (.int r) A (Rl.refl A) ⟨r, rfl, hr⟩ (.int _)⟩
  · exact ⟨f, .int d, rfl, .inl ⟨_, .inr "drawn", .inl h1, rfl, rfl⟩, q _ (.int d) A (Rl.refl A) ⟨d, rfl, hd⟩ (.int _)⟩
theorem dpa_ints {X : Hp} : ∀ ns : List Int, DpAll K X (ns.map V.int) (ns.map PyData.int)
  | [] => .nil
  | n :: ns => .cons (.int n) (dpa_ints ns)
theorem e_fcells {i : Nat} (h : σ[i]? = some (some (.ref f))) (F : FdG K f L ns G) : EvS (RF f L) K (tDGet (tVar i) (tC (.str "cells"))) σ G (· = .list (ns.map .int)) := fun A hA Q q => by
  obtain ⟨o, h1, t, r, d, ht, hr, hd, rfl⟩ := (F.to hA).f
  refine ⟨.ref f, h, f, .ref L, rfl, .inl ⟨_, .inr "cells", .inl h1, rfl, rfl⟩, q _ _ A (Rl.refl A) rfl (.lst (sql_up (up_base (R := RF f L) hA (Rl.refl A)) F.l) (dpa_ints ns))⟩
/-- goes on -/
def Go (R : Hp → Hp → Prop) (ts : TS) (σ : L2.St) (G : Hp) : Prop := ∀ A, R G A → ∀ D : Ends, (∀ B, R A B → D.nx σ B) → ts D σ A
theorem rt_go {R : Hp → Hp → Prop} [Rl R] (h : Go R ts σ G) (k : Rt R K tw σ G S) : Rt R K (tSeq ts tw) σ G S := fun A hA D q =>
  h A hA _ fun B r => k B (Rl.trans hA r) D fun v d C r2 s p => q v d C (Rl.trans r r2) s (dp_up (up_back r) d v p)
/-- feed["turn"] = e -/
theorem go_fput {i : Nat} {k : Str} (h : σ[i]? = some (some (.ref f))) (F : FdG K f L ns G) (hk : k = "turn" ∨ k = "rest" ∨ k = "drawn") (hv : EvS (RF f L) K tv σ G NN) : Go (RF f L) (sDPut (tVar i) (tC (.str k)) tv) σ G := fun A hA D q =>
  hv A hA _ fun v d B r ⟨j, e, hj⟩ p => by
    subst e
    cases p
    obtain ⟨o, h1, t, rr, d, ht, hr, hd, rfl⟩ := (F.to (Rl.trans hA r)).f
    have fin : ∀ kvs', FdO L (.dK kvs') → RF f L B (upd B f (.dK kvs')) := fun kvs' ho => ⟨fun a u e => by
      by_cases ha : a = f
      · subst ha
        rw [h1] at e
        cases e
        exact .inl ⟨rfl, t, rr, d, ht, hr, hd, rfl⟩
      · exact .inr (by rw [upd_ne ha]; exact e), fun u e _ => ⟨_, upd_same, ho⟩⟩
    refine ⟨.ref f, h, ?_⟩
    rcases hk with rfl | rfl | rfl
    · exact ⟨f, _, rfl, .inl ⟨_, .inr "turn", h1, rfl, (show 4 < sizeLine by decide), rfl⟩, q _ (Rl.trans r (fin _ ⟨j, rr, d, hj, hr, hd, rfl⟩))⟩
    · exact ⟨f, _, rfl, .inl ⟨_, .inr "rest", h1, rfl, (show 4 < sizeLine by decide), rfl⟩, q _ (Rl.trans r (fin _ ⟨t, j, d, ht, hj, hd, rfl⟩))⟩
    · exact ⟨f, _, rfl, .inl ⟨_, .inr "drawn", h1, rfl, (show 4 < sizeLine by decide), rfl⟩, q _ (Rl.trans r (fin _ ⟨t, rr, j, ht, hr, hj, rfl⟩))⟩
end
/-! ### promises of defs that draw -/
def spF (K : PySem.W.Frag) (pre : List PyData → Prop) (S : List PyData → PyData → Prop) : Sp := fun vs H Q _ => ∃ (f L : Addr) (ns : List Int) (G : Hp) (ws : List V) (ds : List PyData), vs = .ref f :: ws ∧ Same G H ∧ FdG K f L ns G ∧ DpAll K G ws ds ∧ pre ds ∧
  ∀ v d B, RF f L H B → S ds d → Dp K (own G H B) v d → Q v B
section
variable {P : Program} {w : World} {K : PySem.W.Frag} {mg : Str → Option Value} {base : Heap} {f L : Addr} {ns : List Int} {G : Hp} {σ : L2.St}
theorem cl_f {x : Str} {st : Stmt} {N ps : List Str} {k : Nat} {pre : List PyData → Prop} {S : List PyData → PyData → Prop} (D : DefAt K mg x st)
    (hb : ∀ (kV doc pm : Value) (an : Option Addr) (cdv ct : Value) (us : List Value), us.length = ps.length → bindArgs (PySem.W.fnOf x x (defArgs st) (defBody st) (defScope st) .none kV doc pm an cdv ct) ⟨us, []⟩ = pure (ps.zip us))
    (Sc : FnScope N ps (defScope st)) (hn : ∀ ds, pre ds → ds.length + 1 = ps.length)
    (hbody : ∀ (g : Addr) (cdv : Value) (A : Around) (outer : List Env) (s : Shared) (H : Hp) (E : XK), Room k (A.deeper (envOfC x (defScope st) s.heap.objs.size g cdv)) →
      ∃ t, PSs (cxOf CX0 P w K mg base N x (defScope st) g cdv A outer s H E).nox (defBody st) t ∧ ∀ (f L : Addr) (ns : List Int) (ws : List V) (G : Hp) (ds : List PyData), FdG K f L ns G → DpAll K G ws ds → pre ds → Rt (RF f L) K t (L2.start N (.ref f :: ws)) G (S ds)) :
    Cl P w K mg base (k + 1) x (spF K pre S) := by
  obtain ⟨g, fd, F, hm⟩ := D
  refine ⟨g, fd, ps, F.ok Sc (fun vs H Q E h => ?_) (fun cdv A outer s H vs Q E hr h => ?_), hm, F.kp, F.binds hb⟩
  · obtain ⟨f, L, ns, G, ws, ds, rfl, _, _, p, hp, _⟩ := h
    rw [List.length_cons, dpa_len p]
    exact hn ds hp
  · obtain ⟨t, ht, hq⟩ := hbody g cdv A outer s H E hr
    refine ⟨t, ht, ?_⟩
    obtain ⟨f, L, ns, G, ws, ds, rfl, sm, fg, p, hp, q⟩ := h
    exact hq f L ns ws G ds fg p hp H (Rl.ext sm) _ fun v d B r s pd => q v d B r s pd
theorem e_callF {i : Nat} {ta : TA} {pre : List PyData → Prop} {S : List PyData → PyData → Prop} {Sl : List PyData → Prop} {E : XK} (h : σ[i]? = some (some (.ref f))) (F : FdG K f L ns G) (ha : EvA (RF f L) K ta σ G Sl) (k : ∀ ds, Sl ds → pre ds) :
    EvS (RF f L) K (tCall (spF K pre S) [] E (tCons (tVar i) ta)) σ G (fun d => ∃ ds, Sl ds ∧ S ds d) := fun A hA Q q =>
  ⟨.ref f, h, ha A hA _ fun vs ds B r s p => by
    show spF K pre S (.ref f :: (vs ++ [])) B Q E
    rw [List.append_nil]
    exact ⟨f, L, ns, own G A B, vs, ds, rfl, own_same, F.own hA r, p, k ds s, fun v d D rD sd pd => q v d D (Rl.trans r rD) ⟨ds, s, sd⟩ (dp_up (up_in (R := RF f L) r) d v pd)⟩⟩
end
end K25
end
section
set_option maxRecDepth 100000
set_option maxHeartbeats 2000000
namespace K25
open PySem PySem.Spec PyProof.Rows L2
abbrev s__law_feed : Stmt := topS 32
abbrev s__law_draw : Stmt := topS 33
abbrev s__law_any : Stmt := topS 34
abbrev s__law_scenes : Stmt := topS 35
abbrev s__law_row : Stmt := topS 36
abbrev s__law_menu : Stmt := topS 37
abbrev s__law_text : Stmt := topS 38
abbrev s__law_way : Stmt := topS 40
abbrev s__law_grown : Stmt := topS 41
abbrev s__law_heard : Stmt := topS 42
abbrev s__law_same : Stmt := topS 43
abbrev s__law_bad_texts : Stmt := topS 44
abbrev s__law_bad_ways : Stmt := topS 45
abbrev s__law_long : Stmt := topS 46
abbrev s__law_long_right : Stmt := topS 47
abbrev s__law_refused_right : Stmt := topS 48
abbrev s_law : Stmt := topS 49
/-- what the top holds for the law -/
structure Tl (P : Program) (K : PySem.W.Frag) (mg : Str → Option Value) (C fI cc : Addr) : Prop where
  z : Tz P K mg C fI cc
  n_list : mg "list" = none
  n_repr : mg "repr" = none
  n_max : mg "max" = none
  n_sorted : mg "sorted" = none
  n_set : mg "set" = none
  d_feed : DefAt K mg "_law_feed" s__law_feed
  d_draw : DefAt K mg "_law_draw" s__law_draw
  d_any : DefAt K mg "_law_any" s__law_any
  d_scenes : DefAt K mg "_law_scenes" s__law_scenes
  d_row : DefAt K mg "_law_row" s__law_row
  d_menu : DefAt K mg "_law_menu" s__law_menu
  d_text : DefAt K mg "_law_text" s__law_text
  d_way : DefAt K mg "_law_way" s__law_way
  d_grown : DefAt K mg "_law_grown" s__law_grown
  d_heard : DefAt K mg "_law_heard" s__law_heard
  d_same : DefAt K mg "_law_same" s__law_same
  d_bad_texts : DefAt K mg "_law_bad_texts" s__law_bad_texts
  d_bad_ways : DefAt K mg "_law_bad_ways" s__law_bad_ways
  d_long : DefAt K mg "_law_long" s__law_long
  d_long_right : DefAt K mg "_law_long_right" s__law_long_right
  d_refused_right : DefAt K mg "_law_refused_right" s__law_refused_right
section
variable {R : Hp → Hp → Prop} [Rl R] {K : PySem.W.Frag} {σ : L2.St} {G : Hp} {te ta tb : TE} {p q r : Int → Prop}
abbrev IntS (p : Int → Prop) (d : PyData) : Prop := ∃ i : Int, d = .int i ∧ p i
theorem e_opI {g : Int → Int → Int} (h1 : EvS R K ta σ G (IntS p)) (h2 : EvS R K tb σ G (IntS q)) (h : ∀ i j, p i → q j → r (g i j)) : EvS R K (tOp (rI0 fun i j => .int (g i j)) ta tb) σ G (IntS r) :=
  e_op h1 h2 fun dx dy ⟨i, e1, p1⟩ ⟨j, e2, p2⟩ => by
    subst e1 e2
    intro A hA B x y r1 px py Q qq
    exact rs_I0 (e := .int (g i j)) (fun X => .int _) A hA B x y r1 px py Q fun v d D rr e pd => qq v d D rr ⟨_, e, h i j p1 p2⟩ pd
theorem e_opIc {c : Int → Int → Prop} {g : Int → Int → Int} (h1 : EvS R K ta σ G (IntS p)) (h2 : EvS R K tb σ G (IntS q)) (hc : ∀ i j, p i → q j → c i j) (h : ∀ i j, p i → q j → r (g i j)) : EvS R K (tOp (rI c fun i j => .int (g i j)) ta tb) σ G (IntS r) :=
  e_op h1 h2 fun dx dy ⟨i, e1, p1⟩ ⟨j, e2, p2⟩ => by
    subst e1 e2
    intro A hA B x y r1 px py Q qq
    exact rs_I (e := .int (g i j)) (hc i j p1 p2) (fun X => .int _) A hA B x y r1 px py Q fun v d D rr e pd => qq v d D rr ⟨_, e, h i j p1 p2⟩ pd
theorem e_cmpI {g : Int → Int → Bool} (h1 : EvS R K ta σ G (IntS p)) (h2 : EvS R K tb σ G (IntS q)) : EvS R K (tOp (rI0 fun i j => .bl (g i j)) ta tb) σ G (fun d => ∃ b, d = .bool b ∧ True) :=
  e_op h1 h2 fun dx dy ⟨i, e1, p1⟩ ⟨j, e2, p2⟩ => by
    subst e1 e2
    intro A hA B x y r1 px py Q qq
    exact rs_I0 (e := .bool (g i j)) (fun X => .bl _) A hA B x y r1 px py Q fun v d D rr e pd => qq v d D rr ⟨_, e, trivial⟩ pd
theorem t_testS {Sb : Bool → Prop} (h : EvS R K te σ G (fun d => ∃ b, d = .bool b ∧ Sb b)) : EvT R (tTest te) σ G Sb := fun A hA Q q => h A hA _ fun v d B r s p => by
  obtain ⟨b, e, sb⟩ := s
  subst e
  cases p
  exact ⟨b, rfl, q b B r sb⟩
theorem sh_ints (ns : List Int) : SeqAt.shaped (.list (ns.map .int)) = true := by
  obtain ⟨h1, h2⟩ := lay_all (n := 1) (ds := ns.map PyData.int) fun d hd => by
    obtain ⟨i, _, rfl⟩ := List.mem_map.1 hd
    exact ⟨by simp [PyData.canLay0], by simp [PyData.depth]⟩
  unfold SeqAt.shaped
  have h3 : (PyData.list (ns.map .int)).canLay0 = true := by simp [PyData.canLay0, h1]
  have h4 : (PyData.list (ns.map .int)).depth ≤ 2 := by simp only [PyData.depth]; omega
  rw [h3, Bool.true_and, decide_eq_true_eq]
  omega
theorem e_int1 (h : EvS R K te σ G (IntS p)) : EvS R K (tCB (fun xs H Q => (∃ i, xs = [.int i] ∧ Q (.int i) H) ∨ ∃ k, xs = [.bl k] ∧ Q (.int (if k then 1 else 0)) H) (tCons te tNil)) σ G (IntS p) := fun A hA Q q =>
  h A hA _ fun v d B rr ⟨i, e, hp⟩ pd => by
    subst e
    cases pd
    exact .inl ⟨i, rfl, q _ _ B rr ⟨i, rfl, hp⟩ (.int _)⟩
theorem e_intS {i : Int} (h : p i) : EvS R K (tC (.int i)) σ G (IntS p) := e_int.imp fun d e => ⟨i, e, h⟩
theorem e_varS {i : Nat} {v : V} {n : Int} (h : σ[i]? = some (some v)) (pd : Dp K G v (.int n)) (hp : p n) : EvS R K (tVar i) σ G (IntS p) := (e_var h pd).imp fun d e => ⟨n, e, hp⟩
theorem IntS.any {d : PyData} (h : IntS p d) : IntS (fun _ => True) d := let ⟨i, e, _⟩ := h; ⟨i, e, trivial⟩
end
section
variable {P : Program} {w : World} {K : PySem.W.Frag} {mg : Str → Option Value} {base : Heap} {C fI cc : Addr}
theorem sc_draw : FnScope ["_law_feed_here", "_law_many", "_law_digit", "_law_turn", "_law_cell", "_law_mixed"] ["_law_feed_here", "_law_many"] (defScope s__law_draw) := ⟨rfl, rfl, rfl, by decide +kernel, rfl, by decide +kernel, by decide +kernel⟩
def preDraw (ds : List PyData) : Prop := ∃ m : Int, ds = [.int m] ∧ 0 < m ∧ m < 1073741824
def sDraw (ds : List PyData) (d : PyData) : Prop := ∃ m i : Int, ds = [.int m] ∧ d = .int i ∧ 0 ≤ i ∧ i < m
abbrev spDraw (K : PySem.W.Frag) : Sp := spF K preDraw sDraw
theorem cl_draw (T : Tl P K mg C fI cc) : Cl P w K mg base 1 "_law_draw" (spDraw K) := by
  refine cl_f (ps := ["_law_feed_here", "_law_many"]) T.d_draw (fun _ _ _ _ _ _ us hl => match us, hl with | [_, _], _ => rfl) sc_draw (fun ds ⟨m, e, _⟩ => by rw [e]; rfl) fun g cdv A outer s H E hr => ⟨_,
    (pss_cons (ps_dput (un1 hr.units) (pv 0) pe_str (pe_op op_add (pe_dget (un1 hr.units) (pv 0) pe_str (fun _ _ => rfl)) pe_int) rfl) (pss_cons (ps_if (pt_cmpR op_gt (pe_dget (un1 hr.units) (pv 0) pe_str (fun _ _ => rfl)) pe_int (nomark _)) (pss_cons (ps_set (i := 2) sc_draw.nd rfl (Or.inl rfl) (pe_op op_mod (pe_callTy call_int1 rfl T.z.y.x.n_int boot_intT (pa_cons (pe_dget (un1 hr.units) (pv 0) pe_str (fun _ _ => rfl)) pa_nil)) (pv 1))) (pss_cons (ps_dput (un1 hr.units) (pv 0) pe_str (pe_op op_fdiv (pe_dget (un1 hr.units) (pv 0) pe_str (fun _ _ => rfl)) (pv 1)) rfl) (pss_one (ps_ret (pv 2))))) pss_nil) (pss_cons (ps_set (i := 3) sc_draw.nd rfl (Or.inl rfl) (pe_dget (un1 hr.units) (pv 0) pe_str (fun _ _ => rfl))) (pss_cons (ps_dput (un1 hr.units) (pv 0) pe_str (pe_op op_add (pv 3) pe_int) rfl) (pss_cons (ps_set (i := 4) sc_draw.nd rfl (Or.inl rfl) (pe_ifExp (pt_cmpR (op_neD hr.units) (pe_dget (un1 hr.units) (pv 0) pe_str (fun _ _ => rfl)) (pe_lst pa_nil) (nomark _)) (pe_ix ix_list (pe_dget (un1 hr.units) (pv 0) pe_str (fun _ _ => rfl)) (pe_op op_mod (pe_callTy call_int1 rfl T.z.y.x.n_int boot_intT (pa_cons (pv 3) pa_nil)) (pe_callB call_len rfl T.z.y.x.n_len PySem.boot_len (pa_cons (pe_dget (un1 hr.units) (pv 0) pe_str (fun _ _ => rfl)) pa_nil))) (fun _ _ => rfl)) pe_int)) (pss_cons (ps_if (PW.pt (pw_and (pt_cmpR op_ge (pv 4) (pe_op op_pow pe_int pe_int) (nomark _)) (pw_and1 (pt_cmpR op_lt (pv 3) (pe_callB call_len rfl T.z.y.x.n_len PySem.boot_len (pa_cons (pe_dget (un1 hr.units) (pv 0) pe_str (fun _ _ => rfl)) pa_nil)) (nomark _))))) (pss_cons (ps_dput (un1 hr.units) (pv 0) pe_str (pe_op op_fdiv (pv 4) (pv 1)) rfl) (pss_one (ps_ret (pe_op op_mod (pe_callTy call_int1 rfl T.z.y.x.n_int boot_intT (pa_cons (pv 4) pa_nil)) (pv 1))))) pss_nil) (pss_cons (ps_set (i := 5) sc_draw.nd rfl (Or.inl rfl) (pe_op op_mod (pe_callTy call_int1 rfl T.z.y.x.n_int boot_intT (pa_cons (pe_op op_add (pe_op op_add (pe_op op_mod (pe_callTy call_int1 rfl T.z.y.x.n_int boot_intT (pa_cons (pv 4) pa_nil)) pe_int) (pe_op op_mul pe_int (pe_dget (un1 hr.units) (pv 0) pe_str (fun _ _ => rfl)))) pe_int) pa_nil)) pe_int)) (pss_cons (ps_set (i := 5) sc_draw.nd rfl (Or.inl rfl) (pe_op op_mod (pe_callTy call_int1 rfl T.z.y.x.n_int boot_intT (pa_cons (pe_op op_add (pe_op op_add (pe_op op_mul (pv 5) (pv 5)) (pe_op op_mul pe_int (pe_dget (un1 hr.units) (pv 0) pe_str (fun _ _ => rfl)))) pe_int) pa_nil)) pe_int)) (pss_one (ps_ret (pe_op op_mod (pe_callTy call_int1 rfl T.z.y.x.n_int boot_intT (pa_cons (pe_op op_fdiv (pe_op op_mod (pe_callTy call_int1 rfl T.z.y.x.n_int boot_intT (pa_cons (pe_op op_add (pe_op op_mul (pv 5) (pv 5)) (pe_op op_mul pe_int (pv 5))) pa_nil)) pe_int) pe_int) pa_nil)) (pv 1)))))))))))), fun f L ns ws G ds F p hp => ?_⟩
  obtain ⟨m, rfl, m0, m1⟩ := hp
  match ws, p with
  | [vm], .cons pm .nil =>
    have hm : EvS (RF f L) K (tVar 1) (L2.start ["_law_feed_here", "_law_many", "_law_digit", "_law_turn", "_law_cell", "_law_mixed"] [.ref f, vm]) G (IntS (· = m)) := e_varS rfl pm rfl
    refine rt_go (go_fput rfl F (.inr (.inr rfl)) (e_opI (q := fun i => 0 ≤ i) (e_fget rfl F (.inr (.inr rfl))) (e_intS (by decide)) fun i j h1 h2 => Int.add_nonneg h1 h2)) ?_
    refine rt_if (Sb := fun _ => True) (t_testS (e_cmpI (p := fun i => 0 ≤ i) (q := fun _ => True) (e_fget rfl F (.inr (.inl rfl))) (e_intS trivial))) (fun _ => ?_) fun _ => ?_
    · refine rt_set (Sa := IntS fun i => 0 ≤ i ∧ i < m) (e_opIc (q := (· = m)) (e_int1 (e_fget rfl F (.inr (.inl rfl)))) hm (fun i j _ e => by rw [e]; exact m0) fun i j _ e => by rw [e]; exact ⟨Int.emod_nonneg _ (by omega), Int.emod_lt_of_pos _ m0⟩) fun v d G' hG ⟨i, e, hi⟩ pd => ?_
      subst e
      have pm' := dp_up (fun a o t e => Rl.stay hG t e) _ _ pm
      refine rt_go (go_fput rfl (F.to hG) (.inr (.inl rfl)) (e_opIc (p := fun i => 0 ≤ i) (q := (· = m)) (e_fget rfl (F.to hG) (.inr (.inl rfl))) (e_varS (i := 1) rfl pm' rfl) (fun i j _ e => by rw [e]; exact ⟨m0, m1⟩) fun i j h e => by rw [e]; exact Int.ediv_nonneg h (by omega))) ?_
      exact rt_ret ((e_var (i := 2) rfl pd).imp fun d e => ⟨m, i, rfl, e, hi.1, hi.2⟩)
    refine rt_set (Sa := NN) (e_fget rfl F (.inl rfl)) fun v3 d G1 hG1 ⟨tn, e, htn⟩ p3 => ?_
    subst e
    have F1 := F.to hG1
    refine rt_go (go_fput rfl F1 (.inl rfl) (e_opI (p := fun i => 0 ≤ i) (q := fun i => 0 ≤ i) (e_varS (i := 3) rfl p3 htn) (e_intS (by decide)) fun i j h1 h2 => Int.add_nonneg h1 h2)) ?_
    refine rt_set (Sa := IntS fun _ => True) (e_if (Sb := (· = !PyData.eqv (.list (ns.map .int)) (.list []))) (t_test (e_op1 (e_fcells rfl F1) (e_lst1 a_nil (by decide)) (rs_ne (sh_ints ns) (sh_ints [])))) (fun hb => ?_) fun _ => e_intS trivial) fun v4 d G2 hG2 ⟨c, e, _⟩ p4 => ?_
    · have hne : 0 < ns.length := by
        cases ns with
        | nil => exact absurd hb (by decide +kernel)
        | cons a l => exact Nat.succ_pos _
      refine e_op (Sb := IntS fun i => 0 ≤ i ∧ i < ns.length) (e_fcells rfl F1) (e_opIc (p := fun _ => True) (q := (· = (ns.length : Int))) (e_int1 (e_varS (i := 3) rfl p3 trivial)) ((e_len (e_fcells rfl F1) (.inr (.inl ⟨_, rfl, rfl⟩))).imp fun d e => ⟨_, e, by rw [List.length_map]⟩) (fun i j _ e => by rw [e]; omega) fun i j _ e => by rw [e]; exact ⟨Int.emod_nonneg _ (by omega), Int.emod_lt_of_pos _ (by omega)⟩) fun dx dy e1 ⟨i, e2, h1, h2⟩ => ?_
      subst e1 e2
      obtain ⟨k, rfl⟩ : ∃ k : Nat, i = k := ⟨i.toNat, by omega⟩
      have hk : k < ns.length := by omega
      intro A hA B x y r1 px py Q qq
      exact rs_ixL (d := .int ns[k]) (atI_nat (by simp [hk])) A hA B x y r1 px py Q fun v d D rr e pd => qq v d D rr ⟨_, e, trivial⟩ pd
    subst e
    have F2 := F1.to hG2
    have pm2 := dp_up (fun a o t e => Rl.stay (Rl.trans hG1 hG2) t e) _ _ pm
    have p32 := dp_up (fun a o t e => Rl.stay hG2 t e) _ _ p3
    refine rt_if (t_and (t_test (e_op1 (e_var (i := 4) rfl p4) (e_op1 e_int e_int (rs_I (e := .int (10 ^ 18)) (by unfold CPow; decide) fun X => .int _)) (rs_I0 (e := .bool (decide ((10 : Int) ^ 18 ≤ c))) fun X => .bl _))) fun _ => t_test (e_op1 (e_var (i := 3) rfl p32) (e_len (e_fcells rfl F2) (.inr (.inl ⟨_, rfl, rfl⟩))) (rs_I0 (e := .bool (decide (tn < ((ns.map PyData.int).length : Int)))) fun X => .bl _))) (fun hb => ?_) fun _ => ?_
    · have hc : (10 : Int) ^ 18 ≤ c := by
        have hb := Eq.symm hb
        rw [Bool.and_eq_true, decide_eq_true_eq] at hb
        exact hb.1
      have hc0 : (0 : Int) ≤ c := Int.le_trans (by decide) hc
      refine rt_go (go_fput rfl F2 (.inr (.inl rfl)) (e_opIc (p := fun i => 0 ≤ i) (q := (· = m)) (e_varS (i := 4) rfl p4 hc0) (e_varS (i := 1) rfl pm2 rfl) (fun i j _ e => by rw [e]; exact ⟨m0, m1⟩) fun i j h e => by rw [e]; exact Int.ediv_nonneg h (by omega))) ?_
      exact rt_ret ((e_opIc (p := fun _ => True) (q := (· = m)) (r := fun i => 0 ≤ i ∧ i < m) (e_int1 (e_varS (i := 4) rfl p4 trivial)) (e_varS (i := 1) rfl pm2 rfl) (fun i j _ e => by rw [e]; exact m0) fun i j _ e => by rw [e]; exact ⟨Int.emod_nonneg _ (by omega), Int.emod_lt_of_pos _ m0⟩).imp fun d ⟨i, e, h⟩ => ⟨m, i, rfl, e, h.1, h.2⟩)
    have hmod : ∀ (k : Int), 0 < k → ∀ i : Int, 0 ≤ i % k ∧ i % k < k := fun k hk i => ⟨Int.emod_nonneg _ (by omega), Int.emod_lt_of_pos _ hk⟩
    have hmul : ∀ i j : Int, 0 ≤ i ∧ i < 2147483648 → CMul i j := fun i j h => .inl ⟨by omega, by omega⟩
    refine rt_set (Sa := IntS fun i => 0 ≤ i ∧ i < 2147483648) (e_opIc (p := fun _ => True) (q := (· = 2147483587)) (e_int1 (e_opI (p := fun _ => True) (q := fun _ => True) (e_opI (p := fun _ => True) (q := fun _ => True) (e_opIc (p := fun _ => True) (q := (· = 2147483587)) (e_int1 (e_varS (i := 4) rfl p4 trivial)) (e_intS rfl) (fun i j _ e => by rw [e]; decide) fun _ _ _ _ => trivial) (e_opIc (p := (· = 6700417)) (q := fun i => 0 ≤ i) (e_intS rfl) (e_fget rfl F2 (.inr (.inr rfl))) (fun i j e _ => by rw [e]; exact hmul _ _ ⟨by decide, by decide⟩) fun _ _ _ _ => trivial) fun _ _ _ _ => trivial) (e_intS trivial) fun _ _ _ _ => trivial)) (e_intS rfl) (fun i j _ e => by rw [e]; decide) fun i j _ e => by rw [e]; have := hmod 2147483587 (by decide) i; exact ⟨this.1, by omega⟩) fun v5 d G3 hG3 ⟨x1, e, hx1⟩ p5 => ?_
    subst e
    have F3 := F2.to hG3
    have pm3 := dp_up (fun a o t e => Rl.stay hG3 t e) _ _ pm2
    refine rt_set (Sa := IntS fun i => 0 ≤ i ∧ i < 2147483648) (e_opIc (p := fun _ => True) (q := (· = 2147483563)) (e_int1 (e_opI (p := fun _ => True) (q := fun _ => True) (e_opI (p := fun _ => True) (q := fun _ => True) (e_opIc (p := fun i => 0 ≤ i ∧ i < 2147483648) (q := fun _ => True) (e_varS (i := 5) rfl p5 hx1) (e_varS (i := 5) rfl p5 trivial) (fun i j h _ => hmul i j h) fun _ _ _ _ => trivial) (e_opIc (p := (· = 19660813)) (q := fun i => 0 ≤ i) (e_intS rfl) (e_fget rfl F3 (.inr (.inr rfl))) (fun i j e _ => by rw [e]; exact hmul _ _ ⟨by decide, by decide⟩) fun _ _ _ _ => trivial) fun _ _ _ _ => trivial) (e_intS trivial) fun _ _ _ _ => trivial)) (e_intS rfl) (fun i j _ e => by rw [e]; decide) fun i j _ e => by rw [e]; have := hmod 2147483563 (by decide) i; exact ⟨this.1, by omega⟩) fun v6 d G4 hG4 ⟨x2, e, hx2⟩ p6 => ?_
    subst e
    have pm4 := dp_up (fun a o t e => Rl.stay hG4 t e) _ _ pm3
    exact rt_ret ((e_opIc (p := fun _ => True) (q := (· = m)) (r := fun i => 0 ≤ i ∧ i < m) (e_int1 (e_opIc (p := fun _ => True) (q := (· = 16)) (e_opIc (p := fun _ => True) (q := (· = 2147483549)) (e_int1 (e_opI (p := fun _ => True) (q := fun _ => True) (e_opIc (p := fun i => 0 ≤ i ∧ i < 2147483648) (q := fun _ => True) (e_varS (i := 5) rfl p6 hx2) (e_varS (i := 5) rfl p6 trivial) (fun i j h _ => hmul i j h) fun _ _ _ _ => trivial) (e_opIc (p := (· = 601)) (q := fun _ => True) (e_intS rfl) (e_varS (i := 5) rfl p6 trivial) (fun i j e _ => by rw [e]; exact hmul _ _ ⟨by decide, by decide⟩) fun _ _ _ _ => trivial) fun _ _ _ _ => trivial)) (e_intS rfl) (fun i j _ e => by rw [e]; decide) fun _ _ _ _ => trivial) (e_intS rfl) (fun i j _ e => by rw [e]; exact ⟨by decide, by decide⟩) fun _ _ _ _ => trivial)) (e_varS (i := 1) rfl pm4 rfl) (fun i j _ e => by rw [e]; exact m0) fun i j _ e => by rw [e]; exact ⟨Int.emod_nonneg _ (by omega), Int.emod_lt_of_pos _ m0⟩).imp fun d ⟨i, e, h⟩ => ⟨m, i, rfl, e, h.1, h.2⟩)
end
end K25
end
section
set_option maxRecDepth 100000
set_option maxHeartbeats 2000000
namespace K25
open PySem PySem.Spec PyProof.Rows L2
/-! ### bodies that fill lists: what is seen apart from the lists at Ds -/
def gr (G0 H0 : Hp) (Ds : List Addr) (X : Hp) : Hp := fun a => if a ∈ Ds then none else own G0 H0 X a
structure Wk (R : Hp → Hp → Prop) (G0 H0 : Hp) (Ds : List Addr) (A : Hp) : Prop where
  g : R G0 H0
  r : R H0 A
  d : ∀ D ∈ Ds, H0 D = none ∧ A D ≠ none
def Lst (K : PySem.W.Frag) (G0 H0 : Hp) (Ds : List Addr) (A : Hp) (D : Addr) (es : List PyData) : Prop := ∃ xs, A D = some (.lst xs) ∧ DpAll K (gr G0 H0 Ds A) xs es
section
variable {R : Hp → Hp → Prop} [Rl R] {K : PySem.W.Frag} {G0 H0 A B : Hp} {Ds : List Addr} {a D p : Addr} {o : HO} {es : List PyData}
theorem gr_some (h : gr G0 H0 Ds A a = some o) : a ∉ Ds ∧ own G0 H0 A a = some o := by
  unfold gr at h
  by_cases e : a ∈ Ds
  · rw [if_pos e] at h
    cases h
  · rw [if_neg e] at h
    exact ⟨e, h⟩
theorem gr_mk (h : own G0 H0 A a = some o) (e : a ∉ Ds) : gr G0 H0 Ds A a = some o := by
  unfold gr
  rw [if_neg e]
  exact h
theorem gr_same : Same (gr G0 H0 Ds A) A := fun _ _ h => (own_some (gr_some h).2).1
theorem gr_next (r : R A B) : ∀ a o, Stay o → gr G0 H0 Ds A a = some o → gr G0 H0 Ds B a = some o := fun a o t h =>
  gr_mk (up_next (R := R) r a o t (gr_some h).2) (gr_some h).1
theorem gr_in (W : Wk R G0 H0 Ds A) (h : own (gr G0 H0 Ds A) A B a = some o) : gr G0 H0 Ds B a = some o := by
  obtain ⟨h1, h2⟩ := own_some h
  refine gr_mk (own_mk h1 fun g => ?_) fun e => ?_
  · cases q : gr G0 H0 Ds A a with
    | none => exact Rl.dom W.r (h2 q)
    | some u => exact (own_some (gr_some q).2).2 g
  · refine absurd (h2 ?_) (W.d a e).2
    unfold gr
    rw [if_pos e]
theorem gr_r (W : Wk R G0 H0 Ds A) (r : R A B) : R (gr G0 H0 Ds A) (gr G0 H0 Ds B) := Rl.trans (Rl.own (Rl.ext gr_same) r) (Rl.ext fun _ _ h => gr_in W h)
theorem gr_upd (m : D ∈ Ds) : gr G0 H0 Ds (upd A D o) = gr G0 H0 Ds A := by
  funext a
  unfold gr
  by_cases e : a ∈ Ds
  · rw [if_pos e, if_pos e]
  · have n : a ≠ D := fun z => e (z ▸ m)
    rw [if_neg e, if_neg e]
    unfold own
    rw [upd_ne n]
theorem gr_new (n : A p = none) : gr G0 H0 (p :: Ds) (upd A p o) = gr G0 H0 Ds A := by
  funext a
  unfold gr
  by_cases z : a = p
  · subst z
    rw [if_pos (List.mem_cons_self ..)]
    unfold own
    rw [n]
    split <;> first | rfl | (split <;> rfl)
  · by_cases e : a ∈ Ds
    · rw [if_pos e, if_pos (List.mem_cons_of_mem _ e)]
    · rw [if_neg e, if_neg (fun m => (List.mem_cons.1 m).elim z e)]
      unfold own
      rw [upd_ne z]
theorem gr_own : ∀ a o, Stay o → gr G0 H0 Ds A a = some o → own G0 H0 A a = some o := fun _ _ _ h => (gr_some h).2
theorem Wk.next (W : Wk R G0 H0 Ds A) (r : R A B) : Wk R G0 H0 Ds B := ⟨W.g, Rl.trans W.r r, fun D m => ⟨(W.d D m).1, fun z => (W.d D m).2 (Rl.dom r z)⟩⟩
theorem Wk.upd (W : Wk R G0 H0 Ds A) (m : D ∈ Ds) : Wk R G0 H0 Ds (L2.upd A D o) := ⟨W.g, Rl.new W.r (W.d D m).1, fun D' m' => ⟨(W.d D' m').1, by
  by_cases e : D' = D
  · rw [e, upd_same]
    simp
  · rw [upd_ne e]
    exact (W.d D' m').2⟩⟩
theorem Wk.new (W : Wk R G0 H0 Ds A) (n : A p = none) : Wk R G0 H0 (p :: Ds) (L2.upd A p o) := ⟨W.g, Rl.new W.r (Rl.dom W.r n), fun D' m' => by
  rcases List.mem_cons.1 m' with rfl | m'
  · exact ⟨Rl.dom W.r n, by rw [upd_same]; simp⟩
  · exact ⟨(W.d D' m').1, by
      by_cases e : D' = p
      · rw [e, upd_same]
        simp
      · rw [upd_ne e]
        exact (W.d D' m').2⟩⟩
theorem Wk.start (g : R G0 A) : Wk R G0 A [] A := ⟨g, Rl.refl A, fun D m => by cases m⟩
theorem gr_start : ∀ a o, Stay o → (R G0 A) → G0 a = some o → gr G0 A [] A a = some o := fun a o t r h => gr_mk (up_base (R := R) r (Rl.refl A) a o t h) (by simp)
theorem Lst.next (h : Lst K G0 H0 Ds A D es) (r : R A B) : Lst K G0 H0 Ds B D es := by
  obtain ⟨xs, e, p⟩ := h
  exact ⟨xs, Rl.stay r trivial e, dpa_up (gr_next r) _ _ p⟩
theorem Lst.other {D' : Addr} (h : Lst K G0 H0 Ds A D es) (m : D' ∈ Ds) (n : D ≠ D') : Lst K G0 H0 Ds (upd A D' o) D es := by
  obtain ⟨xs, e, p⟩ := h
  exact ⟨xs, by rw [upd_ne n]; exact e, by rw [gr_upd m]; exact p⟩
theorem Lst.mk (h : DpAll K (gr G0 H0 Ds A) xs es) (m : D ∈ Ds) : Lst K G0 H0 Ds (upd A D (.lst xs)) D es := ⟨xs, upd_same, by rw [gr_upd m]; exact h⟩
theorem Lst.born (h : DpAll K (gr G0 H0 Ds A) xs es) (n : A p = none) : Lst K G0 H0 (p :: Ds) (upd A p (.lst xs)) p es := ⟨xs, upd_same, by rw [gr_new n]; exact h⟩
theorem Lst.born2 (h : Lst K G0 H0 Ds A D es) (n : A p = none) : Lst K G0 H0 (p :: Ds) (upd A p o) D es := by
  obtain ⟨xs, e, q⟩ := h
  refine ⟨xs, ?_, by rw [gr_new n]; exact q⟩
  rw [upd_ne (ne_of_none e n)]
  exact e
/-- the lists are let go: seen by all -/
theorem Wk.free (W : Wk R G0 H0 Ds A) : Wk R G0 H0 [] A := ⟨W.g, W.r, fun D m => by cases m⟩
theorem gr_free : ∀ a o, Stay o → gr G0 H0 Ds A a = some o → gr G0 H0 [] A a = some o := fun _ _ _ h => gr_mk (gr_some h).2 (by simp)
theorem Lst.free (h : Lst K G0 H0 Ds A D es) (W : Wk R G0 H0 Ds A) (m : D ∈ Ds) : Dp K (gr G0 H0 [] A) (.ref D) (.list es) := by
  obtain ⟨xs, e, p⟩ := h
  exact .lst (.inl (.inl (gr_mk (own_mk e fun _ => (W.d D m).1) (by simp)))) (dpa_up gr_free _ _ p)
end
section
variable {R : Hp → Hp → Prop} [Rl R] {K : PySem.W.Frag} {σ : L2.St} {G0 H0 A B : Hp} {Ds : List Addr} {D : Addr} {te : TE} {ta : TA} {tt : TT} {ts : TS} {es : List PyData} {S : PyData → Prop} {Sl : List PyData → Prop} {Z : ZP}
theorem w_ev (W : Wk R G0 H0 Ds A) (h : EvS R K te σ (gr G0 H0 Ds A) S) {Q : VK} (k : ∀ v d B, Wk R G0 H0 Ds B → R A B → S d → Dp K (gr G0 H0 Ds B) v d → Q v B) : te σ A Q :=
  h A (Rl.ext gr_same) Q fun v d B r s p => k v d B (W.next r) r s (dp_up (fun a o _ e => gr_in W e) _ _ p)
theorem w_evA (W : Wk R G0 H0 Ds A) (h : EvA R K ta σ (gr G0 H0 Ds A) Sl) {Q : List V → Hp → Prop} (k : ∀ vs ds B, Wk R G0 H0 Ds B → R A B → Sl ds → DpAll K (gr G0 H0 Ds B) vs ds → Q vs B) : ta σ A Q :=
  h A (Rl.ext gr_same) Q fun v d B r s p => k v d B (W.next r) r s (dpa_up (fun a o _ e => gr_in W e) _ _ p)
theorem w_evT {Sb : Bool → Prop} (W : Wk R G0 H0 Ds A) (h : EvT R tt σ (gr G0 H0 Ds A) Sb) {Q : Bool → Hp → Prop} (k : ∀ b B, Wk R G0 H0 Ds B → R A B → Sb b → Q b B) : tt σ A Q :=
  h A (Rl.ext gr_same) Q fun b B r s => k b B (W.next r) r s
theorem w_evZ (W : Wk R G0 H0 Ds A) (h : EvZ R te σ (gr G0 H0 Ds A) Z) (hm : ∀ X Y v, (∀ a o, X a = some o → Y a = some o) → Z X v → Z Y v) {Q : VK} (k : ∀ v B, Wk R G0 H0 Ds B → R A B → Z (gr G0 H0 Ds B) v → Q v B) : te σ A Q :=
  h A (Rl.ext gr_same) Q fun v B r z => k v B (W.next r) r (hm _ _ v (fun a o e => gr_in W e) z)
/-- x.append(e) -/
theorem w_app {i : Nat} {Dd : Ends} (W : Wk R G0 H0 Ds A) (hs : σ[i]? = some (some (.ref D))) (m : D ∈ Ds) (l : Lst K G0 H0 Ds A D es) (hz : es.length < 100000) (h : EvS R K te σ (gr G0 H0 Ds A) S)
    (k : ∀ B e, Wk R G0 H0 Ds B → R (gr G0 H0 Ds A) (gr G0 H0 Ds B) → S e → Lst K G0 H0 Ds B D (es ++ [e]) → (∀ D' es', D' ≠ D → Lst K G0 H0 Ds A D' es' → Lst K G0 H0 Ds B D' es') → Dd.nx σ B) :
    tDrop (tBM K "list" rAppend (tVar i) (tCons te tNil)) Dd σ A := by
  refine ⟨.ref D, hs, ?_⟩
  obtain ⟨xs, e, p⟩ := id l
  refine ⟨.inl ⟨rfl, xs, SqL.of e⟩, w_ev W h fun y d B WB r s py => ?_⟩
  have e2 : B D = some (.lst xs) := Rl.stay r trivial e
  refine ⟨D, xs, y, rfl, rfl, e2, Nat.lt_of_lt_of_le (by rw [dpa_len p]; exact hz) (by decide), ?_⟩
  refine k _ d (WB.upd m) (by rw [gr_upd m]; exact gr_r W r) s (Lst.mk (dpa_app (dpa_up (gr_next r) _ _ p) (.cons py .nil)) m) fun D' es' n l' => Lst.other (l'.next r) m n
/-- x += [e, ..] -/
theorem w_aug {i : Nat} {Dd : Ends} {fs : List PyData} (W : Wk R G0 H0 Ds A) (hs : σ[i]? = some (some (.ref D))) (m : D ∈ Ds) (l : Lst K G0 H0 Ds A D es) (hz : es.length + fs.length ≤ 100000) (h : EvA R K ta σ (gr G0 H0 Ds A) (· = fs))
    (k : ∀ B, Wk R G0 H0 Ds B → R (gr G0 H0 Ds A) (gr G0 H0 Ds B) → Lst K G0 H0 Ds B D (es ++ fs) → (∀ D' es', D' ≠ D → Lst K G0 H0 Ds A D' es' → Lst K G0 H0 Ds B D' es') → Dd.nx (σ.set i (some (.ref D))) B) :
    tAug i (tLst ta) rExt2 Dd σ A := by
  refine ⟨.ref D, hs, w_evA W h fun ys ds B WB r s py => ?_⟩
  subst s
  obtain ⟨xs, e, p⟩ := id l
  have hl := dpa_len py
  refine ⟨by rw [hl]; exact Nat.le_trans (by omega) (by decide : 100000 ≤ sizeLine), fun q nq => ?_⟩
  have e2 : B D = some (.lst xs) := Rl.stay r trivial e
  have nD : D ≠ q := ne_of_none e2 nq
  have r2 : R A (upd B q (.lst ys)) := Rl.trans r (Rl.new (Rl.refl B) nq)
  have r3 : R B (upd B q (.lst ys)) := Rl.new (Rl.refl B) nq
  refine ⟨D, q, xs, ys, rfl, rfl, by rw [upd_ne nD]; exact e2, upd_same, by rw [dpa_len p, hl]; exact Nat.le_trans hz (by decide), ?_⟩
  have W2 := WB.next r3
  refine k _ (W2.upd m) (by rw [gr_upd m]; exact gr_r W r2) (Lst.mk (dpa_app (dpa_up (gr_next r2) _ _ p) (dpa_up (gr_next r3) _ _ py)) m) fun D' es' n l' => Lst.other (l'.next r2) m n
end
end K25
end
section
set_option maxRecDepth 100000
set_option maxHeartbeats 2000000
namespace K25X
open PySem
/-- two lists, one behind the other: whatever else their objects bear -/
theorem meets_cat (a b : Addr) (xs ys : Array Value) (n m : Nat) (d1 d2 : Option Addr) (s1 s2 : Array (Option Value)) (hz : xs.size + ys.size ≤ sizeLine) :
    Meets (Builtin.«list.__add__» ⟨[.ref a, .ref b], []⟩) (fun _ Rr z => z.heap.get? a = some ⟨.type "list", d1, .seq xs n, s1⟩ ∧ z.heap.get? b = some ⟨.type "list", d2, .seq ys m, s2⟩ ∧
      Rr (.ok (.ret (Value.ref z.heap.objs.size))) { z with heap := z.heap.push { cls := .type "list", data := .seq (xs ++ ys) } }) :=
  .of_wp fun P w A Rr z hh => by
    obtain ⟨hp, gg, dd, nt, os⟩ := z
    obtain ⟨h1, h2, hh⟩ := hh
    have q3 := AutoSeq1.sub_list_list
    wp_walk using AutoSeq1.wpAny_loadPart' h1, AutoSeq1.wpAny_loadPart' h2
    exact ⟨_, rfl, hh⟩
end K25X
namespace K25
open PySem PySem.Spec PyProof.Rows L2
/-- list + list -/
theorem op_catL {X : Cx} : OpR X (binaryOp .Add) (fun x y H Q => ∃ a b xs ys, x = .ref a ∧ y = .ref b ∧ SqL X.K H a xs ∧ SqL X.K H b ys ∧ xs.length + ys.length ≤ sizeLine ∧ ∀ p, H p = none → Q (.ref p) (upd H p (.lst (xs ++ ys)))) := by
  intro pins s σ H x y v u Q I rx ry h
  obtain ⟨a, b, xs, ys, rfl, rfl, ha, hb, hz, q⟩ := h
  cases rx
  cases ry
  obtain ⟨i1, r1, ⟨o1, n1, g1, c1, d1, e1⟩, _⟩ := I.list ha
  obtain ⟨i2, r2, ⟨o2, n2, g2, c2, d2, e2⟩, _⟩ := I.list hb
  obtain ⟨oc1, od1, oe1, os1⟩ := o1
  obtain ⟨oc2, od2, oe2, os2⟩ := o2
  have c1 : oc1 = .type "list" := c1
  have c2 : oc2 = .type "list" := c2
  have e1 : oe1 = .seq i1.toArray n1 := e1
  have e2 : oe2 = .seq i2.toArray n2 := e2
  subst c1 c2 e1 e2
  have hsz : i1.toArray.size + i2.toArray.size ≤ sizeLine := by
    rw [List.size_toArray, List.size_toArray, ← r1.length, ← r2.length]
    exact hz
  refine concat_meets ⟨_, g1, rfl⟩ ⟨_, g2, rfl⟩ noFill_list_add seq_list_add F.slot_list_add F.entry_list_add (F.args_list_add_2 _ _) (K25X.meets_cat a b i1.toArray i2.toArray n1 n2 od1 od2 os1 os2 hsz) ⟨g1, g2, ?_⟩
  have ea : i1.toArray ++ i2.toArray = (i1 ++ i2).toArray := by simp
  rw [ea]
  exact ⟨.ref _, _, I.lnew (t' := s.toks) (r1.append r2) (by rw [List.length_append]; omega), rfl, q _ I.fresh⟩
section
variable {R : Hp → Hp → Prop} [Rl R] {K : PySem.W.Frag} {σ : L2.St} {G0 H0 A B : Hp} {Ds : List Addr} {te : TE} {ta : TA} {ts : TS} {es : List PyData}
/-- x = [..], a list that is filled later -/
theorem w_lst (W : Wk R G0 H0 Ds A) (h : EvA R K ta σ (gr G0 H0 Ds A) (· = es)) (hz : es.length ≤ 100000) {Q : VK}
    (k : ∀ p B, p ∉ Ds → Wk R G0 H0 (p :: Ds) B → R (gr G0 H0 Ds A) (gr G0 H0 (p :: Ds) B) → Lst K G0 H0 (p :: Ds) B p es → (∀ D' es', Lst K G0 H0 Ds A D' es' → Lst K G0 H0 (p :: Ds) B D' es') → Q (.ref p) B) : tLst ta σ A Q :=
  w_evA W h fun vs ds B WB r s pd => by
    subst s
    refine ⟨by rw [dpa_len pd]; exact Nat.le_trans hz (by decide), fun p np => ?_⟩
    exact k p _ (fun m => (WB.d p m).2 np) (WB.new np) (by rw [gr_new np]; exact gr_r W r) (Lst.born pd np) fun D' es' l => (l.next r).born2 np
/-- walks over things that stay, told by the ground -/
def ItG (R : Hp → Hp → Prop) (K : PySem.W.Frag) (wi : TI) (σ : L2.St) (G : Hp) (Sn : Nat → Prop) (Sd : Nat → Nat → PyData → Prop) : Prop := ∀ A, R G A → ∀ Rk : It → Hp → Prop,
  (∀ (J : It) (n : Nat) (B : Hp) (Gd : Hp → Prop) (Y : Nat → Hp → V → Hp → Prop), R A B → Sn n → Walk J n Gd Y → (∀ X, R (own G A B) X → Gd X) →
    (∀ i X x X', i < n → R (own G A B) X → Y i X x X' → X' = X ∧ ∃ d, Sd n i d ∧ Dp K (own G A B) x d) → Rk J B) → wi σ A Rk
variable {G : Hp}
theorem ig_range {Sn : Nat → Prop} (h : EvS R K te σ G (fun d => ∃ n : Nat, d = .int n ∧ Sn n)) (hz : ∀ n, Sn n → n ≤ 100000) : ItG R K (iRng1 (tCons te tNil)) σ G Sn (fun _ i d => d = .int i) := fun A hA Rk k =>
  h A hA _ fun v d B r s p => by
    obtain ⟨n, e, sn⟩ := s
    subst e
    cases p
    have hn := hz n sn
    refine ⟨(n : Int), rfl, by omega, by omega, k (Itr 0 ((n : Int).toNat)) n B _ _ r sn (by rw [Int.toNat_natCast]; exact walk_range) (fun _ _ => trivial) fun i X x X' hi rx y => ?_⟩
    obtain ⟨e, e2⟩ := y
    subst e e2
    exact ⟨rfl, .int i, rfl, by show Dp K _ (V.int (0 + (i : Int))) _; rw [Int.zero_add]; exact .int _⟩
theorem ig_tup {Sl : List PyData → Prop} {Sd : Nat → Nat → PyData → Prop} (h : EvS R K te σ G (fun d => ∃ ds, d = .tuple ds ∧ Sl ds)) (hd : ∀ ds i d, Sl ds → ds[i]? = some d → Sd ds.length i d) : ItG R K (iTup K te) σ G (fun n => ∃ ds, Sl ds ∧ n = ds.length) Sd := fun A hA Rk k =>
  h A hA _ fun v d B r s p => by
    obtain ⟨ds, e, sl⟩ := s
    subst e
    cases p with
    | @tup a xs _ hs ha =>
      refine ⟨a, rfl, ⟨xs, sqt_up up_sub hs⟩, k (Itt K a) ds.length B _ _ r ⟨ds, sl, rfl⟩ (by rw [← dpa_len ha]; exact walk_tup (K := K) (a := a) (xs := xs)) (fun X rx => sqt_up (fun b o t e => Rl.stay rx t e) hs) fun i X x X' hi rx y => ?_⟩
      obtain ⟨e, ex⟩ := y
      obtain ⟨d, e1, e2⟩ := dpa_getV ha ex
      exact ⟨e, d, hd ds i d sl e1, e2⟩
theorem ig_list {Sl : List PyData → Prop} {Sd : Nat → Nat → PyData → Prop} (h : EvS R K te σ G (fun d => ∃ ds, d = .list ds ∧ Sl ds)) (hd : ∀ ds i d, Sl ds → ds[i]? = some d → Sd ds.length i d) : ItG R K (iList K te) σ G (fun n => ∃ ds, Sl ds ∧ n = ds.length) Sd := fun A hA Rk k =>
  h A hA _ fun v d B r s p => by
    obtain ⟨ds, e, sl⟩ := s
    subst e
    cases p with
    | @lst a xs _ hs ha =>
      refine ⟨a, rfl, ⟨xs, sql_up up_sub hs⟩, k (Itl K a) ds.length B _ _ r ⟨ds, sl, rfl⟩ (by rw [← dpa_len ha]; exact walk_list (K := K) (a := a) (xs := xs)) (fun X rx => sql_up (fun b o t e => Rl.stay rx t e) hs) fun i X x X' hi rx y => ?_⟩
      obtain ⟨e, ex⟩ := y
      obtain ⟨d, e1, e2⟩ := dpa_getV ha ex
      exact ⟨e, d, hd ds i d sl e1, e2⟩
/-- a loop over such a walk -/
theorem w_for {j : Nat} {Dd : Ends} {wi : TI} {Sn : Nat → Prop} {Sd : Nat → Nat → PyData → Prop} (W : Wk R G0 H0 Ds A) (hi : ItG R K wi σ (gr G0 H0 Ds A) Sn Sd) (Iv : Nat → Nat → L2.St → Hp → Prop)
    (h0 : ∀ n B, Sn n → Wk R G0 H0 Ds B → R A B → Iv n 0 σ B)
    (hs : ∀ n i d x σ' X, Sn n → i < n → Wk R G0 H0 Ds X → R (gr G0 H0 Ds A) (gr G0 H0 Ds X) → Iv n i σ' X → Sd n i d → Dp K (gr G0 H0 Ds X) x d → ∀ N : L2.St → Hp → Prop,
      (∀ σ2 X2, Wk R G0 H0 Ds X2 → R (gr G0 H0 Ds X) (gr G0 H0 Ds X2) → Iv n (i + 1) σ2 X2 → N σ2 X2) → ts { Dd with nx := N, ct := N, bk := Dd.nx } (σ'.set j (some x)) X)
    (hd : ∀ n σ' X, Sn n → Wk R G0 H0 Ds X → R (gr G0 H0 Ds A) (gr G0 H0 Ds X) → Iv n n σ' X → Dd.nx σ' X) : tFor wi (gName j) ts Dd σ A :=
  hi A (Rl.ext gr_same) _ fun J n B Gd Y r sn wk hG hy => by
    have WB := W.next r
    have gB : R (gr G0 H0 Ds A) (gr G0 H0 Ds B) := gr_r W r
    have oB : ∀ X, R (gr G0 H0 Ds B) (gr G0 H0 Ds X) → R (own (gr G0 H0 Ds A) A B) X := fun X h => Rl.trans (Rl.ext fun a o e => gr_in W e) (Rl.trans h (Rl.ext gr_same))
    refine ⟨fun i k σ' X => i + k = n ∧ Wk R G0 H0 Ds X ∧ R (gr G0 H0 Ds B) (gr G0 H0 Ds X) ∧ Iv n i σ' X, ⟨n, by omega, WB, Rl.refl _, h0 n B sn WB r⟩, fun i k σ' X ⟨hik, WX, rX, iv⟩ => ?_⟩
    cases k with
    | zero =>
      obtain rfl : i = n := by omega
      exact .inl ⟨wk.stops X (hG X (oB X rX)), hd i σ' X sn WX (Rl.trans gB rX) iv⟩
    | succ k =>
      refine .inr ⟨wk.goes i X (by omega) (hG X (oB X rX)), fun σ2 X2 => (∃ m', m' < k + 1 ∧ i + 1 + m' = n ∧ Wk R G0 H0 Ds X2 ∧ R (gr G0 H0 Ds B) (gr G0 H0 Ds X2) ∧ Iv n (i + 1) σ2 X2), fun σ2 X2 ⟨m', h1, h2⟩ => ⟨m', h1, h2⟩, fun x X' y => ?_⟩
      obtain ⟨e, d, sd, pd⟩ := hy i X x X' (by omega) (oB X rX) (wk.yields i X x X' (by omega) (hG X (oB X rX)) y)
      subst e
      refine hs n i d x σ' X' sn (by omega) WX (Rl.trans gB rX) iv sd (dp_up (fun a o t z => Rl.stay rX t (gr_in W z)) _ _ pd) _ fun σ2 X2 W2 r2 iv2 => ⟨k, Nat.lt_succ_self k, by omega, W2, Rl.trans rX r2, iv2⟩
end
def tStrs : List Str → TA
  | [] => tNil
  | z :: l => tCons (tC (.str z)) (tStrs l)
theorem aS_strs' {R : Hp → Hp → Prop} [Rl R] {K : PySem.W.Frag} {σ : L2.St} (G : Hp) : ∀ l : List Str, EvA R K (tStrs l) σ G (· = l.map .str)
  | [] => a_nil
  | z :: l => a_one e_str (aS_strs' G l)
/-! ### _law_any -/
section
variable {P : Program} {w : World} {K : PySem.W.Frag} {mg : Str → Option Value} {base : Heap} {C fI cc : Addr}
theorem sc_any : FnScope ["_law_feed_here", "_law_some"] ["_law_feed_here", "_law_some"] (defScope s__law_any) := ⟨rfl, rfl, rfl, by decide +kernel, rfl, by decide +kernel, by decide +kernel⟩
def preAny (ds : List PyData) : Prop := ∃ es, ds = [.list es] ∧ 0 < es.length ∧ es.length ≤ 100000
def sAny (ds : List PyData) (d : PyData) : Prop := ∃ es, ds = [.list es] ∧ d ∈ es
theorem cl_any (T : Tl P K mg C fI cc) : Cl P w K mg base 2 "_law_any" (spF K preAny sAny) := by
  refine cl_f (ps := ["_law_feed_here", "_law_some"]) T.d_any (fun _ _ _ _ _ _ us hl => match us, hl with | [_, _], _ => rfl) sc_any (fun ds ⟨m, e, _⟩ => by rw [e]; rfl) fun g cdv A outer s H E hr => ⟨_,
    (pss_one (ps_ret (pe_ix ix_list (pv 1) (pe_k (cl_draw T) hr (by decide) rfl (pa_cons (pv 0) (pa_cons (pe_callB call_len rfl T.z.y.x.n_len PySem.boot_len (pa_cons (pv 1) pa_nil)) pa_nil))) (fun _ _ => rfl)))), fun f L ns ws G ds F p hp => ?_⟩
  obtain ⟨es, rfl, h0, h1⟩ := hp
  match ws, p with
  | [v1], .cons p1 .nil =>
    refine rt_ret (e_op (e_var (i := 1) rfl p1) (e_callF (S := sDraw) (Sl := fun ds => ds = [.int es.length]) rfl F (a_one (e_len (e_var (i := 1) rfl p1) (.inr (.inl ⟨es, rfl, rfl⟩))) a_nil) fun ds e => ⟨es.length, e, by omega, by omega⟩) fun dx dy e1 ⟨ds, e2, m, i, e3, e4, h2, h3⟩ => ?_)
    subst e1 e2 e4
    have hm : m = es.length := by
      have := List.cons.inj e3
      exact (PyData.int.inj this.1).symm
    subst hm
    obtain ⟨k, rfl⟩ : ∃ k : Nat, i = k := ⟨i.toNat, by omega⟩
    have hk : k < es.length := by omega
    intro A hA B x y r1 px py Q qq
    exact rs_ixL (d := es[k]) (atI_nat (by simp [hk])) A hA B x y r1 px py Q fun v d D rr e pd => qq v d D rr ⟨es, rfl, by rw [e]; exact List.getElem_mem hk⟩ pd
theorem sc_menu : FnScope ["_law_codes"] [] (defScope s__law_menu) := ⟨rfl, rfl, rfl, by decide +kernel, rfl, by decide +kernel, by decide +kernel⟩
def menu1 : List Str := ["i", "l", "f0", "f1", "f-", "e", "e", "d00", "d01", "d10", "d11", "u00", "u01", "u10"]
def menu2 : List Str := ["u11", "s", "g0", "g1", "g-", "e"]
def menuL : List Str := menu1 ++ menu2
def strsD (l : List Str) : PyData := .list (l.map .str)
theorem cl_menu (T : Tl P K mg C fI cc) : Cl P w K mg base 1 "_law_menu" (spD K (fun ds => ds = []) fun _ => strsD menuL) := by
  refine cl_d (ps := []) T.d_menu (fun _ _ _ _ _ _ us hl => match us, hl with | [], _ => rfl) sc_menu (fun ds e => by rw [e]; rfl) fun f cdv A outer s H E hr => ⟨_,
    (pss_cons (ps_set (i := 0) sc_menu.nd rfl (Or.inl rfl) (pe_lst (pa_cons pe_str (pa_cons pe_str (pa_cons pe_str (pa_cons pe_str (pa_cons pe_str (pa_cons pe_str (pa_cons pe_str (pa_cons pe_str (pa_cons pe_str (pa_cons pe_str (pa_cons pe_str (pa_cons pe_str (pa_cons pe_str (pa_cons pe_str pa_nil)))))))))))))))) (pss_one (ps_ret (pe_op op_catL (pv 0) (pe_lst (pa_cons pe_str (pa_cons pe_str (pa_cons pe_str (pa_cons pe_str (pa_cons pe_str (pa_cons pe_str pa_nil))))))))))), fun vs G ds p hp => ?_⟩
  subst hp
  cases p
  refine rt_set (Sa := (· = strsD menu1)) (e_lst1 (ds := menu1.map .str) (by exact aS_strs' G menu1) (by decide)) fun v d G' hG e pd => ?_
  subst e
  refine rt_ret (EvS.to (e_op1 (R := Same) (dx := .list (menu1.map .str)) (dy := .list (menu2.map .str)) (e_var (i := 0) rfl pd) (e_lst1 (ds := menu2.map .str) (by exact aS_strs' G' menu2) (by decide)) (rs_catL (es := menu1.map .str) (fs := menu2.map .str) (by decide))) ?_)
  rw [← List.map_append]
  rfl
end
end K25
end
section
set_option maxRecDepth 100000
set_option maxHeartbeats 4000000
namespace K25
open PySem PySem.Spec PyProof.Rows L2
section
variable {R : Hp → Hp → Prop} [Rl R] {K : PySem.W.Frag} {σ : L2.St} {G0 H0 A B : Hp} {Ds : List Addr} {D : Addr} {te : TE} {ta : TA} {ts tw : TS} {es fs : List PyData} {i j : Nat} {Dd : Ends} {S : PyData → Prop}
theorem ws_lst (W : Wk R G0 H0 Ds A) (h : EvA R K ta σ (gr G0 H0 Ds A) (· = es)) (hz : es.length ≤ 100000)
    (k : ∀ p B, p ∉ Ds → Wk R G0 H0 (p :: Ds) B → R (gr G0 H0 Ds A) (gr G0 H0 (p :: Ds) B) → Lst K G0 H0 (p :: Ds) B p es → (∀ D' es', Lst K G0 H0 Ds A D' es' → Lst K G0 H0 (p :: Ds) B D' es') → tw Dd (σ.set i (some (.ref p))) B) :
    tSeq (tAsg (tLst ta) (gName i)) tw Dd σ A := w_lst (K := K) (Q := fun v B => tw Dd (σ.set i (some v)) B) W h hz k
theorem ws_set (W : Wk R G0 H0 Ds A) (h : EvS R K te σ (gr G0 H0 Ds A) S) (k : ∀ v d B, Wk R G0 H0 Ds B → R A B → S d → Dp K (gr G0 H0 Ds B) v d → tw Dd (σ.set i (some v)) B) : tSeq (tAsg te (gName i)) tw Dd σ A := w_ev W h k
theorem ws_ret (W : Wk R G0 H0 Ds A) (h : EvS R K te σ (gr G0 H0 Ds A) S) (k : ∀ v d B, R H0 B → S d → Dp K (own G0 H0 B) v d → Dd.rt v B) : tRet te Dd σ A := w_ev W h fun v d B WB r s p => k v d B WB.r s (dp_up gr_own _ _ p)
theorem ws_aug (W : Wk R G0 H0 Ds A) (hs : σ[i]? = some (some (.ref D))) (m : D ∈ Ds) (l : Lst K G0 H0 Ds A D es) (hz : es.length + fs.length ≤ 100000) (h : EvA R K ta σ (gr G0 H0 Ds A) (· = fs))
    (k : ∀ B, Wk R G0 H0 Ds B → R (gr G0 H0 Ds A) (gr G0 H0 Ds B) → Lst K G0 H0 Ds B D (es ++ fs) → (∀ D' es', D' ≠ D → Lst K G0 H0 Ds A D' es' → Lst K G0 H0 Ds B D' es') → tw Dd (σ.set i (some (.ref D))) B) :
    tSeq (tAug i (tLst ta) rExt2) tw Dd σ A := w_aug (Dd := { Dd with nx := tw Dd }) W hs m l hz h k
theorem ws_app (W : Wk R G0 H0 Ds A) (hs : σ[i]? = some (some (.ref D))) (m : D ∈ Ds) (l : Lst K G0 H0 Ds A D es) (hz : es.length < 100000) (h : EvS R K te σ (gr G0 H0 Ds A) S)
    (k : ∀ B e, Wk R G0 H0 Ds B → R (gr G0 H0 Ds A) (gr G0 H0 Ds B) → S e → Lst K G0 H0 Ds B D (es ++ [e]) → (∀ D' es', D' ≠ D → Lst K G0 H0 Ds A D' es' → Lst K G0 H0 Ds B D' es') → tw Dd σ B) :
    tSeq (tDrop (tBM K "list" rAppend (tVar i) (tCons te tNil))) tw Dd σ A := w_app (Dd := { Dd with nx := tw Dd }) W hs m l hz h k
theorem ws_for {wi : TI} {Sn : Nat → Prop} {Sd : Nat → Nat → PyData → Prop} (W : Wk R G0 H0 Ds A) (hi : ItG R K wi σ (gr G0 H0 Ds A) Sn Sd) (Iv : Nat → Nat → L2.St → Hp → Prop)
    (h0 : ∀ n B, Sn n → Wk R G0 H0 Ds B → R A B → Iv n 0 σ B)
    (hs : ∀ n i d x σ' X, Sn n → i < n → Wk R G0 H0 Ds X → R (gr G0 H0 Ds A) (gr G0 H0 Ds X) → Iv n i σ' X → Sd n i d → Dp K (gr G0 H0 Ds X) x d → ∀ N : L2.St → Hp → Prop,
      (∀ σ2 X2, Wk R G0 H0 Ds X2 → R (gr G0 H0 Ds X) (gr G0 H0 Ds X2) → Iv n (i + 1) σ2 X2 → N σ2 X2) → ts { Dd with nx := N, ct := N, bk := tw Dd } (σ'.set j (some x)) X)
    (hd : ∀ n σ' X, Sn n → Wk R G0 H0 Ds X → R (gr G0 H0 Ds A) (gr G0 H0 Ds X) → Iv n n σ' X → tw Dd σ' X) : tSeq (tFor wi (gName j) ts) tw Dd σ A := w_for (Dd := { Dd with nx := tw Dd }) W hi Iv h0 hs hd
end
theorem iopE {X : Cx} : PIp X .Add rExt2 := fun pins s σ H x y v u Q I rx ry h => iop_ext pins s σ H x y v u Q I rx ry h
def scn0 : List Str := ["f0 d00 u01 d00 e u00", "d00 e s d00 g0", "d00 i d01 u01 e u01 u00 d00 u10"]
def scn1 : List Str := ["l f- s l s e e s e s", "f0 g1 i g0 g- e g0 e g0 f- g- g0 e"]
def scn2 : List Str := ["l i s u00 e u00 e l f0 l s e g0 s e s e", "d00 u00 e u00 d01 e e u01"]
def scn3 : List Str := ["d00 d01 d00 i d00 e u00 d10 d10", "d00 d00 u00 i u00 d01 u01 e u00", "i l f1 d00"]
def scn4 : List Str := ["f0 i g0 e f1 g1 e e f0", "u00 d00 u00 i u10 d10 e u10", "f- e f- g- e f0 g0 e"]
def scn5 : List Str := ["d00 i u00 e d01 u01 u00", "s e s d00 i u00 g0 u00 e e d00", "l f0 s e s e s"]
def scn6 : List Str := ["f0 f1 g0 e g0 e g1", "d00 i i d01 e u00 e u00 d10 u00 d00 u10 i d01 d11 u00 u11 e u00 d10"]
def scn7 : List Str := ["", "e e i e e"]
def scenesL : List Str := scn0 ++ scn1 ++ scn2 ++ scn3 ++ scn4 ++ scn5 ++ scn6 ++ scn7
section
variable {P : Program} {w : World} {K : PySem.W.Frag} {mg : Str → Option Value} {base : Heap} {C fI cc : Addr}
theorem sc_scenes : FnScope ["_law_rows"] [] (defScope s__law_scenes) := ⟨rfl, rfl, rfl, by decide +kernel, rfl, by decide +kernel, by decide +kernel⟩
theorem cl_scenes (T : Tl P K mg C fI cc) : Cl P w K mg base 1 "_law_scenes" (spD K (fun ds => ds = []) fun _ => strsD scenesL) := by
  refine cl_d (ps := []) T.d_scenes (fun _ _ _ _ _ _ us hl => match us, hl with | [], _ => rfl) sc_scenes (fun ds e => by rw [e]; rfl) fun f cdv A outer s H E hr => ⟨_,
    (pss_cons (ps_set (i := 0) sc_scenes.nd rfl (Or.inl rfl) (pe_lst (pa_cons pe_str (pa_cons pe_str (pa_cons pe_str pa_nil))))) (pss_cons (ps_aug (i := 0) sc_scenes.nd rfl (Or.inl rfl) (pe_lst (pa_cons pe_str (pa_cons pe_str pa_nil))) iopE) (pss_cons (ps_aug (i := 0) sc_scenes.nd rfl (Or.inl rfl) (pe_lst (pa_cons pe_str (pa_cons pe_str pa_nil))) iopE) (pss_cons (ps_aug (i := 0) sc_scenes.nd rfl (Or.inl rfl) (pe_lst (pa_cons pe_str (pa_cons pe_str (pa_cons pe_str pa_nil)))) iopE) (pss_cons (ps_aug (i := 0) sc_scenes.nd rfl (Or.inl rfl) (pe_lst (pa_cons pe_str (pa_cons pe_str (pa_cons pe_str pa_nil)))) iopE) (pss_cons (ps_aug (i := 0) sc_scenes.nd rfl (Or.inl rfl) (pe_lst (pa_cons pe_str (pa_cons pe_str (pa_cons pe_str pa_nil)))) iopE) (pss_cons (ps_aug (i := 0) sc_scenes.nd rfl (Or.inl rfl) (pe_lst (pa_cons pe_str (pa_cons pe_str pa_nil))) iopE) (pss_one (ps_ret (pe_op op_catL (pv 0) (pe_lst (pa_cons pe_str (pa_cons pe_str pa_nil))))))))))))), fun vs G ds p hp => ?_⟩
  subst hp
  cases p
  intro A hA D q
  refine ws_lst (K := K) (es := scn0.map .str) (Wk.start (R := Same) hA) (by exact aS_strs' _ scn0) (by decide) fun p B np W rB l _ => ?_
  refine ws_aug (K := K) (fs := scn1.map .str) W rfl (List.mem_cons_self ..) l (by decide) (by exact aS_strs' _ scn1) fun B W r l _ => ?_
  refine ws_aug (K := K) (fs := scn2.map .str) W rfl (List.mem_cons_self ..) l (by decide) (by exact aS_strs' _ scn2) fun B W r l _ => ?_
  refine ws_aug (K := K) (fs := scn3.map .str) W rfl (List.mem_cons_self ..) l (by decide) (by exact aS_strs' _ scn3) fun B W r l _ => ?_
  refine ws_aug (K := K) (fs := scn4.map .str) W rfl (List.mem_cons_self ..) l (by decide) (by exact aS_strs' _ scn4) fun B W r l _ => ?_
  refine ws_aug (K := K) (fs := scn5.map .str) W rfl (List.mem_cons_self ..) l (by decide) (by exact aS_strs' _ scn5) fun B W r l _ => ?_
  refine ws_aug (K := K) (fs := scn6.map .str) W rfl (List.mem_cons_self ..) l (by decide) (by exact aS_strs' _ scn6) fun B W r l _ => ?_
  refine ws_ret W.free (EvS.to (e_op1 (R := Same) (e_var (i := 0) rfl (l.free W (List.mem_cons_self ..))) (e_lst1 (ds := scn7.map .str) (by exact aS_strs' _ scn7) (by decide)) (rs_catL (by decide))) (dx := strsD scenesL) ?_) fun v d B r e pd => q v d B r e pd
  unfold strsD scenesL
  simp only [List.map_append]
/-! ### _law_row -/
theorem sc_row : FnScope ["_law_code", "_law_names", "_law_kinds", "_law_kind"] ["_law_code", "_law_names", "_law_kinds"] (defScope s__law_row) := ⟨rfl, rfl, rfl, by decide +kernel, rfl, by decide +kernel, by decide +kernel⟩
def tailsL : List Str := ["f0", "f1", "f-", "d00", "d01", "d10", "d11", "u00", "u01", "u10", "u11", "g0", "g1", "g-"]
def codesL : List Str := "e" :: "s" :: "i" :: "l" :: tailsL
def lastK (c : Str) (k0 k1 : Str) : Str := match atI c.cps.toList (-1) with
  | some 48 => k0
  | some 49 => k1
  | _ => ""
def secN (c : Str) (n0 n1 : Str) : Str := match atI c.cps.toList 1 with
  | some 48 => n0
  | _ => n1
def tailV (c : Str) (n0 n1 k0 k1 : Str) : PyData := match atI c.cps.toList 0 with
  | some 102 => .tuple [.str "open", .tuple [.str "fun", .str (lastK c k0 k1)]]
  | some 103 => .tuple [.str "give", .str (lastK c k0 k1)]
  | some 100 => .tuple [.str "let", .str (secN c n0 n1), .str (lastK c k0 k1)]
  | _ => .tuple [.str "use", .str (secN c n0 n1), .str (lastK c k0 k1)]
def rowV (c : Str) (n0 n1 k0 k1 : Str) : PyData :=
  if c == "e" then .tuple [.str "end"] else if c == "s" then .tuple [.str "stop"] else if c == "i" then .tuple [.str "open", .str "if"] else if c == "l" then .tuple [.str "open", .str "loop"] else tailV c n0 n1 k0 k1
def rowF : List PyData → PyData
  | [.str c, .tuple [.str n0, .str n1], .tuple [.str k0, .str k1]] => rowV c n0 n1 k0 k1
  | _ => .none
def pair2 (n : Str × Str) : PyData := .tuple [.str n.1, .str n.2]
def preRow (ds : List PyData) : Prop := ∃ c n k, ds = [.str c, pair2 n, pair2 k] ∧ c ∈ codesL
def lastC (c : Str) : Bool := (atI c.cps.toList (-1) == some 45) || ((atI c.cps.toList (-1) == some 48) || (atI c.cps.toList (-1) == some 49))
def secC (c : Str) : Bool := (atI c.cps.toList 1 == some 48) || (atI c.cps.toList 1 == some 49)
def firC (c : Str) : Bool := (atI c.cps.toList 0 == some 102) || ((atI c.cps.toList 0 == some 103) || (secC c && ((atI c.cps.toList 0 == some 100) || (atI c.cps.toList 0 == some 117))))
def tailChk (c : Str) : Bool := (!(["e", "s"] : List Str).any (fun y => y == c) && !(["i", "l"] : List Str).any (fun y => y == c)) && ((!(c == "e") && (!(c == "s") && (!(c == "i") && !(c == "l")))) && (decide (c.length ≤ 640) && (lastC c && firC c)))
theorem tail_chk : ∀ c ∈ tailsL, tailChk c = true := by
  have h : tailsL.all tailChk = true := by decide +kernel
  rw [List.all_eq_true] at h
  exact h
theorem e_intT {R : Hp → Hp → Prop} [Rl R] {σ : L2.St} {G : Hp} {te : TE} {a : Str} {n : Int} (h : EvS R K te σ G (· = .str a)) (e : PySem.intText? a = some n) (hz : a.length ≤ 640) :
    EvS R K (tCB (fun xs H Q => ∃ a n, xs = [.str a] ∧ PySem.intText? a = some n ∧ a.length ≤ 640 ∧ Q (.int n) H) (tCons te tNil)) σ G (· = .int n) := fun A hA Q q =>
  h A hA _ fun v d B r e2 p => by
    subst e2
    cases p
    exact ⟨a, n, rfl, e, hz, q _ _ B r rfl (.int _)⟩
theorem cl_row (T : Tl P K mg C fI cc) : Cl P w K mg base 1 "_law_row" (spD K preRow rowF) := by
  refine cl_d (ps := ["_law_code", "_law_names", "_law_kinds"]) T.d_row (fun _ _ _ _ _ _ us hl => match us, hl with | [_, _, _], _ => rfl) sc_row (fun ds ⟨c, n, k, e, _⟩ => by rw [e]; rfl) fun f cdv A outer s H E hr => ⟨_,
    (pss_cons (ps_if (pt_cmpR op_in_seq (pv 0) (pe_tup (pa_cons pe_str (pa_cons pe_str pa_nil))) rfl) (pss_one (ps_ret (pe_ifExp (pt_cmpR (op_eqD hr.units) (pv 0) pe_str (nomark _)) (pe_tup (pa_cons pe_str pa_nil)) (pe_tup (pa_cons pe_str pa_nil))))) pss_nil) (pss_cons (ps_if (pt_cmpR op_in_seq (pv 0) (pe_tup (pa_cons pe_str (pa_cons pe_str pa_nil))) rfl) (pss_one (ps_ret (pe_tup (pa_cons pe_str (pa_cons (pe_ifExp (pt_cmpR (op_eqD hr.units) (pv 0) pe_str (nomark _)) pe_str pe_str) pa_nil))))) pss_nil) (pss_cons (ps_set (i := 3) sc_row.nd rfl (Or.inl rfl) (pe_ifExp (pt_cmpR (op_neD hr.units) (pe_ix ix_str (pv 0) (pe_un un_neg pe_int) (fun _ _ => rfl)) pe_str (nomark _)) (pe_ix ix_tup (pv 2) (pe_callTy call_int_str rfl T.z.y.x.n_int boot_intT (pa_cons (pe_ix ix_str (pv 0) (pe_un un_neg pe_int) (fun _ _ => rfl)) pa_nil)) (fun _ _ => rfl)) pe_str)) (pss_cons (ps_if (pt_cmpR (op_eqD hr.units) (pe_ix ix_str (pv 0) pe_int (fun _ _ => rfl)) pe_str (nomark _)) (pss_one (ps_ret (pe_tup (pa_cons pe_str (pa_cons (pe_tup (pa_cons pe_str (pa_cons (pv 3) pa_nil))) pa_nil))))) pss_nil) (pss_cons (ps_if (pt_cmpR (op_eqD hr.units) (pe_ix ix_str (pv 0) pe_int (fun _ _ => rfl)) pe_str (nomark _)) (pss_one (ps_ret (pe_tup (pa_cons pe_str (pa_cons (pv 3) pa_nil))))) pss_nil) (pss_one (ps_ret (pe_tup (pa_cons (pe_ifExp (pt_cmpR (op_eqD hr.units) (pe_ix ix_str (pv 0) pe_int (fun _ _ => rfl)) pe_str (nomark _)) pe_str pe_str) (pa_cons (pe_ix ix_tup (pv 1) (pe_callTy call_int_str rfl T.z.y.x.n_int boot_intT (pa_cons (pe_ix ix_str (pv 0) pe_int (fun _ _ => rfl)) pa_nil)) (fun _ _ => rfl)) (pa_cons (pv 3) pa_nil))))))))))), fun vs G ds p hp => ?_⟩
  obtain ⟨c, n, k, rfl, hc⟩ := hp
  cases p with
  | @cons v1 _ _ _ p1 p =>
  cases p with
  | @cons v2 _ _ _ p2 p =>
  cases p with
  | @cons v3 _ _ _ p3 p =>
  cases p
  have sh : ∀ z : Str, PyData.strOk z = true → SeqAt.shaped (.str z) = true := fun z h => sh_str h
  have tin : ∀ (zs : List Str) (b : Bool), (zs.any fun y => y == c) = b → zs.length ≤ 100000 → EvT Same (tTest (tOp (rIn K false) (tVar 0) (tTup (tStrs zs)))) (L2.start ["_law_code", "_law_names", "_law_kinds", "_law_kind"] [v1, v2, v3]) G (· = b) := fun zs b e hz =>
    t_test ((e_op1 (e_var rfl p1) (e_tup1 (ds := zs.map .str) (aS_strs' G zs) (by rw [List.length_map]; exact hz)) rs_inT).to (by rw [e]))
  have teq : ∀ (z : Str) (b : Bool), PyData.strOk c = true → PyData.strOk z = true → (c == z) = b → EvT Same (tTest (tOp (rEqD K) (tVar 0) (tC (.str z)))) (L2.start ["_law_code", "_law_names", "_law_kinds", "_law_kind"] [v1, v2, v3]) G (· = b) := fun z b h1 h2 e =>
    t_test ((e_op1 (e_var rfl p1) e_str (rs_eq (sh_str h1) (sh_str h2))).to (by rw [eqv_str, e]))
  rcases List.mem_cons.1 hc with rfl | hc
  · refine rt_if (Sb := (· = true)) (tin ["e", "s"] true (by decide +kernel) (by decide)) (fun _ => rt_ret ?_) fun h => by cases h
    exact e_if (Sb := (· = true)) (teq "e" true (by decide +kernel) (by decide +kernel) (by decide +kernel)) (fun _ => (e_tup1 (a_one e_str a_nil) (by decide)).to rfl) fun h => by cases h
  rcases List.mem_cons.1 hc with rfl | hc
  · refine rt_if (Sb := (· = true)) (tin ["e", "s"] true (by decide +kernel) (by decide)) (fun _ => rt_ret ?_) fun h => by cases h
    exact e_if (Sb := (· = false)) (teq "e" false (by decide +kernel) (by decide +kernel) (by decide +kernel)) (fun h => by cases h) fun _ => (e_tup1 (a_one e_str a_nil) (by decide)).to rfl
  rcases List.mem_cons.1 hc with rfl | hc
  · refine rt_if (Sb := (· = false)) (tin ["e", "s"] false (by decide +kernel) (by decide)) (fun h => by cases h) fun _ => ?_
    refine rt_if (Sb := (· = true)) (tin ["i", "l"] true (by decide +kernel) (by decide)) (fun _ => rt_ret ?_) fun h => by cases h
    exact (e_tup1 (a_one e_str (a_one (d := .str "if") (e_if (Sb := (· = true)) (teq "i" true (by decide +kernel) (by decide +kernel) (by decide +kernel)) (fun _ => e_str) fun h => by cases h) a_nil)) (by decide)).to rfl
  rcases List.mem_cons.1 hc with rfl | hc
  · refine rt_if (Sb := (· = false)) (tin ["e", "s"] false (by decide +kernel) (by decide)) (fun h => by cases h) fun _ => ?_
    refine rt_if (Sb := (· = true)) (tin ["i", "l"] true (by decide +kernel) (by decide)) (fun _ => rt_ret ?_) fun h => by cases h
    exact (e_tup1 (a_one e_str (a_one (d := .str "loop") (e_if (Sb := (· = false)) (teq "i" false (by decide +kernel) (by decide +kernel) (by decide +kernel)) (fun h => by cases h) fun _ => e_str) a_nil)) (by decide)).to rfl
  have ck := tail_chk c hc
  unfold tailChk at ck
  simp only [Bool.and_eq_true, Bool.not_eq_true', decide_eq_true_eq] at ck
  obtain ⟨⟨g1, g2⟩, ⟨q1, q2, q3, q4⟩, hz, hl, hf⟩ := ck
  have eF : rowF [.str c, pair2 n, pair2 k] = tailV c n.1 n.2 k.1 k.2 := by
    show rowV c n.1 n.2 k.1 k.2 = _
    unfold rowV
    rw [q1, q2, q3, q4]
    rfl
  rw [eF]
  have hz' : c.length ≤ 100000 := by omega
  refine rt_if (Sb := (· = false)) (tin ["e", "s"] false g1 (by decide)) (fun h => by cases h) fun _ => ?_
  refine rt_if (Sb := (· = false)) (tin ["i", "l"] false g2 (by decide)) (fun h => by cases h) fun _ => ?_
  have last : ∀ cl, atI c.cps.toList (-1) = some cl → EvS Same K (tOp rIxS (tVar 0) (tUn (rU fun i => .int (-i)) (tC (.int 1)))) (L2.start ["_law_code", "_law_names", "_law_kinds", "_law_kind"] [v1, v2, v3]) G (· = .str ⟨#[cl]⟩) := fun cl e =>
    e_op1 (e_var rfl p1) (e_un e_int (fun X => .int _)) (rs_ixS hz' e)
  refine rt_set (Sa := (· = .str (lastK c k.1 k.2))) ?_ fun v4 d G' hG e4 p4 => ?_
  · unfold lastC at hl
    simp only [Bool.or_eq_true, beq_iff_eq] at hl
    rcases hl with hl | hl | hl
    · refine (e_if (Sb := (· = false)) (t_test ((e_op1 (last 45 hl) e_str (rs_ne (sh_str (by decide +kernel)) (sh_str (by decide +kernel)))).to (by rw [eqv_str]; exact congrArg PyData.bool (by decide +kernel)))) (fun h => by cases h) fun _ => e_str).to ?_
      unfold lastK
      rw [hl] <;> rfl
    · refine (e_if (Sb := (· = true)) (t_test ((e_op1 (last 48 hl) e_str (rs_ne (sh_str (by decide +kernel)) (sh_str (by decide +kernel)))).to (by rw [eqv_str]; exact congrArg PyData.bool (by decide +kernel)))) (fun _ => e_op1 (e_var rfl p3) (e_intT (n := 0) (last 48 hl) (by decide +kernel) (by decide)) (rs_ixT (d := .str k.1) rfl)) fun h => by cases h).to ?_
      unfold lastK
      rw [hl] <;> rfl
    · refine (e_if (Sb := (· = true)) (t_test ((e_op1 (last 49 hl) e_str (rs_ne (sh_str (by decide +kernel)) (sh_str (by decide +kernel)))).to (by rw [eqv_str]; exact congrArg PyData.bool (by decide +kernel)))) (fun _ => e_op1 (e_var rfl p3) (e_intT (n := 1) (last 49 hl) (by decide +kernel) (by decide)) (rs_ixT (d := .str k.2) rfl)) fun h => by cases h).to ?_
      unfold lastK
      rw [hl] <;> rfl
  subst e4
  have p1' := dp_up (fun a o t e => Rl.stay hG t e) _ _ p1
  have p2' := dp_up (fun a o t e => Rl.stay hG t e) _ _ p2
  have first : ∀ cf, atI c.cps.toList 0 = some cf → EvS Same K (tOp rIxS (tVar 0) (tC (.int 0))) ((L2.start ["_law_code", "_law_names", "_law_kinds", "_law_kind"] [v1, v2, v3]).set 3 (some v4)) G' (· = .str ⟨#[cf]⟩) := fun cf e =>
    e_op1 (e_var rfl p1') e_int (rs_ixS hz' e)
  have fist : ∀ (cf : Nat) (z : Str) (b : Bool), atI c.cps.toList 0 = some cf → PyData.strOk ⟨#[cf]⟩ = true → PyData.strOk z = true → ((⟨#[cf]⟩ : Str) == z) = b → EvT Same (tTest (tOp (rEqD K) (tOp rIxS (tVar 0) (tC (.int 0))) (tC (.str z)))) ((L2.start ["_law_code", "_law_names", "_law_kinds", "_law_kind"] [v1, v2, v3]).set 3 (some v4)) G' (· = b) := fun cf z b e h1 h2 h3 =>
    t_test ((e_op1 (first cf e) e_str (rs_eq (sh_str h1) (sh_str h2))).to (by rw [eqv_str, h3]))
  have kv : EvS Same K (tVar 3) ((L2.start ["_law_code", "_law_names", "_law_kinds", "_law_kind"] [v1, v2, v3]).set 3 (some v4)) G' (· = .str (lastK c k.1 k.2)) := e_var rfl p4
  unfold firC secC at hf
  simp only [Bool.or_eq_true, Bool.and_eq_true, beq_iff_eq] at hf
  have nm : (atI c.cps.toList 1 = some 48 ∨ atI c.cps.toList 1 = some 49) → EvS Same K (tOp (rIxT K) (tVar 1) (tCB (fun xs H Q => ∃ a n, xs = [.str a] ∧ PySem.intText? a = some n ∧ a.length ≤ 640 ∧ Q (.int n) H) (tCons (tOp rIxS (tVar 0) (tC (.int 1))) tNil))) ((L2.start ["_law_code", "_law_names", "_law_kinds", "_law_kind"] [v1, v2, v3]).set 3 (some v4)) G' (· = .str (secN c n.1 n.2)) := fun h => by
    rcases h with h | h
    · refine (e_op1 (e_var rfl p2') (e_intT (n := 0) (e_op1 (e_var rfl p1') e_int (rs_ixS hz' h)) (by decide +kernel) (by decide)) (rs_ixT (d := .str n.1) rfl)).to ?_
      unfold secN
      rw [h] <;> rfl
    · refine (e_op1 (e_var rfl p2') (e_intT (n := 1) (e_op1 (e_var rfl p1') e_int (rs_ixS hz' h)) (by decide +kernel) (by decide)) (rs_ixT (d := .str n.2) rfl)).to ?_
      unfold secN
      rw [h] <;> rfl
  rcases hf with hf | hf | ⟨hs, hf⟩
  · refine rt_if (Sb := (· = true)) (fist 102 "f" true hf (by decide +kernel) (by decide +kernel) (by decide +kernel)) (fun _ => rt_ret ?_) fun h => by cases h
    refine (e_tup1 (a_one e_str (a_one (e_tup1 (a_one e_str (a_one kv a_nil)) (by show 2 ≤ 100000; decide)) a_nil)) (by show 2 ≤ 100000; decide)).to ?_
    unfold tailV
    rw [hf] <;> rfl
  · refine rt_if (Sb := (· = false)) (fist 103 "f" false hf (by decide +kernel) (by decide +kernel) (by decide +kernel)) (fun h => by cases h) fun _ => ?_
    refine rt_if (Sb := (· = true)) (fist 103 "g" true hf (by decide +kernel) (by decide +kernel) (by decide +kernel)) (fun _ => rt_ret ?_) fun h => by cases h
    refine (e_tup1 (a_one e_str (a_one kv a_nil)) (by show 2 ≤ 100000; decide)).to ?_
    unfold tailV
    rw [hf] <;> rfl
  · rcases hf with hf | hf
    · refine rt_if (Sb := (· = false)) (fist 100 "f" false hf (by decide +kernel) (by decide +kernel) (by decide +kernel)) (fun h => by cases h) fun _ => ?_
      refine rt_if (Sb := (· = false)) (fist 100 "g" false hf (by decide +kernel) (by decide +kernel) (by decide +kernel)) (fun h => by cases h) fun _ => rt_ret ?_
      refine (e_tup1 (a_one (d := .str "let") (e_if (Sb := (· = true)) (fist 100 "d" true hf (by decide +kernel) (by decide +kernel) (by decide +kernel)) (fun _ => e_str) fun h => by cases h) (a_one (nm hs) (a_one kv a_nil))) (by show 3 ≤ 100000; decide)).to ?_
      unfold tailV
      rw [hf] <;> rfl
    · refine rt_if (Sb := (· = false)) (fist 117 "f" false hf (by decide +kernel) (by decide +kernel) (by decide +kernel)) (fun h => by cases h) fun _ => ?_
      refine rt_if (Sb := (· = false)) (fist 117 "g" false hf (by decide +kernel) (by decide +kernel) (by decide +kernel)) (fun h => by cases h) fun _ => rt_ret ?_
      refine (e_tup1 (a_one (d := .str "use") (e_if (Sb := (· = false)) (fist 117 "d" false hf (by decide +kernel) (by decide +kernel) (by decide +kernel)) (fun h => by cases h) fun _ => e_str) (a_one (nm hs) (a_one kv a_nil))) (by show 3 ≤ 100000; decide)).to ?_
      unfold tailV
      rw [hf] <;> rfl
end
end K25
end
section
set_option maxRecDepth 100000
set_option maxHeartbeats 4000000
namespace K25
open PySem PySem.Spec PyProof.Rows L2
def NP : List (Str × Str) := [("x", "y"), ("let", "end"), ("abcdefgh", "a"), ("use", "open")]
def KP : List (Str × Str) := [("num", "text"), ("a", "b"), ("loop", "if")]
theorem split_ok : (scenesL.all fun z => decide ((Txt.split z " ").length ≤ 40) && (Txt.split z " ").all (fun y => y == "" || codesL.any (· == y))) = true := by decide +kernel
theorem rows_ok : (codesL.all fun c => NP.all fun n => KP.all fun k => isRowD (rowV c n.1 n.2 k.1 k.2) && fine 3 (rowV c n.1 n.2 k.1 k.2) && decide ((rowV c n.1 n.2 k.1 k.2).shown.length ≤ 60)) = true := by decide +kernel
end K25
end
section
set_option maxRecDepth 100000
set_option maxHeartbeats 4000000
namespace K25
open PySem PySem.Spec PyProof.Rows L2
section
variable {R : Hp → Hp → Prop} [Rl R] {K : PySem.W.Frag} {σ : L2.St} {G G0 H0 A B : Hp} {Ds : List Addr} {te ta tb : TE} {f L : Addr} {ns : List Int} {tw : TS} {i j : Nat} {Dd : Ends} {S : PyData → Prop}
theorem gr_base (W : Wk R G0 H0 Ds A) : ∀ a o, Stay o → G0 a = some o → gr G0 H0 Ds A a = some o := fun a o t h =>
  gr_mk (up_base (R := R) W.g W.r a o t h) fun m => by
    have := Rl.dom W.g (W.d a m).1
    rw [h] at this
    cases this
theorem FdG.gr (F : FdG K f L ns G0) (W : Wk (RF f L) G0 H0 Ds A) : FdG K f L ns (gr G0 H0 Ds A) := by
  have F2 := F.own W.g W.r
  obtain ⟨o, h1, h2⟩ := F2.f
  refine ⟨⟨o, gr_mk h1 fun m => ?_, h2⟩, sql_up (gr_base W) F.l, F.n⟩
  obtain ⟨o1, g1, _⟩ := F.f
  have := Rl.dom W.g (W.d f m).1
  rw [g1] at this
  cases this
theorem e_any {es : List PyData} {E : XK} (h : σ[i]? = some (some (.ref f))) (F : FdG K f L ns G) (he : EvS (RF f L) K te σ G (· = .list es)) (h0 : 0 < es.length) (h1 : es.length ≤ 100000) :
    EvS (RF f L) K (tCall (spF K preAny sAny) [] E (tCons (tVar i) (tCons te tNil))) σ G (fun d => d ∈ es) :=
  (e_callF (S := sAny) (Sl := fun ds => ds = [.list es]) h F (a_one he a_nil) fun ds e => ⟨es, e, h0, h1⟩).imp fun d ⟨ds, e, es', e2, m⟩ => by
    rw [e] at e2
    have e3 : PyData.list es = .list es' := (List.cons.inj e2).1
    cases e3
    exact m
theorem e_draw {m : Int} {E : XK} (h : σ[i]? = some (some (.ref f))) (F : FdG K f L ns G) (he : EvS (RF f L) K te σ G (· = .int m)) (h0 : 0 < m) (h1 : m < 1073741824) :
    EvS (RF f L) K (tCall (spDraw K) [] E (tCons (tVar i) (tCons te tNil))) σ G (fun d => ∃ k : Nat, d = .int k ∧ (k : Int) < m) :=
  (e_callF (S := sDraw) (Sl := fun ds => ds = [.int m]) h F (a_one he a_nil) fun ds e => ⟨m, e, h0, h1⟩).imp fun d ⟨ds, e, m', j, e2, e3, h2, h3⟩ => by
    rw [e] at e2
    have e4 : PyData.int m = .int m' := (List.cons.inj e2).1
    cases e4
    refine ⟨j.toNat, ?_, by omega⟩
    rw [e3, Int.toNat_of_nonneg h2]
abbrev LS (S : List PyData → Prop) (d : PyData) : Prop := ∃ es, d = .list es ∧ S es
theorem e_slLS {tl th : TO} {So Sh : Option Int → Prop} {Sl : List PyData → Prop} (h : EvS R K te σ G (LS Sl)) (hl : EvO R tl σ G So) (hh : EvO R th σ G Sh) :
    EvS R K (tSl (rSlL K) te tl th) σ G (fun d => ∃ es lo hi, Sl es ∧ So lo ∧ Sh hi ∧ d = .list (cutD es lo hi)) := fun A hA Q q =>
  h A hA _ fun v d B r ⟨es, e, se⟩ p => hl B (Rl.trans hA r) _ fun lo B2 r2 s2 => hh B2 (Rl.trans (Rl.trans hA r) r2) _ fun hi B3 r3 s3 => by
    subst e
    cases p with
    | @lst a xs _ hs ha =>
      have hs' := sql_up (up_next r3) (sql_up (up_next r2) hs)
      have ha' := dpa_up (up_next r3) es xs (dpa_up (up_next r2) es xs ha)
      have rr := Rl.trans (Rl.trans r r2) r3
      exact ⟨a, xs, rfl, sql_up up_sub hs', fun l hl => q (.ref l) _ _ (Rl.new rr (Rl.dom rr hl)) ⟨es, lo, hi, se, s2, s3, rfl⟩ (.lst (.inl (.inl (own_at rr hl))) (dpa_up (up_new rr hl) _ _ (dpa_cut ha')))⟩
abbrev rCatL (K : PySem.W.Frag) : R2 := fun x y H Q => ∃ a b xs ys, x = .ref a ∧ y = .ref b ∧ SqL K H a xs ∧ SqL K H b ys ∧ xs.length + ys.length ≤ sizeLine ∧ ∀ p, H p = none → Q (.ref p) (upd H p (.lst (xs ++ ys)))
theorem e_catLS {Sa Sb : List PyData → Prop} (h1 : EvS R K ta σ G (LS Sa)) (h2 : EvS R K tb σ G (LS Sb)) (hz : ∀ es fs, Sa es → Sb fs → es.length + fs.length ≤ 100000) :
    EvS R K (tOp (rCatL K) ta tb) σ G (LS fun gs => ∃ es fs, gs = es ++ fs ∧ Sa es ∧ Sb fs) :=
  e_op h1 h2 fun dx dy ⟨es, e1, s1⟩ ⟨fs, e2, s2⟩ => by
    subst e1 e2
    intro A hA B x y r1 px py Q q
    exact rs_catL (hz es fs s1 s2) A hA B x y r1 px py Q fun v d D rr e pd => q v d D rr ⟨_, e, es, fs, rfl, s1, s2⟩ pd
theorem cutD_to (es : List PyData) (k : Nat) : cutD es none (some (k : Int)) = es.take k := by
  unfold cutD
  rw [HT.sIx_nat, HT.sIx_none, List.drop_zero, Nat.sub_zero]
  by_cases h : k ≤ es.length
  · rw [Nat.min_eq_left h]
  · rw [Nat.min_eq_right (by omega), List.take_of_length_le (Nat.le_refl _), List.take_of_length_le (by omega)]
/-- int(a bool) -/
theorem e_intB (h : EvS R K te σ G (fun d => ∃ b, d = .bool b)) : EvS R K (tCB (fun xs H Q => (∃ i, xs = [.int i] ∧ Q (.int i) H) ∨ ∃ k, xs = [.bl k] ∧ Q (.int (if k then 1 else 0)) H) (tCons te tNil)) σ G (fun d => ∃ n : Nat, d = .int n ∧ n ≤ 1) := fun A hA Q q =>
  h A hA _ fun v d B r ⟨b, e⟩ p => by
    subst e
    cases p
    refine .inr ⟨b, rfl, q _ (.int (if b then 1 else 0)) B r ?_ (.int _)⟩
    cases b with
    | true => exact ⟨1, rfl, Nat.le_refl _⟩
    | false => exact ⟨0, rfl, Nat.zero_le _⟩
abbrev rSplit : V → List V → Hp → VK → Prop := fun x xs H Q => ∃ a b, x = .str a ∧ xs = [.str b] ∧ (b.length == 0) = false ∧ a.length + 2 ≤ sizeLine ∧ rNewStrs (Txt.split a b) H Q
def Codes0 (zs : List Str) : Prop := ∀ z ∈ zs, z = "" ∨ z ∈ codesL
abbrev C0 (m : Nat) (es : List PyData) : Prop := ∃ zs : List Str, es = zs.map .str ∧ Codes0 zs ∧ zs.length ≤ m
abbrev C1 (m : Nat) (es : List PyData) : Prop := ∃ zs : List Str, es = zs.map .str ∧ (∀ z ∈ zs, z ∈ codesL) ∧ zs.length ≤ m
theorem dpa_strs {X : Hp} : ∀ zs : List Str, DpAll K X (zs.map V.str) (zs.map PyData.str)
  | [] => .nil
  | z :: zs => .cons (.str z) (dpa_strs zs)
theorem split_of {z : Str} (h : z ∈ scenesL) : (Txt.split z " ").length ≤ 40 ∧ Codes0 (Txt.split z " ") := by
  have q := split_ok
  rw [List.all_eq_true] at q
  have q := q z h
  rw [Bool.and_eq_true, decide_eq_true_eq, List.all_eq_true] at q
  refine ⟨q.1, fun y hy => ?_⟩
  have q2 := q.2 y hy
  rw [Bool.or_eq_true, beq_iff_eq, List.any_eq_true] at q2
  rcases q2 with e | ⟨c, hc, e⟩
  · exact .inl e
  · rw [beq_iff_eq] at e
    exact .inr (e ▸ hc)
theorem scenes_len : ∀ z ∈ scenesL, z.length ≤ 100 := by
  have h : (scenesL.all fun z => decide (z.length ≤ 100)) = true := by decide +kernel
  rw [List.all_eq_true] at h
  exact fun z hz => of_decide_eq_true (h z hz)
theorem e_split (h : EvS R K te σ G (fun d => d ∈ scenesL.map PyData.str)) : EvS R K (tM1 rSplit te (tC (.str " "))) σ G (LS (C0 40)) := fun A hA Q q =>
  h A hA _ fun v d B r m p => by
    obtain ⟨z, hz, rfl⟩ := List.mem_map.1 m
    cases p
    obtain ⟨h1, h2⟩ := split_of hz
    refine ⟨⟨z, rfl⟩, z, " ", rfl, rfl, by decide +kernel, Nat.le_trans (Nat.add_le_add_right (scenes_len z hz) 2) (by decide), fun l hl => ?_⟩
    exact q (.ref l) (.list ((Txt.split z " ").map .str)) _ (Rl.new r (Rl.dom r hl)) ⟨_, rfl, _, rfl, h2, h1⟩ (.lst (.inl (.inl (own_at r hl))) (dpa_strs _))
theorem C0.mono {m m' : Nat} {es : List PyData} (h : C0 m es) (e : m ≤ m') : C0 m' es := let ⟨zs, a, b, c⟩ := h; ⟨zs, a, b, Nat.le_trans c e⟩
theorem C0.cat {m n : Nat} {es fs : List PyData} (h : C0 m es) (k : C0 n fs) : C0 (m + n) (es ++ fs) := by
  obtain ⟨zs, rfl, h1, h2⟩ := h
  obtain ⟨ys, rfl, k1, k2⟩ := k
  refine ⟨zs ++ ys, by rw [List.map_append], fun z hz => ?_, by rw [List.length_append]; omega⟩
  rcases List.mem_append.1 hz with h | h
  · exact h1 z h
  · exact k1 z h
/-- [code for code in codes if code != ""] -/
theorem e_codes {wi : TI} {m j : Nat} (hi : ItD R K wi σ G (fun n => n ≤ m) (fun _ d => ∃ z : Str, d = .str z ∧ (z = "" ∨ z ∈ codesL))) (hj : j < σ.length) (hz : m ≤ 100000) :
    EvS R K (tLc wi (gName j) (tTest (tOp (rNeD K) (tVar j) (tC (.str "")))) (tVar j) [j]) σ G (LS (C1 m)) :=
  (e_lc (fun i es => ∃ zs : List Str, es = zs.map .str ∧ ∀ z ∈ zs, z ∈ codesL) hi (fun n e => by omega) ⟨[], rfl, fun z h => by cases h⟩ fun i d x es G' hG sd px iv le => by
    obtain ⟨z, rfl, hz⟩ := sd
    obtain ⟨zs, rfl, hzs⟩ := iv
    have hs : ((wipe σ [j]).set j (some x))[j]? = some (some x) := by
      have : j < (wipe σ [j]).length := by rw [wipe_length]; exact hj
      simp [this]
    have hok : PyData.strOk z = true := by
      rcases hz with rfl | h
      · decide +kernel
      · have q : (codesL.all PyData.strOk) = true := by decide +kernel
        rw [List.all_eq_true] at q
        exact q z h
    refine ⟨_, b_name (j := j), ?_, (· = !(z == "")), t_test ((e_op1 (e_var hs px) e_str (rs_ne (sh_str hok) (sh_str (by decide +kernel)))).to (by rw [eqv_str])), fun hb => (e_var hs px).imp fun e he => ⟨zs ++ [z], by rw [he, List.map_append]; rfl, fun y hy => ?_⟩, fun _ => ⟨zs, rfl, hzs⟩⟩
    · simp [wipe]
    · rcases List.mem_append.1 hy with h | h
      · exact hzs y h
      · rw [List.mem_singleton.1 h]
        rcases hz with rfl | h2
        · exact absurd hb (by decide +kernel)
        · exact h2).imp fun d ⟨n, es, e1, e2, ⟨zs, e3, e4⟩, e5⟩ => ⟨es, e2, zs, e3, e4, by
    have : zs.length = es.length := by rw [e3, List.length_map]
    omega⟩
def tPairs : List (Str × Str) → TA
  | [] => tNil
  | z :: l => tCons (tTup (tCons (tC (.str z.1)) (tCons (tC (.str z.2)) tNil))) (tPairs l)
theorem a_pairs (G : Hp) : ∀ l : List (Str × Str), EvA R K (tPairs l) σ G (· = l.map pair2)
  | [] => a_nil
  | z :: l => a_one (e_tup1 (a_one e_str (a_one e_str a_nil)) (by show 2 ≤ 100000; decide)) (a_pairs G l)
theorem C1.cat {m n : Nat} {es fs : List PyData} (h : C1 m es) (k : C1 n fs) : C1 (m + n) (es ++ fs) := by
  obtain ⟨zs, rfl, h1, h2⟩ := h
  obtain ⟨ys, rfl, k1, k2⟩ := k
  refine ⟨zs ++ ys, by rw [List.map_append], fun z hz => ?_, by rw [List.length_append]; omega⟩
  rcases List.mem_append.1 hz with h | h
  · exact h1 z h
  · exact k1 z h
theorem menu_codes : ∀ z ∈ menuL, z ∈ codesL := by
  have h : (menuL.all fun z => codesL.any (· == z)) = true := by decide +kernel
  rw [List.all_eq_true] at h
  intro z hz
  obtain ⟨c, hc, e⟩ := List.any_eq_true.1 (h z hz)
  rw [beq_iff_eq] at e
  exact e ▸ hc
theorem ws_par {ta : TA} {Sl : List PyData → Prop} (W : Wk R G0 H0 Ds A) (h : EvA R K ta σ (gr G0 H0 Ds A) (fun ds => ∃ d e, ds = [d, e] ∧ Sl [d, e]))
    (k : ∀ v w d e B, Wk R G0 H0 Ds B → R A B → Sl [d, e] → Dp K (gr G0 H0 Ds B) v d → Dp K (gr G0 H0 Ds B) w e → tw Dd ((σ.set i (some v)).set j (some w)) B) : tSeq (tPar i j ta) tw Dd σ A :=
  w_evA W h fun vs ds B WB r ⟨d, e, ed, s⟩ p => by
    subst ed
    cases p with
    | @cons v _ _ _ p1 p =>
    cases p with
    | @cons w _ _ _ p2 p =>
    cases p
    exact ⟨v, w, rfl, k v w d e B WB r s p1 p2⟩
theorem w_asg (W : Wk R G0 H0 Ds A) (h : EvS R K te σ (gr G0 H0 Ds A) S) (k : ∀ v d B, Wk R G0 H0 Ds B → R A B → S d → Dp K (gr G0 H0 Ds B) v d → Dd.nx (σ.set i (some v)) B) : tAsg te (gName i) Dd σ A := w_ev W h k
end
section
variable {P : Program} {w : World} {K : PySem.W.Frag} {mg : Str → Option Value} {base : Heap} {C fI cc : Addr}
theorem sc_text : FnScope ["_law_feed_here", "_law_pools", "_law_names", "_law_kinds", "_law_codes", "_law_size", "_law_kind", "_law_lap", "_law_spot", "_law_path", "_law_more", "_law_code"] ["_law_feed_here"] (defScope s__law_text) := ⟨rfl, rfl, rfl, by decide +kernel, rfl, by decide +kernel, by decide +kernel⟩
def rowOk (d : PyData) : Prop := ∃ c n k, c ∈ codesL ∧ n ∈ NP ∧ k ∈ KP ∧ d = rowV c n.1 n.2 k.1 k.2
/-- a page with its names and kinds -/
def sText (_ : List PyData) (d : PyData) : Prop := ∃ (es : List PyData) (n k : Str × Str), d = .tuple [.tuple es, pair2 n, pair2 k] ∧ n ∈ NP ∧ k ∈ KP ∧ es.length ≤ 60 ∧ ∀ e ∈ es, rowOk e
theorem cl_text (T : Tl P K mg C fI cc) : Cl P w K mg base 3 "_law_text" (spF K (fun ds => ds = []) sText) := by
  refine cl_f (ps := ["_law_feed_here"]) T.d_text (fun _ _ _ _ _ _ us hl => match us, hl with | [_], _ => rfl) sc_text (fun ds e => by rw [e]; rfl) fun g cdv A outer s H E hr => ⟨_,
    (pss_cons (ps_set (i := 1) sc_text.nd rfl (Or.inl rfl) (pe_lst (pa_cons (pe_tup (pa_cons pe_str (pa_cons pe_str pa_nil))) (pa_cons (pe_tup (pa_cons pe_str (pa_cons pe_str pa_nil))) (pa_cons (pe_tup (pa_cons pe_str (pa_cons pe_str pa_nil))) (pa_cons (pe_tup (pa_cons pe_str (pa_cons pe_str pa_nil))) pa_nil)))))) (pss_cons (ps_set (i := 2) sc_text.nd rfl (Or.inr rfl) (pe_k (cl_any T) hr (by decide) rfl (pa_cons (pv 0) (pa_cons (pv 1) pa_nil)))) (pss_cons (ps_set (i := 3) sc_text.nd rfl (Or.inr rfl) (pe_k (cl_any T) hr (by decide) rfl (pa_cons (pv 0) (pa_cons (pe_lst (pa_cons (pe_tup (pa_cons pe_str (pa_cons pe_str pa_nil))) (pa_cons (pe_tup (pa_cons pe_str (pa_cons pe_str pa_nil))) (pa_cons (pe_tup (pa_cons pe_str (pa_cons pe_str pa_nil))) pa_nil)))) pa_nil)))) (pss_cons (ps_set (i := 4) sc_text.nd rfl (Or.inl rfl) (pe_m1 PySem.F.slot_str_split PySem.F.type_str_split mt_split (pe_k (cl_any T) hr (by decide) rfl (pa_cons (pv 0) (pa_cons (pe_k0 (cl_scenes T) hr (by decide) rfl) pa_nil))) pe_str)) (pss_cons (ps_par (i := 5) (j := 6) rfl sc_text.nd rfl rfl (by decide) rfl rfl (pa_cons (pe_k (cl_draw T) hr (by decide) rfl (pa_cons (pv 0) (pa_cons pe_int pa_nil))) (pa_cons (pe_k (cl_draw T) hr (by decide) rfl (pa_cons (pv 0) (pa_cons pe_int pa_nil))) pa_nil)) rfl) (pss_cons (ps_for PassesOwn.never rfl (pi_range1 rfl T.z.n_range (pa_cons (pe_ifExp (pt_cmpR (op_eqD hr.units) (pv 5) pe_int (nomark _)) pe_int (pe_callTy call_int1 rfl T.z.y.x.n_int boot_intT (pa_cons (pe_cmpR (op_eqD hr.units) (pv 6) pe_int (nomark _)) pa_nil))) pa_nil)) (pg_name (i := 7) sc_text.nd rfl (Or.inl rfl)) (pss_one (ps_set (i := 4) sc_text.nd rfl (Or.inl rfl) (pe_op op_catL (pv 4) (pe_m1 PySem.F.slot_str_split PySem.F.type_str_split mt_split (pe_k (cl_any T) hr (by decide) rfl (pa_cons (pv 0) (pa_cons (pe_k0 (cl_scenes T) hr (by decide) rfl) pa_nil))) pe_str))))) (pss_cons (ps_set (i := 4) sc_text.nd rfl (Or.inl rfl) (pe_slice sl_list (pe_lc (own := [("_law_code", 11)]) (tt := tTest (tOp (rNeD K) (tVar 11) (tC (.str "")))) rfl sc_text.nd (pi_list (pv 4)) (blkOk_by (N := ["_law_feed_here", "_law_pools", "_law_names", "_law_kinds", "_law_codes", "_law_size", "_law_kind", "_law_lap", "_law_spot", "_law_path", "_law_more", "_law_code"]) (sc := defScope s__law_text) (by decide +kernel)) (fun _ _ _ _ _ => (pg_name (i := 11) sc_text.nd rfl (Or.inl rfl))) (fun _ _ _ _ _ => (pts_one (pt_cmpR (op_neD hr.units) (pv 11) pe_str (nomark _)))) (fun _ _ _ _ _ => (pv 11))) po_none (po_some pe_int))) (pss_cons (ps_for PassesOwn.never rfl (pi_range1 rfl T.z.n_range (pa_cons (pe_k (cl_draw T) hr (by decide) rfl (pa_cons (pv 0) (pa_cons pe_int pa_nil))) pa_nil)) (pg_name (i := 7) sc_text.nd rfl (Or.inl rfl)) (pss_cons (ps_par (i := 8) (j := 9) rfl sc_text.nd rfl rfl (by decide) rfl rfl (pa_cons (pe_k (cl_draw T) hr (by decide) rfl (pa_cons (pv 0) (pa_cons (pe_op op_add (pe_callB call_len rfl T.z.y.x.n_len PySem.boot_len (pa_cons (pv 4) pa_nil)) pe_int) pa_nil))) (pa_cons (pe_k (cl_draw T) hr (by decide) rfl (pa_cons (pv 0) (pa_cons pe_int pa_nil))) pa_nil)) rfl) (pss_cons (ps_set (i := 10) sc_text.nd rfl (Or.inl rfl) (pe_ifExp (pt_cmpR op_lt (pv 9) pe_int (nomark _)) (pe_lst (pa_cons (pe_k (cl_any T) hr (by decide) rfl (pa_cons (pv 0) (pa_cons (pe_k0 (cl_menu T) hr (by decide) rfl) pa_nil))) pa_nil)) (pe_lst pa_nil))) (pss_one (ps_set (i := 4) sc_text.nd rfl (Or.inl rfl) (pe_op op_catL (pe_op op_catL (pe_slice sl_list (pv 4) po_none (po_some (pv 8))) (pv 10)) (pe_slice sl_list (pv 4) (po_some (pe_op op_add (pv 8) (pe_callTy call_int1 rfl T.z.y.x.n_int boot_intT (pa_cons (pe_cmpR op_gt (pv 9) pe_int (nomark _)) pa_nil)))) po_none))))))) (pss_one (ps_ret (pe_tup (pa_cons (pe_callTy call_tuple_of rfl T.z.y.x.n_tuple boot_tupleT (pa_cons (pe_lc (own := [("_law_code", 11)]) (te := tCall (spD K preRow rowF) [] E0 (tCons (tVar 11) (tCons (tVar 2) (tCons (tVar 3) tNil)))) rfl sc_text.nd (pi_list (pv 4)) (blkOk_by (N := ["_law_feed_here", "_law_pools", "_law_names", "_law_kinds", "_law_codes", "_law_size", "_law_kind", "_law_lap", "_law_spot", "_law_path", "_law_more", "_law_code"]) (sc := defScope s__law_text) (by decide +kernel)) (fun _ _ _ _ _ => (pg_name (i := 11) sc_text.nd rfl (Or.inl rfl))) (fun _ _ _ _ _ => pts_nil) (fun _ _ _ _ _ => (pe_k (cl_row T) hr (by decide) rfl (pa_cons (pv 11) (pa_cons (pv 2) (pa_cons (pv 3) pa_nil)))))) pa_nil)) (pa_cons (pv 2) (pa_cons (pv 3) pa_nil)))))))))))))), fun f L ns ws G ds F p hp => ?_⟩
  subst hp
  cases p
  intro A hA D q
  have W0 := Wk.start (R := RF f L) hA
  refine ws_set (K := K) W0 (S := (· = .list (NP.map pair2))) (e_lst1 (ds := NP.map pair2) (by exact a_pairs _ NP) (by decide)) fun v1 d A1 W1 r1 e1 p1 => ?_
  subst e1
  refine ws_set (K := K) W1 (e_any rfl (F.gr W1) (e_var (i := 1) rfl p1) (by decide) (by decide)) fun v2 d A2 W2 r2 m2 p2 => ?_
  obtain ⟨n, hn, rfl⟩ := List.mem_map.1 m2
  refine ws_set (K := K) W2 (e_any (es := KP.map pair2) rfl (F.gr W2) (e_lst1 (by exact a_pairs _ KP) (by decide)) (by decide) (by decide)) fun v3 d A3 W3 r3 m3 p3 => ?_
  obtain ⟨k, hk, rfl⟩ := List.mem_map.1 m3
  have scn : ∀ {σ : L2.St} {X : Hp}, Wk (RF f L) G A [] X → σ[0]? = some (some (.ref f)) → EvS (RF f L) K (tM1 rSplit (tCall (spF K preAny sAny) [] E0 (tCons (tVar 0) (tCons (tCall (spD K (fun ds => ds = []) fun _ => strsD scenesL) [] E0 tNil) tNil))) (tC (.str " "))) σ (gr G A [] X) (LS (C0 40)) := fun W h =>
    e_split (e_any (es := scenesL.map .str) h (F.gr W) (e_callD (F := fun _ => strsD scenesL) (ds := []) a_nil rfl) (by decide) (by decide))
  have mn : ∀ {σ : L2.St} {X : Hp}, Wk (RF f L) G A [] X → σ[0]? = some (some (.ref f)) → EvS (RF f L) K (tCall (spF K preAny sAny) [] E0 (tCons (tVar 0) (tCons (tCall (spD K (fun ds => ds = []) fun _ => strsD menuL) [] E0 tNil) tNil))) σ (gr G A [] X) (fun d => ∃ z ∈ menuL, d = .str z) := fun W h =>
    EvS.imp (e_any (es := menuL.map .str) h (F.gr W) (e_callD (F := fun _ => strsD menuL) (ds := []) a_nil rfl) (by decide) (by decide)) fun d m => by
      obtain ⟨z, hz, e⟩ := List.mem_map.1 m
      exact ⟨z, hz, e.symm⟩
  refine ws_set (K := K) W3 (scn W3 rfl) fun v4 d A4 W4 r4 ⟨cs, e4, c4⟩ p4 => ?_
  subst e4
  have dr : ∀ {σ : L2.St} {X : Hp} {te : TE} {m : Int}, Wk (RF f L) G A [] X → σ[0]? = some (some (.ref f)) → EvS (RF f L) K te σ (gr G A [] X) (· = .int m) → 0 < m → m < 1073741824 → EvS (RF f L) K (tCall (spDraw K) [] E0 (tCons (tVar 0) (tCons te tNil))) σ (gr G A [] X) (fun d => ∃ k : Nat, d = .int k ∧ (k : Int) < m) := fun W h he h0 h1 => e_draw h (F.gr W) he h0 h1
  refine ws_par (K := K) W4 (Sl := fun ds => ∃ a b : Nat, ds = [.int a, .int b]) ((a_cons (dr (m := 24) W4 rfl e_int (by decide) (by decide)) (a_cons (dr (m := 3) W4 rfl e_int (by decide) (by decide)) a_nil)).imp fun ds ⟨d, es, e1, ⟨a, e2, _⟩, d', es', e3, ⟨b, e4, _⟩, e5⟩ => ⟨d, d', by rw [e1, e3, e5], a, b, by rw [e2, e4]⟩) fun v5 v6 d5 d6 A5 W5 r5 s5 p5 p6 => ?_
  obtain ⟨a, b, e5⟩ := s5
  obtain ⟨rfl, e6⟩ := List.cons.inj e5
  obtain ⟨rfl, _⟩ := List.cons.inj e6
  have up5 : ∀ {v d}, Dp K (gr G A [] A4) v d → Dp K (gr G A [] A5) v d := fun h => dp_up (gr_next r5) _ _ h
  have p24 := dp_up (gr_next (Ds := []) (G0 := G) (H0 := A) r4) _ _ (dp_up (gr_next r3) _ _ p2)
  have p34 := dp_up (gr_next (Ds := []) (G0 := G) (H0 := A) r4) _ _ p3
  refine ws_for (K := K) W5 (Sn := (· ≤ 9)) (ig_range (e_if (Sb := fun _ => True) (t_testS ((e_op1 (e_var (i := 5) rfl p5) e_int (rs_eq (sh_int _) (sh_int _))).imp fun d e => ⟨_, e, trivial⟩)) (fun _ => e_int.imp fun d e => ⟨9, e, by decide⟩) fun _ => (e_intB ((e_op1 (e_var (i := 6) rfl p6) e_int (rs_eq (sh_int _) (sh_int _))).imp fun d e => ⟨_, e⟩)).imp fun d ⟨n, e, h⟩ => ⟨n, e, by omega⟩) fun n h => by omega)
    (fun _ i σ' X => ∃ a1 a5 a6 a7 a8 a9 a10 a11 vc cs, σ' = [some (.ref f), a1, some v2, some v3, some vc, a5, a6, a7, a8, a9, a10, a11] ∧ Dp K (gr G A [] X) vc (.list cs) ∧ C0 (40 * (i + 1)) cs)
    (fun n B _ WB r => ⟨_, _, _, _, _, _, _, _, v4, cs, rfl, dp_up (gr_next r) _ _ (up5 p4), c4⟩)
    (fun nn i d x σ' X hnn hi WX rX ⟨a1, a5, a6, a7, a8, a9, a10, a11, vc, cs, e, pc, hc⟩ sd px N hN => ?_) fun nn σ' X hnn WX rX ⟨a1, a5, a6, a7, a8, a9, a10, a11, vc, cs, e, pc, hc⟩ => ?_
  · subst e
    refine w_asg (K := K) WX (e_catLS (Sa := (· = cs)) ((e_var (i := 4) rfl pc).imp fun d e => ⟨cs, e, rfl⟩) (scn WX rfl) fun es fs e1 h2 => ?_) fun v d B WB r ⟨gs, e, es, fs, eg, e1, h2⟩ p => hN _ _ WB (gr_r WX r) ?_
    · subst e1
      have := hc
      obtain ⟨zs, rfl, _, h3⟩ := hc
      obtain ⟨ys, rfl, _, h4⟩ := h2
      rw [List.length_map, List.length_map]
      omega
    · subst e eg e1
      exact ⟨_, _, _, _, _, _, _, _, v, _, rfl, p, (hc.cat h2).mono (by omega)⟩
  subst e
  have hc : C0 400 cs := hc.mono (by omega)
  have p2X := dp_up (fun a o t z => Rl.stay rX t z) _ _ (up5 p24)
  have p3X := dp_up (fun a o t z => Rl.stay rX t z) _ _ (up5 p34)
  refine ws_set (K := K) WX (e_slLS (Sl := C1 400) (e_codes (j := 11) (m := 400) ?_ (by show 11 < 12; decide) (by decide)) o_none (o_some (K := K) e_int)) fun v4' d A6 W6 r6 ⟨es, lo, hi, c6, e1, e2, e3⟩ p6' => ?_
  · intro A' hA' Rk kk
    refine it_listS (Sl := C0 400) (Sd := fun _ d => ∃ z : Str, d = .str z ∧ (z = "" ∨ z ∈ codesL)) ((e_var (i := 4) rfl pc).imp fun d e => ⟨cs, e, hc⟩) (fun ds i d ⟨zs, e, h1, _⟩ h => ?_) A' hA' Rk fun J n B Gd Y r ⟨ds, ⟨zs, e, _, h2⟩, en⟩ w hG hy => kk J n B Gd Y r (by rw [en, e, List.length_map]; exact h2) w hG hy
    subst e
    rw [List.getElem?_map] at h
    cases hz : zs[i]? with
    | none => rw [hz] at h; cases h
    | some z =>
      rw [hz] at h
      exact ⟨z, (Option.some.inj h).symm, h1 z (List.mem_of_getElem? hz)⟩
  subst e1 e2 e3
  rw [show (57 : Int) = ((57 : Nat) : Int) from rfl, cutD_to] at p6'
  have c6 : C1 57 (es.take 57) := by
    obtain ⟨zs, rfl, h1, _⟩ := c6
    exact ⟨zs.take 57, by rw [List.map_take], fun z hz => h1 z (List.mem_of_mem_take hz), by rw [List.length_take]; omega⟩
  have p2Y := dp_up (gr_next r6) _ _ p2X
  have p3Y := dp_up (gr_next r6) _ _ p3X
  refine ws_for (K := K) W6 (Sn := (· ≤ 3)) (ig_range ((dr (m := 4) W6 rfl e_int (by decide) (by decide)).imp fun d ⟨k, e, h⟩ => ⟨k, e, by omega⟩) fun n h => by omega)
    (fun _ i σ' X => ∃ a1 a5 a6 a7 a8 a9 a10 a11 vc cs, σ' = [some (.ref f), a1, some v2, some v3, some vc, a5, a6, a7, a8, a9, a10, a11] ∧ Dp K (gr G A [] X) vc (.list cs) ∧ C1 (57 + i) cs)
    (fun n B _ WB r => ⟨_, _, _, _, _, _, _, _, v4', _, rfl, dp_up (gr_next r) _ _ p6', c6⟩)
    (fun nn i d x σ' X hnn hi WX rX ⟨a1, a5, a6, a7, a8, a9, a10, a11, vc, cs, e, pc, hc⟩ sd px N hN => ?_) fun nn σ' X hnn WX rX ⟨a1, a5, a6, a7, a8, a9, a10, a11, vc, cs, e, pc, hc⟩ => ?_
  · subst e
    obtain ⟨zs, ez, hz1, hz2⟩ := hc
    have hzl : cs.length ≤ 60 := by rw [ez, List.length_map]; omega
    refine ws_par (K := K) WX (Sl := fun ds => ∃ a b : Nat, ds = [.int a, .int b]) ((a_cons (dr (m := (cs.length : Int) + 1) WX rfl (e_op1 (e_len (e_var (i := 4) rfl pc) (.inr (.inl ⟨cs, rfl, rfl⟩))) e_int (rs_I0 (e := .int ((cs.length : Int) + 1)) fun X => .int _)) (by omega) (by omega)) (a_cons (dr (m := 3) WX rfl e_int (by decide) (by decide)) a_nil)).imp fun ds ⟨d, es, e1, ⟨a, e2, _⟩, d', es', e3, ⟨b, e4, _⟩, e5⟩ => ⟨d, d', by rw [e1, e3, e5], a, b, by rw [e2, e4]⟩) fun w5 w6 d5 d6 A7 W7 r7 s7 q5 q6 => ?_
    obtain ⟨sp, pa, e5⟩ := s7
    obtain ⟨rfl, e6⟩ := List.cons.inj e5
    obtain ⟨rfl, _⟩ := List.cons.inj e6
    have pc7 := dp_up (gr_next r7) _ _ pc
    refine ws_set (K := K) W7 (S := LS (C1 1)) (e_if (Sb := fun _ => True) (t_testS ((e_op1 (e_var (i := 9) rfl q6) e_int (rs_I0 (e := .bool (decide ((pa : Int) < 2))) fun X => .bl _)).imp fun d e => ⟨_, e, trivial⟩)) (fun _ => EvS.imp (e_lst (Sl := fun ds => ∃ z ∈ menuL, ds = [.str z]) (EvA.imp (a_cons (mn W7 rfl) a_nil) fun ds ⟨d, es, e1, ⟨z, hz, e3⟩, e2⟩ => ⟨z, hz, by rw [e1, e2, e3]⟩) fun ds ⟨z, _, e⟩ => by rw [e]; show 1 ≤ 100000; decide) fun d ⟨ds, e, z, hz, e2⟩ => ⟨ds, e, [z], e2, (fun y hy => by rw [List.mem_singleton.1 hy]; exact menu_codes z hz), Nat.le_refl _⟩) fun _ => EvS.imp (e_lst1 a_nil (by decide)) fun d e => ⟨[], e, [], rfl, (fun y hy => by cases hy), Nat.zero_le _⟩) fun v10 d A8 W8 r8 ⟨ms, e8, c8⟩ p8 => ?_
    subst e8
    have pc8 := dp_up (gr_next r8) _ _ pc7
    have q58 := dp_up (gr_next r8) _ _ q5
    have q68 := dp_up (gr_next r8) _ _ q6
    refine w_asg (K := K) W8 (e_catLS (Sa := fun es => ∃ es' fs, es = es' ++ fs ∧ es' = cs.take sp ∧ fs = ms) (Sb := fun es => ∃ m, sp ≤ m ∧ es = cs.drop m) (e_catLS (Sa := (· = cs.take sp)) (Sb := (· = ms)) ((e_slL (e_var (i := 4) rfl pc8) o_none (o_some (e_var (i := 8) rfl q58))).imp fun d ⟨lo, hi, e1, e2, e3⟩ => ⟨cs.take sp, by rw [e3, e1, e2, cutD_to], rfl⟩) ((e_var (i := 10) rfl p8).imp fun d e => ⟨ms, e, rfl⟩) ?_)
      ((e_slL (e_var (i := 4) rfl pc8) (o_someS (Si := fun i => ∃ m : Nat, i = m ∧ sp ≤ m) ((e_opI (p := (· = (sp : Int))) (q := fun i => 0 ≤ i) (r := fun i => ∃ m : Nat, i = m ∧ sp ≤ m) (e_varS (i := 8) rfl q58 rfl) ((e_intB ((e_op1 (e_var (i := 9) rfl q68) e_int (rs_I0 (e := .bool (decide ((0 : Int) < pa))) fun X => .bl _)).imp fun d e => ⟨_, e⟩)).imp fun d ⟨n, e, _⟩ => ⟨n, e, by omega⟩) fun i j h1 h2 => ⟨(i + j).toNat, by omega, by omega⟩))) o_none).imp fun d ⟨lo, hi, ⟨i, e1, m, e2, h⟩, e3, e4⟩ => ⟨cs.drop m, by rw [e4, e1, e3, e2, cutD_from], m, h, rfl⟩) ?_) fun v d B WB r ⟨gs, e, es, fs, eg, ⟨es', fs', e1, e2, e3⟩, m, hm, e4⟩ p => hN _ _ WB (Rl.trans (gr_r WX r7) (Rl.trans (gr_r W7 r8) (gr_r W8 r))) ?_
    · intro es fs e1 e2
      subst e1 e2
      have := c8
      obtain ⟨ys, rfl, _, h4⟩ := c8
      rw [List.length_take, List.length_map]
      omega
    · rintro es fs ⟨es', fs', e1, e2, e3⟩ ⟨m, hm, e4⟩
      subst e1 e2 e3 e4
      have := c8
      obtain ⟨ys, rfl, _, h4⟩ := c8
      rw [List.length_append, List.length_take, List.length_map, List.length_drop]
      omega
    · subst e eg e1 e2 e3 e4
      refine ⟨_, _, _, _, _, _, _, _, v, _, rfl, p, ?_⟩
      obtain ⟨ys, rfl, h3, h4⟩ := c8
      refine ⟨zs.take sp ++ ys ++ zs.drop m, by rw [ez, List.map_append, List.map_append, List.map_take, List.map_drop], fun z hz => ?_, ?_⟩
      · rcases List.mem_append.1 hz with hz | hz
        · rcases List.mem_append.1 hz with hz | hz
          · exact hz1 z (List.mem_of_mem_take hz)
          · exact h3 z hz
        · exact hz1 z (List.mem_of_mem_drop hz)
      · rw [List.length_append, List.length_append, List.length_take, List.length_drop]
        omega
  subst e
  obtain ⟨zs, rfl, hz1, hz2⟩ := hc
  have p2Z := dp_up (fun a o t z => Rl.stay rX t z) _ _ p2Y
  have p3Z := dp_up (fun a o t z => Rl.stay rX t z) _ _ p3Y
  refine ws_ret (K := K) WX (S := sText []) ((e_tup1 (ds := [.tuple ((List.range zs.length).map fun i => rowV (zs.getD i "") n.1 n.2 k.1 k.2), pair2 n, pair2 k]) (a_one (e_cb1 (ds := [.list ((List.range zs.length).map fun i => rowV (zs.getD i "") n.1 n.2 k.1 k.2)]) (a_one (e_lcMap (n := zs.length) (Sd := fun i d => (zs.map PyData.str)[i]? = some d) (fun i => rowV (zs.getD i "") n.1 n.2 k.1 k.2) ?_ (by omega) fun i d x G' hG sd px => ?_) a_nil) rc_tuple) (a_one (e_var (i := 2) rfl p2Z) (a_one (e_var (i := 3) rfl p3Z) a_nil))) (by show 3 ≤ 100000; decide)).imp fun d e => ⟨_, n, k, e, hn, hk, ?_, fun e he => ?_⟩) fun v d B r s p => q v d B r s p
  · have := it_list (R := RF f L) (K := K) (e_var (i := 4) (σ := [some (.ref f), a1, some v2, some v3, some vc, a5, a6, a7, a8, a9, a10, a11]) rfl pc)
    rw [List.length_map] at this
    exact this
  · have hi : ∃ z, zs[i]? = some z ∧ d = .str z := by
      rw [List.getElem?_map] at sd
      cases hz : zs[i]? with
      | none => rw [hz] at sd; cases sd
      | some z =>
        rw [hz] at sd
        exact ⟨z, rfl, (Option.some.inj sd).symm⟩
    obtain ⟨z, hz, rfl⟩ := hi
    refine ⟨_, b_name (j := 11), rfl, (e_callD (F := rowF) (ds := [.str z, pair2 n, pair2 k]) (a_one (e_var (i := 11) rfl px) (a_one (e_var (i := 2) rfl (dp_up (fun a o t z => Rl.stay hG t z) _ _ p2Z)) (a_one (e_var (i := 3) rfl (dp_up (fun a o t z => Rl.stay hG t z) _ _ p3Z)) a_nil))) ⟨z, n, k, rfl, hz1 z (List.mem_of_getElem? hz)⟩).to ?_⟩
    rw [List.getD_eq_getElem?_getD, hz]
    rfl
  · rw [List.length_map, List.length_range]
    omega
  · obtain ⟨i, hi, rfl⟩ := List.mem_map.1 he
    have hi := List.mem_range.1 hi
    refine ⟨zs.getD i "", n, k, ?_, hn, hk, rfl⟩
    rw [List.getD_eq_getElem?_getD, List.getElem?_eq_getElem hi]
    exact hz1 _ (List.getElem_mem hi)
end
end K25
end
section
set_option maxRecDepth 100000
set_option maxHeartbeats 3200000
namespace K25X
open PySem PySem.Spec PyProof.Rows L2
abbrev setN (w : World) : Obj := { cls := .type "set", dict := none, data := .set #[] 0 (.fresh 0 0 (!w.params.followText "set-order")) }
/-- set(l), l a list of ints -/
theorem call_setL {P : Program} {w : World} {Y : Around} {Er : Value → Shared → Prop} {z : Shared} {a : Addr} {vs : Array Value} (ks : List Int) {Qq : Value → Shared → Prop} (hc : Y.handled = none) (ha : z.heap.IsList a vs) (hv : IntsAre vs.toList ks) (hz : ks.length + 1 < scanBound)
    (k : ∀ (h' : Heap) (nt c : Nat), SetR w h' z.heap.objs.size (fun j => decide (j ∈ ks)) c → c ≤ ks.length → (∀ b o, z.heap.get? b = some o → h'.get? b = some o) → Qq (.ref z.heap.objs.size) { z with heap := h', toks := nt }) :
    wpAny (model P w) Y (call (.type "set") [.ref a]) Qq Er z := by
  have size_eq : vs.size = ks.length := by
    have e := IntsAre.length hv
    rwa [Array.length_toList] at e
  obtain ⟨cm, tm, mro⟩ := F.called_set.mro
  have w1 := F.called_set.made
  have w2 := F.called_set.sub
  refine wpAny_call (codeAny_of_tree ?_)
  show wpAny (model P w) _ (callAny (.type "set") _) _ Er z
  refine wpAny_pure ⟨Code.quiet_builtin _ (by decide +kernel), codeAny_builtin F.entry_type_call ?_⟩
  rw [Around.under_plain (weight_type_call_type "set" [.ref a] []) rfl]
  have w3 := F.called_set.notType
  have w4 := F.called_set.canCreate
  have w5 := F.typeCall_set_1 (.ref a)
  repeat any_goals first | assumption | wp_step
  refine codeAny_mono (code_set_led1 (.ref a) (E := Er) (Q₁ := fun ob z1 => ob = .ref z.heap.objs.size ∧ z1 = { z with heap := z.heap.push (setN w) }) ⟨rfl, rfl⟩) fun r z1 hr => ?_
  cases r with
  | error e => exact hr
  | ok fl =>
    cases fl with
    | ret ob =>
      obtain ⟨rfl, rfl⟩ := hr
      have gS : (z.heap.push (setN w)).get? z.heap.objs.size = some (setN w) := Heap.get?_push_size _ rfl
      have tS : Shared.TypeIs { z with heap := z.heap.push (setN w) } (.ref z.heap.objs.size) "set" := ⟨_, gS, rfl⟩
      have w6 := F.called_set.init.lookup
      have w7 := F.called_set.init.bind (.ref z.heap.objs.size)
      repeat any_goals first | assumption | wp_step
      refine codeAny_mono (codeAny_call_builtin (R := wants (fun r z2 => r = .none ∧ ∃ h' nt c, z2 = { z with heap := h', toks := nt } ∧ SetR w h' z.heap.objs.size (fun j => decide (j ∈ ks)) c ∧ c ≤ ks.length ∧
          ∀ b o, z.heap.get? b = some o → h'.get? b = some o) Er) F.called_set.init.plain F.entry_set_init (check_set_init_1 tS ?_)) fun r2 z2 hr2 => ?_
      · obtain ⟨⟨oc, od, odt, osl⟩, gl, cl, nl, dl⟩ := ha
        have cl : oc = .type "list" := cl
        have dl : odt = .seq vs nl := dl
        subst cl dl
        have gl2 : (z.heap.push (setN w)).get? a = some ⟨.type "list", od, .seq vs nl, osl⟩ := Heap.get?_push_of_some _ gl
        have w8 := F.sub_list_set
        have w9 := F.sub_list_frozenset
        have w10 : (Value.type "list" == Value.type "dict") = false := by decide
        have il : (z.heap.push (setN w)).IsList a vs := ⟨_, gl2, rfl, nl, rfl⟩
        unfold Builtin.«set.__init__» noKeywords Builtin.Frozenset.updateFrom
        generalize hit : pyIter = itf
        wp_walk
        subst hit
        refine wpAny_pyIter_list il ?_
        refine wpAny_bind (wpAny_runValue ?_)
        have al : a < z.heap.objs.size := Heap.lt_size gl
        have h3 : Y.in1.in1.in1.handled = none := by simp [hc]
        have sz1 : (z.heap.push (setN w)).objs.size = z.heap.objs.size + 1 := Heap.size_push ..
        have aI : a ≠ (z.heap.push (setN w)).objs.size := by
          rw [sz1]
          exact Nat.ne_of_lt (Nat.lt_succ_of_lt al)
        have nS : z.heap.objs.size ∉ [(z.heap.push (setN w)).objs.size, a] := by
          rw [sz1]
          intro m
          rcases List.mem_cons.1 m with e | m
          · exact absurd e (Nat.ne_of_lt (Nat.lt_succ_self _))
          · exact absurd (List.mem_singleton.1 m) (Nat.ne_of_gt al)
        have each : ∀ (i : Nat) (v : Value), vs[i]? = some v → ∃ n t, ks[i]? = some n ∧ v = .int n t := fun i v hi => by
          have lt : i < ks.length := by rw [← size_eq]; exact (Array.getElem?_eq_some_iff.mp hi).1
          obtain ⟨t, e⟩ := PyProof.Rows.IntsAre.int_at hv i v (by rw [Array.getElem?_toList]; exact hi)
          refine ⟨ks[i], t, List.getElem?_eq_getElem lt, ?_⟩
          rw [e, List.getD_eq_getElem?_getD, List.getElem?_eq_getElem lt] <;> rfl
        refine set_update_ints ((Walks.list h3 _ a aI vs).toS) z.heap.objs.size nS ks size_eq hz each (vs.size - 0) 0 _ (by omega) (Nat.zero_le _) ⟨⟨_, Heap.get?_push_size _ rfl, rfl, rfl⟩, il.push _⟩ ?first ?last
        case first =>
          have g : ((z.heap.push (setN w)).push { cls := .type "list_iterator", data := .fields #[.ref a, .int 0 0] }).get? z.heap.objs.size = some (setN w) := Heap.get?_push_of_some _ gS
          exact ⟨0, Nat.le_refl 0, setR_new_at g⟩
        case last =>
          intro z3 c mv hle hS
          obtain ⟨h3', g3, d3, t3, o3⟩ := z3
          obtain rfl : g3 = z.gens := mv.gens
          obtain rfl : d3 = z.drawn := mv.drawn
          obtain rfl : o3 = z.os := mv.os
          show wpAny (model P w) _ _ _ _ _
          refine wpAny_pure ?_
          show wpAny (model P w) _ (ret Value.none) _ _ _
          rw [size_eq] at hle
          refine wpAny_pure ⟨rfl, h3', t3, c, rfl, hS, hle, fun b o e => ?_⟩
          have b0 : b < z.heap.objs.size := Heap.lt_size e
          refine mv.heap b o (fun m => ?_) (Heap.get?_push_of_some _ (Heap.get?_push_of_some _ e))
          rcases List.mem_cons.1 m with e1 | m
          · exact absurd e1 (Nat.ne_of_lt b0)
          · have e1 := List.mem_singleton.1 m
            rw [sz1] at e1
            exact absurd e1 (Nat.ne_of_lt (Nat.lt_succ_of_lt b0))
      · cases r2 with
        | error e => exact hr2
        | ok f2 =>
          cases f2 with
          | ret r =>
            obtain ⟨rfl, h', nt, c, rfl, hS, hle, kp⟩ := hr2
            repeat any_goals first | assumption | wp_step
            exact k _ _ _ hS hle kp
          | _ => exact hr2.elim
    | _ => exact hr.elim
end K25X
namespace K25
open PySem PySem.Spec PyProof.Rows L2
theorem cr_setL {X : Cx} (hc : X.calm = true) : CallR X (.type "set") (fun xs H Q => ∃ (a : Addr) (ks : List Int), xs = [.ref a] ∧ SqL X.K H a (ks.map V.int) ∧ ks.length ≤ 60 ∧
    ∀ p c, H p = none → c ≤ ks.length → Q (.ref p) (upd H p (SetO X.w p (fun j => decide (j ∈ ks)) c))) := by
  intro pins s σ H xs us Q I r h
  obtain ⟨a, ks, rfl, ha, hz, q⟩ := h
  obtain ⟨u, rfl, rx⟩ := vals1 r
  cases rx
  obtain ⟨its, r2, pl, _⟩ := I.list ha
  refine K25X.call_setL ks (I.ok.hd hc) pl.isList (by simpa using ints_of_vals r2) (Nat.lt_of_le_of_lt (show ks.length + 1 ≤ 61 by omega) (by decide)) fun h' nt c hS hle kp => ?_
  exact ⟨.ref s.heap.objs.size, _, I.laid (t' := nt) kp (Nat.le_refl _) (setO_new hS), rfl, q _ c (I.hok.fresh (Nat.le_refl _)) hle⟩
end K25
end
section
set_option maxRecDepth 100000
set_option maxHeartbeats 4000000
namespace K25
open PySem PySem.Spec PyProof.Rows L2
theorem boot_maxB : bootBuiltins "max" = some (.builtin "max") := by decide +kernel
theorem boot_sortedB : bootBuiltins "sorted" = some (.builtin "sorted") := by decide +kernel
theorem boot_setT : bootBuiltins "set" = some (.type "set") := by decide +kernel
section
variable {R : Hp → Hp → Prop} [Rl R] {K : PySem.W.Frag} {σ : L2.St} {G G0 H0 A B : Hp} {Ds Ds' : List Addr} {D : Addr} {te tb : TE} {ta : TA} {ts tw : TS} {es : List PyData} {i j : Nat} {Dd : Ends} {α : Type}
/-- walks over a thing that is told as a whole -/
def ItX (R : Hp → Hp → Prop) (K : PySem.W.Frag) (wi : TI) (σ : L2.St) (G : Hp) (Sx : α → Prop) (ln : α → Nat) (Sd : α → Nat → PyData → Prop) : Prop := ∀ A, R G A → ∀ Rk : It → Hp → Prop,
  (∀ (J : It) (x : α) (B : Hp) (Gd : Hp → Prop) (Y : Nat → Hp → V → Hp → Prop), R A B → Sx x → Walk J (ln x) Gd Y → (∀ X, R (own G A B) X → Gd X) →
    (∀ i X y X', i < ln x → R (own G A B) X → Y i X y X' → X' = X ∧ ∃ d, Sd x i d ∧ Dp K (own G A B) y d) → Rk J B) → wi σ A Rk
theorem ixw_list {Sl : List PyData → Prop} (h : EvS R K te σ G (fun d => ∃ ds, d = .list ds ∧ Sl ds)) : ItX R K (iList K te) σ G Sl List.length (fun ds i d => ds[i]? = some d) := fun A hA Rk k =>
  h A hA _ fun v d B r ⟨ds, e, sl⟩ p => by
    subst e
    cases p with
    | @lst a xs _ hs ha =>
      refine ⟨a, rfl, ⟨xs, sql_up up_sub hs⟩, k (Itl K a) ds B _ _ r sl (by rw [← dpa_len ha]; exact walk_list (K := K) (a := a) (xs := xs)) (fun X rx => sql_up (fun b o t e => Rl.stay rx t e) hs) fun i X x X' hi rx y => ?_⟩
      obtain ⟨e, ex⟩ := y
      obtain ⟨d, e1, e2⟩ := dpa_getV ha ex
      exact ⟨e, d, e1, e2⟩
theorem ixw_tup {Sl : List PyData → Prop} (h : EvS R K te σ G (fun d => ∃ ds, d = .tuple ds ∧ Sl ds)) : ItX R K (iTup K te) σ G Sl List.length (fun ds i d => ds[i]? = some d) := fun A hA Rk k =>
  h A hA _ fun v d B r ⟨ds, e, sl⟩ p => by
    subst e
    cases p with
    | @tup a xs _ hs ha =>
      refine ⟨a, rfl, ⟨xs, sqt_up up_sub hs⟩, k (Itt K a) ds B _ _ r sl (by rw [← dpa_len ha]; exact walk_tup (K := K) (a := a) (xs := xs)) (fun X rx => sqt_up (fun b o t e => Rl.stay rx t e) hs) fun i X x X' hi rx y => ?_⟩
      obtain ⟨e, ex⟩ := y
      obtain ⟨d, e1, e2⟩ := dpa_getV ha ex
      exact ⟨e, d, e1, e2⟩
theorem wx_for {wi : TI} {Sx : α → Prop} {ln : α → Nat} {Sd : α → Nat → PyData → Prop} (W : Wk R G0 H0 Ds A) (hi : ItX R K wi σ (gr G0 H0 Ds A) Sx ln Sd) (Iv : α → Nat → L2.St → Hp → Prop)
    (h0 : ∀ x B, Sx x → Wk R G0 H0 Ds B → R A B → Iv x 0 σ B)
    (hs : ∀ x i d y σ' X, Sx x → i < ln x → Wk R G0 H0 Ds X → R (gr G0 H0 Ds A) (gr G0 H0 Ds X) → Iv x i σ' X → Sd x i d → Dp K (gr G0 H0 Ds X) y d → ∀ N : L2.St → Hp → Prop,
      (∀ σ2 X2, Wk R G0 H0 Ds X2 → R (gr G0 H0 Ds X) (gr G0 H0 Ds X2) → Iv x (i + 1) σ2 X2 → N σ2 X2) → ts { Dd with nx := N, ct := N, bk := tw Dd } (σ'.set j (some y)) X)
    (hd : ∀ x σ' X, Sx x → Wk R G0 H0 Ds X → R (gr G0 H0 Ds A) (gr G0 H0 Ds X) → Iv x (ln x) σ' X → tw Dd σ' X) : tSeq (tFor wi (gName j) ts) tw Dd σ A :=
  hi A (Rl.ext gr_same) _ fun J x B Gd Y r sn wk hG hy => by
    have WB := W.next r
    have gB : R (gr G0 H0 Ds A) (gr G0 H0 Ds B) := gr_r W r
    have oB : ∀ X, R (gr G0 H0 Ds B) (gr G0 H0 Ds X) → R (own (gr G0 H0 Ds A) A B) X := fun X h => Rl.trans (Rl.ext fun a o e => gr_in W e) (Rl.trans h (Rl.ext gr_same))
    refine ⟨fun i k σ' X => i + k = ln x ∧ Wk R G0 H0 Ds X ∧ R (gr G0 H0 Ds B) (gr G0 H0 Ds X) ∧ Iv x i σ' X, ⟨ln x, by omega, WB, Rl.refl _, h0 x B sn WB r⟩, fun i k σ' X ⟨hik, WX, rX, iv⟩ => ?_⟩
    cases k with
    | zero =>
      obtain rfl : i = ln x := by omega
      exact .inl ⟨wk.stops X (hG X (oB X rX)), hd x σ' X sn WX (Rl.trans gB rX) iv⟩
    | succ k =>
      refine .inr ⟨wk.goes i X (by omega) (hG X (oB X rX)), fun σ2 X2 => (∃ m', m' < k + 1 ∧ i + 1 + m' = ln x ∧ Wk R G0 H0 Ds X2 ∧ R (gr G0 H0 Ds B) (gr G0 H0 Ds X2) ∧ Iv x (i + 1) σ2 X2), fun σ2 X2 ⟨m', h1, h2⟩ => ⟨m', h1, h2⟩, fun y X' yy => ?_⟩
      obtain ⟨e, d, sd, pd⟩ := hy i X y X' (by omega) (oB X rX) (wk.yields i X y X' (by omega) (hG X (oB X rX)) yy)
      subst e
      refine hs x i d y σ' X' sn (by omega) WX (Rl.trans gB rX) iv sd (dp_up (fun a o t z => Rl.stay rX t (gr_in W z)) _ _ pd) _ fun σ2 X2 W2 r2 iv2 => ⟨k, Nat.lt_succ_self k, by omega, W2, Rl.trans rX r2, iv2⟩
/-- fewer lists held back -/
theorem Wk.sub (W : Wk R G0 H0 Ds A) (h : ∀ a ∈ Ds', a ∈ Ds) : Wk R G0 H0 Ds' A := ⟨W.g, W.r, fun D m => W.d D (h D m)⟩
theorem gr_sub (h : ∀ a ∈ Ds', a ∈ Ds) : ∀ a o, Stay o → gr G0 H0 Ds A a = some o → gr G0 H0 Ds' A a = some o := fun a o _ e => gr_mk (gr_some e).2 fun m => (gr_some e).1 (h a m)
theorem Lst.sub (l : Lst K G0 H0 Ds A D es) (h : ∀ a ∈ Ds', a ∈ Ds) : Lst K G0 H0 Ds' A D es := by
  obtain ⟨xs, e, p⟩ := l
  exact ⟨xs, e, dpa_up (gr_sub h) _ _ p⟩
theorem Lst.let (l : Lst K G0 H0 Ds A D es) (W : Wk R G0 H0 Ds A) (m : D ∈ Ds) (h : ∀ a ∈ Ds', a ∈ Ds) (n : D ∉ Ds') : Dp K (gr G0 H0 Ds' A) (.ref D) (.list es) := by
  obtain ⟨xs, e, p⟩ := l
  exact .lst (.inl (.inl (gr_mk (own_mk e fun _ => (W.d D m).1) n))) (dpa_up (gr_sub h) _ _ p)
/-- a list of one's own -/
def ZL (K : PySem.W.Frag) (S : List PyData → Prop) : ZP := fun X v => ∃ fs q zs, S fs ∧ v = .ref q ∧ X q = some (.lst zs) ∧ DpAll K X zs fs
theorem zl_up {S : List PyData → Prop} : ∀ X Y v, (∀ a o, X a = some o → Y a = some o) → ZL K S X v → ZL K S Y v := fun X Y v up ⟨fs, q, zs, h1, h2, h3, h4⟩ => ⟨fs, q, zs, h1, h2, up q _ h3, dpa_up (fun a o _ e => up a o e) _ _ h4⟩
theorem z_lst {S : List PyData → Prop} (h : EvA R K ta σ G S) (hz : ∀ fs, S fs → fs.length ≤ 100000) : EvZ R (tLst ta) σ G (ZL K S) := fun A hA Q q =>
  h A hA _ fun vs ds B r s p => ⟨by rw [dpa_len p]; exact Nat.le_trans (hz ds s) (by decide), fun l nl => q (.ref l) _ (Rl.new r (Rl.dom r nl)) ⟨ds, l, vs, s, rfl, own_at (R := R) r nl, dpa_up (up_new (R := R) r nl) _ _ p⟩⟩
theorem z_if {t : TT} {Sb : Bool → Prop} {Z : ZP} (h : EvT R t σ G Sb) (h1 : Sb true → EvZ R te σ G Z) (h2 : Sb false → EvZ R tb σ G Z) (hm : ∀ X Y v, (∀ a o, X a = some o → Y a = some o) → Z X v → Z Y v) : EvZ R (tIf t te tb) σ G Z := fun A hA Q q =>
  h A hA _ fun b B r s => by
    have bk : ∀ C a o, own G B C a = some o → own G A C a = some o := fun C a o e => own_mk (own_some e).1 fun z => Rl.dom r ((own_some e).2 z)
    cases b with
    | true => exact h1 s B (Rl.trans hA r) Q fun v C r2 z => q v C (Rl.trans r r2) (hm _ _ v (bk C) z)
    | false => exact h2 s B (Rl.trans hA r) Q fun v C r2 z => q v C (Rl.trans r r2) (hm _ _ v (bk C) z)
/-- x += a list -/
theorem w_augZ {S : List PyData → Prop} (W : Wk R G0 H0 Ds A) (hs : σ[i]? = some (some (.ref D))) (m : D ∈ Ds) (l : Lst K G0 H0 Ds A D es) (h : EvZ R te σ (gr G0 H0 Ds A) (ZL K S)) (hz : ∀ fs, S fs → es.length + fs.length ≤ 100000)
    (k : ∀ B fs, Wk R G0 H0 Ds B → R (gr G0 H0 Ds A) (gr G0 H0 Ds B) → S fs → Lst K G0 H0 Ds B D (es ++ fs) → (∀ D' es', D' ≠ D → Lst K G0 H0 Ds A D' es' → Lst K G0 H0 Ds B D' es') → Dd.nx (σ.set i (some (.ref D))) B) :
    tAug i te rExt2 Dd σ A := by
  refine ⟨.ref D, hs, w_evZ W h zl_up fun v B WB r ⟨fs, q, zs, sf, e, hq, pz⟩ => ?_⟩
  subst e
  obtain ⟨xs, eD, p⟩ := id l
  have hf := hz fs sf
  refine ⟨D, q, xs, zs, rfl, rfl, Rl.stay r trivial eD, gr_same q _ hq, Nat.le_trans (by rw [dpa_len p, dpa_len pz]; exact hf) (by decide), ?_⟩
  exact k _ fs (WB.upd m) (by rw [gr_upd m]; exact gr_r W r) sf (Lst.mk (dpa_app (dpa_up (gr_next r) _ _ p) pz) m) fun D' es' n l' => Lst.other (l'.next r) m n
/-- tuple(a list), known to the object -/
theorem z_tupF (h : EvS R K te σ G (· = .list es)) : EvZ R (tCB (fun xs H Q => ∃ p ys, xs = [.ref p] ∧ SqL K H p ys ∧ ∀ l o, H l = none → o.dict = none → Q (.ref l) (upd H l (.frz o (.tup ys)))) (tCons te tNil)) σ G (fun X v => PlainD K X v es) := fun A hA Q q =>
  h A hA _ fun v d B r e p => by
    subst e
    cases p with
    | @lst a xs _ hs ha =>
      refine ⟨a, xs, rfl, sql_up up_sub hs, fun l o nl ho => ?_⟩
      exact q (.ref l) _ (Rl.new r (Rl.dom r nl)) ⟨l, o, xs, rfl, own_at (R := R) r nl, ho, dpa_up (up_new (R := R) r nl) _ _ ha⟩
theorem PlainD.upA {X Y : Hp} {v : V} {ds : List PyData} (up : ∀ a o, X a = some o → Y a = some o) (h : PlainD K X v ds) : PlainD K Y v ds := h.up fun a o _ e => up a o e
theorem sh_gaps (n : Nat) : SeqAt.shaped (.list ((List.range n).map fun i => .int (i : Nat))) = true := by
  have h := sh_ints ((List.range n).map fun i => ((i : Nat) : Int))
  rw [List.map_map] at h
  exact h
/-- sorted(set(ints)) -/
theorem e_sset {w : World} {ks : List Int} (h : EvS R K te σ G (· = .list (ks.map .int))) (hz : ks.length ≤ 60) :
    EvS R K (tCB (rSortedSet w) (tCons (tCB (fun xs H Q => ∃ (a : Addr) (ks : List Int), xs = [.ref a] ∧ SqL K H a (ks.map V.int) ∧ ks.length ≤ 60 ∧ ∀ p c, H p = none → c ≤ ks.length → Q (.ref p) (upd H p (SetO w p (fun j => decide (j ∈ ks)) c))) (tCons te tNil)) tNil)) σ G
      (fun d => ∃ ds, d = .list ds ∧ ∃ ns : List Int, ds = ns.map .int ∧ ns.Pairwise (· < ·) ∧ (∀ k, k ∈ ns ↔ k ∈ ks) ∧ ns.length ≤ ks.length) := fun A hA Q q =>
  h A hA _ fun v d B r e p => by
    subst e
    cases p with
    | @lst a xs _ hs ha =>
      have ex := ints_of ha
      subst ex
      refine ⟨a, ks, rfl, sql_up up_sub hs, hz, fun p c np hc => ?_⟩
      refine ⟨p, _, c, rfl, upd_same, by omega, fun ns l hp hm hl nl => ?_⟩
      have r2 : R A (upd (upd B p (SetO w p (fun j => decide (j ∈ ks)) c)) l (.lst (ns.map V.int))) := Rl.new (Rl.new r (Rl.dom r np)) (Rl.dom (Rl.new r (Rl.dom r np)) nl)
      exact q (.ref l) (.list (ns.map .int)) _ r2 ⟨_, rfl, ns, rfl, hp, fun k => by rw [hm k, decide_eq_true_eq], by omega⟩ (.lst (.inl (.inl (own_mk upd_same fun _ => Rl.dom (Rl.new r (Rl.dom r np)) nl))) (dpa_ints ns))
theorem e_max2 {a b : Int} (h1 : EvS R K te σ G (· = .int a)) (h2 : EvS R K tb σ G (· = .int b)) : EvS R K (tCB (fun xs H Q => ∃ i j, xs = [.int i, .int j] ∧ Q (.int (if j > i then j else i)) H) (tCons te (tCons tb tNil))) σ G (· = .int (if b > a then b else a)) := fun A hA Q q =>
  a_one h1 (a_one h2 a_nil) A hA _ fun vs ds B r e p => by
    subst e
    cases p with
    | cons p1 p =>
    cases p with
    | cons p2 p =>
    cases p
    cases p1
    cases p2
    exact ⟨a, b, rfl, q _ _ B r rfl (.int _)⟩
end
theorem w_three {σ : L2.St} {A : Hp} {tw : TS} {Dd : Ends} {i j l : Nat} {ta tb tc : TE} (h : ta σ A fun v1 B1 => tb σ B1 fun v2 B2 => tc σ B2 fun v3 B3 => ∃ u v w, [v1, v2, v3] = [u, v, w] ∧ tw Dd (((σ.set i (some u)).set j (some v)).set l (some w)) B3) :
    tSeq (tPar3 i j l (tCons ta (tCons tb (tCons tc tNil)))) tw Dd σ A := h
/-- a promise of a def that draws, of more than the data -/
def spFZ (K : PySem.W.Frag) (pre : List PyData → Prop) (Z : List PyData → ZP) : Sp := fun vs H Q _ => ∃ (f L : Addr) (ns : List Int) (G : Hp) (ws : List V) (ds : List PyData), vs = .ref f :: ws ∧ Same G H ∧ FdG K f L ns G ∧ DpAll K G ws ds ∧ pre ds ∧
  ∀ v B, RF f L H B → Z ds (own G H B) v → Q v B
section
variable {P : Program} {w : World} {K : PySem.W.Frag} {mg : Str → Option Value} {base : Heap} {C fI cc : Addr}
theorem cl_fz {x : Str} {st : Stmt} {N ps : List Str} {k : Nat} {pre : List PyData → Prop} {Z : List PyData → ZP} (D : DefAt K mg x st)
    (hb : ∀ (kV doc pm : Value) (an : Option Addr) (cdv ct : Value) (us : List Value), us.length = ps.length → bindArgs (PySem.W.fnOf x x (defArgs st) (defBody st) (defScope st) .none kV doc pm an cdv ct) ⟨us, []⟩ = pure (ps.zip us))
    (Sc : FnScope N ps (defScope st)) (hn : ∀ ds, pre ds → ds.length + 1 = ps.length)
    (hbody : ∀ (g : Addr) (cdv : Value) (A : Around) (outer : List Env) (s : Shared) (H : Hp) (E : XK), Room k (A.deeper (envOfC x (defScope st) s.heap.objs.size g cdv)) →
      ∃ t, PSs (cxOf CX0 P w K mg base N x (defScope st) g cdv A outer s H E).nox (defBody st) t ∧ ∀ (f L : Addr) (ns : List Int) (ws : List V) (G A : Hp) (ds : List PyData) (Dd : Ends), FdG K f L ns G → DpAll K G ws ds → pre ds → Same G A → (∀ v B, RF f L A B → Z ds (own G A B) v → Dd.rt v B) → t Dd (L2.start N (.ref f :: ws)) A) :
    Cl P w K mg base (k + 1) x (spFZ K pre Z) := by
  obtain ⟨g, fd, F, hm⟩ := D
  refine ⟨g, fd, ps, F.ok Sc (fun vs H Q E h => ?_) (fun cdv A outer s H vs Q E hr h => ?_), hm, F.kp, F.binds hb⟩
  · obtain ⟨f, L, ns, G, ws, ds, rfl, _, _, p, hp, _⟩ := h
    rw [List.length_cons, dpa_len p]
    exact hn ds hp
  · obtain ⟨t, ht, hq⟩ := hbody g cdv A outer s H E hr
    refine ⟨t, ht, ?_⟩
    obtain ⟨f, L, ns, G, ws, ds, rfl, sm, fg, p, hp, q⟩ := h
    exact hq f L ns ws G H ds _ fg p hp sm fun v B r z => q v B r z
theorem sc_way : FnScope ["_law_feed_here", "_law_page", "_law_names", "_law_kinds", "_law_gaps", "_law_spots", "_law_path", "_law_left", "_law_lap", "_law_gap", "_law_rows"] ["_law_feed_here", "_law_page", "_law_names", "_law_kinds", "_law_gaps"] (defScope s__law_way) := ⟨rfl, rfl, rfl, by decide +kernel, rfl, by decide +kernel, by decide +kernel⟩
def entD (m : Int × List PyData) : PyData := .tuple [.int m.1, .tuple m.2]
/-- a way of the law over a page of n rows, at most left rows -/
structure WayG (n left : Nat) (ms : List (Int × List PyData)) : Prop where
  up : (ms.map (·.1)).Pairwise (· < ·)
  at_ : ∀ m ∈ ms, 0 ≤ m.1 ∧ m.1 ≤ n ∧ m.2 ≠ [] ∧ ∀ e ∈ m.2, rowOk e
  left : (ms.map (·.2.length)).sum ≤ left
def preWay (ds : List PyData) : Prop := ∃ (es : List PyData) (n k : Str × Str), ds = [.tuple es, pair2 n, pair2 k, .list ((List.range (es.length + 1)).map fun i => .int (i : Nat))] ∧ n ∈ NP ∧ k ∈ KP ∧ es.length ≤ 60
def zWay (K : PySem.W.Frag) (ds : List PyData) : ZP := fun X v => ∀ es, ds.head? = some (.tuple es) → ∃ ms, PlainD K X v (ms.map entD) ∧ WayG es.length (58 - es.length) ms
theorem rowOk_all {d : PyData} (h : rowOk d) : isRowD d = true ∧ fine 3 d = true ∧ d.shown.length ≤ 60 := by
  obtain ⟨c, n, k, hc, hn, hk, rfl⟩ := h
  have q := rows_ok
  rw [List.all_eq_true] at q
  have q := q c hc
  rw [List.all_eq_true] at q
  have q := q n hn
  rw [List.all_eq_true] at q
  have q := q k hk
  rw [Bool.and_eq_true, Bool.and_eq_true, decide_eq_true_eq] at q
  exact ⟨q.1.1, q.1.2, q.2⟩
theorem fine_rows {rs : List PyData} (h : ∀ e ∈ rs, rowOk e) (z : rs.length ≤ 4000) : Fine (.list rs) ∧ Fine (.tuple rs) := by
  have q : (decide (rs.length ≤ 4000) && rs.all (fine 3)) = true := by
    rw [Bool.and_eq_true, decide_eq_true_eq, List.all_eq_true]
    exact ⟨z, fun e he => (rowOk_all (h e he)).2.1⟩
  exact ⟨⟨4, by decide, q⟩, ⟨4, by decide, q⟩⟩
theorem fine_nil : Fine (.list []) := ⟨1, by decide, rfl⟩
theorem eqv_nil {rs : List PyData} (h : PyData.eqv (.list rs) (.list []) = false) : rs ≠ [] := fun e => by
  rw [e] at h
  exact absurd h (by decide +kernel)
theorem entD_mem {ns : List Int} {i : Nat} {d : PyData} (h : (ns.map PyData.int)[i]? = some d) : ∃ g, ns[i]? = some g ∧ d = .int g := by
  rw [List.getElem?_map] at h
  cases hz : ns[i]? with
  | none => rw [hz] at h; cases h
  | some z =>
    rw [hz] at h
    exact ⟨z, rfl, (Option.some.inj h).symm⟩
theorem cl_way (T : Tl P K mg C fI cc) : Cl P w K mg base 3 "_law_way" (spFZ K preWay (zWay K)) := by
  refine cl_fz (ps := ["_law_feed_here", "_law_page", "_law_names", "_law_kinds", "_law_gaps"]) T.d_way (fun _ _ _ _ _ _ us hl => match us, hl with | [_, _, _, _, _], _ => rfl) sc_way (fun ds ⟨es, n, k, e, _⟩ => by rw [e]; rfl) fun g cdv A outer s H E hr => ⟨_,
    (pss_cons (ps_par3 (i := 5) (j := 6) (l := 7) rfl sc_way.nd rfl rfl rfl (by decide) (by decide) (by decide) rfl rfl rfl (pa_cons (pe_lst pa_nil) (pa_cons (pe_lst pa_nil) (pa_cons (pe_callB (call_max2 rfl) rfl T.n_max boot_maxB (pa_cons pe_int (pa_cons (pe_op op_sub pe_int (pe_callB call_len rfl T.z.y.x.n_len PySem.boot_len (pa_cons (pv 1) pa_nil))) pa_nil))) pa_nil))) rfl) (pss_cons (ps_for PassesOwn.never rfl (pi_range1 rfl T.z.n_range (pa_cons (pe_ifExp (pt_cmpR (op_neD hr.units) (pv 4) (pe_lst pa_nil) (nomark _)) (pe_k (cl_draw T) hr (by decide) rfl (pa_cons (pv 0) (pa_cons pe_int pa_nil))) pe_int) pa_nil)) (pg_name (i := 8) sc_way.nd rfl (by first | exact Or.inl rfl | exact Or.inr rfl)) (pss_one (ps_expr (pe_bm PySem.F.plainAttrs_list PySem.F.slot_list_append PySem.F.type_list_append mt_append (pv 5) (pa_cons (pe_k (cl_any T) hr (by decide) rfl (pa_cons (pv 0) (pa_cons (pv 4) pa_nil))) pa_nil))))) (pss_cons (ps_for PassesOwn.never rfl (pi_list (pe_callB (cr_sortedSet rfl) rfl T.n_sorted boot_sortedB (pa_cons (pe_callTy (cr_setL rfl) rfl T.n_set boot_setT (pa_cons (pv 5) pa_nil)) pa_nil))) (pg_name (i := 9) sc_way.nd rfl (by first | exact Or.inl rfl | exact Or.inr rfl)) (pss_cons (ps_set (i := 10) sc_way.nd rfl (by first | exact Or.inl rfl | exact Or.inr rfl) (pe_slice sl_list (pe_lc (own := [("_law_lap", 8)]) (te := tCall (spD K preRow rowF) [] E0 (tCons (tCall (spF K preAny sAny) [] E0 (tCons (tVar 0) (tCons (tCall (spD K (fun ds => ds = []) fun _ => strsD menuL) [] E0 tNil) tNil))) (tCons (tVar 2) (tCons (tVar 3) tNil)))) rfl sc_way.nd (pi_range1 rfl T.z.n_range (pa_cons (pe_op op_add pe_int (pe_k (cl_draw T) hr (by decide) rfl (pa_cons (pv 0) (pa_cons pe_int pa_nil)))) pa_nil)) (blkOk_by (N := ["_law_feed_here", "_law_page", "_law_names", "_law_kinds", "_law_gaps", "_law_spots", "_law_path", "_law_left", "_law_lap", "_law_gap", "_law_rows"]) (sc := defScope s__law_way) (by decide +kernel)) (fun _ _ _ _ _ => (pg_name (i := 8) sc_way.nd rfl (by first | exact Or.inl rfl | exact Or.inr rfl))) (fun _ _ _ _ _ => pts_nil) (fun _ _ _ _ _ => (pe_k (cl_row T) hr (by decide) rfl (pa_cons (pe_k (cl_any T) hr (by decide) rfl (pa_cons (pv 0) (pa_cons (pe_k0 (cl_menu T) hr (by decide) rfl) pa_nil))) (pa_cons (pv 2) (pa_cons (pv 3) pa_nil)))))) po_none (po_some (pv 7)))) (pss_cons (ps_set (i := 7) sc_way.nd rfl (by first | exact Or.inl rfl | exact Or.inr rfl) (pe_op op_sub (pv 7) (pe_callB call_len rfl T.z.y.x.n_len PySem.boot_len (pa_cons (pv 10) pa_nil)))) (pss_one (ps_aug (i := 6) sc_way.nd rfl (by first | exact Or.inl rfl | exact Or.inr rfl) (pe_ifExp (pt_cmpR (op_neD hr.units) (pv 10) (pe_lst pa_nil) (nomark _)) (pe_lst (pa_cons (pe_tup (pa_cons (pv 9) (pa_cons (pe_callTy call_tuple_of rfl T.z.y.x.n_tuple boot_tupleT (pa_cons (pv 10) pa_nil)) pa_nil))) pa_nil)) (pe_lst pa_nil)) iopE))))) (pss_one (ps_ret (pe_callTy call_tupleF rfl T.z.y.x.n_tuple boot_tupleT (pa_cons (pv 6) pa_nil))))))), fun f L ns ws G A ds Dd F p hp hA q => ?_⟩
  obtain ⟨es, n, k, rfl, hn, hk, hz⟩ := hp
  cases p with
  | @cons v1 _ _ _ p1 p =>
  cases p with
  | @cons v2 _ _ _ p2 p =>
  cases p with
  | @cons v3 _ _ _ p3 p =>
  cases p with
  | @cons v4 _ _ _ p4 p =>
  cases p
  have W0 := Wk.start (R := RF f L) (Rl.ext hA)
  have u0 : ∀ {v d}, Dp K G v d → Dp K (gr G A [] A) v d := fun h => dp_up (gr_base W0) _ _ h
  -- spots, path, left
  refine w_three ?_
  refine w_lst (K := K) W0 (es := []) a_nil (by decide) fun S A1 nS W1 r1 lS _ => ?_
  refine w_lst (K := K) W1 (es := []) a_nil (by decide) fun D A2 nD W2 r2 lD oD => ?_
  have lS := oD S _ lS
  have nSD : S ≠ D := fun e => nD (by rw [e]; exact List.mem_cons_self ..)
  have r02 : RF f L (gr G A [] A) (gr G A [D, S] A2) := Rl.trans r1 r2
  refine w_ev (K := K) W2 (S := (· = .int ((58 - es.length : Nat) : Int))) ?_ fun v7 d A3 W3 r3 e7 p7 => ?_
  · refine (e_max2 (a := 0) (b := 58 - (es.length : Int)) e_int (e_op1 e_int (e_len (e_var (i := 1) rfl (dp_up (fun a o t z => Rl.stay r02 t z) _ _ (u0 p1))) (.inl ⟨es, rfl, rfl⟩)) (rs_I0 fun X => .int _))).to ?_
    congr 1
    split <;> omega
  subst e7
  refine ⟨.ref S, .ref D, v7, rfl, ?_⟩
  have lS := lS.next r3
  have lD := lD.next r3
  have r03 : RF f L (gr G A [] A) (gr G A [D, S] A3) := Rl.trans r02 (gr_r W2 r3)
  have dr : ∀ {σ : L2.St} {X : Hp} {Ds : List Addr} {te : TE} {m : Int}, Wk (RF f L) G A Ds X → σ[0]? = some (some (.ref f)) → EvS (RF f L) K te σ (gr G A Ds X) (· = .int m) → 0 < m → m < 1073741824 → EvS (RF f L) K (tCall (spDraw K) [] E0 (tCons (tVar 0) (tCons te tNil))) σ (gr G A Ds X) (fun d => ∃ k : Nat, d = .int k ∧ (k : Int) < m) := fun W h he h0 h1 => e_draw h (F.gr W) he h0 h1
  have gapsE : ∀ {X : Hp} {Ds : List Addr}, RF f L (gr G A [] A) (gr G A Ds X) → Dp K (gr G A Ds X) v4 (.list ((List.range (es.length + 1)).map fun i => .int (i : Nat))) := fun r => dp_up (fun a o t z => Rl.stay r t z) _ _ (u0 p4)
  refine ws_for (K := K) W3 (Sn := (· ≤ 3)) (ig_range (e_if (Sb := fun _ => True) (t_testS (EvS.imp (e_op1 (e_var (i := 4) rfl (gapsE r03)) (e_lst1 a_nil (by decide)) (rs_ne (sh_gaps _) (sh_ints []))) fun d e => ⟨_, e, trivial⟩)) (fun _ => EvS.imp (dr (m := 4) W3 rfl e_int (by decide) (by decide)) fun d ⟨k, e, h⟩ => ⟨k, e, by omega⟩) fun _ => EvS.imp e_int fun d e => ⟨0, e, by decide⟩) fun n h => by omega)
    (fun _ i σ' X => ∃ a8 a9 a10 ks, σ' = [some (.ref f), some v1, some v2, some v3, some v4, some (.ref S), some (.ref D), some v7, a8, a9, a10] ∧ Lst K G A [D, S] X S (ks.map .int) ∧ Lst K G A [D, S] X D [] ∧ (∀ k ∈ ks, (0 : Int) ≤ k ∧ k ≤ es.length) ∧ ks.length = i)
    (fun n B _ WB r => ⟨none, none, none, [], rfl, lS.next r, lD.next r, (fun k h => by cases h), rfl⟩)
    (fun nn i d x σ' X hnn hi WX rX ⟨a8, a9, a10, ks, e, lS, lD, hk, hl⟩ sd px N hN => ?_) fun nn σ' X hnn WX rX ⟨a8, a9, a10, ks, e, lS, lD, hks, hl⟩ => ?_
  · subst e
    refine w_app (K := K) WX (i := 5) rfl (List.mem_cons_of_mem _ (List.mem_cons_self ..)) lS (by rw [List.length_map]; omega) (e_any rfl (F.gr WX) (e_var (i := 4) rfl (gapsE (Rl.trans r03 rX))) (by rw [List.length_map, List.length_range]; omega) (by rw [List.length_map, List.length_range]; omega)) fun B e WB rB me lS' oth => hN _ _ WB rB ?_
    obtain ⟨j, hj, rfl⟩ := List.mem_map.1 me
    have hj := List.mem_range.1 hj
    refine ⟨_, _, _, ks ++ [(j : Int)], rfl, by rw [List.map_append]; exact lS', oth D _ (Ne.symm nSD) lD, fun k h => ?_, by rw [List.length_append, hl]; rfl⟩
    rcases List.mem_append.1 h with h | h
    · exact hk k h
    · rw [List.mem_singleton.1 h]
      omega
  subst e
  have sub1 : ∀ a ∈ [D], a ∈ [D, S] := fun a m => by rw [List.mem_singleton.1 m]; exact List.mem_cons_self ..
  have pS := lS.let WX (List.mem_cons_of_mem _ (List.mem_cons_self ..)) sub1 (fun m => nSD (List.mem_singleton.1 m))
  have lD := lD.sub sub1
  have W4 := WX.sub sub1
  have gX : Dp K (gr G A [D] X) v2 (pair2 n) ∧ Dp K (gr G A [D] X) v3 (pair2 k) ∧ Dp K (gr G A [D] X) v7 (.int ((58 - es.length : Nat) : Int)) := ⟨dp_up (gr_sub sub1) _ _ (dp_up (fun a o t z => Rl.stay (Rl.trans r03 rX) t z) _ _ (u0 p2)), dp_up (gr_sub sub1) _ _ (dp_up (fun a o t z => Rl.stay (Rl.trans r03 rX) t z) _ _ (u0 p3)), dp_up (gr_sub sub1) _ _ (dp_up (fun a o t z => Rl.stay rX t z) _ _ p7)⟩
  obtain ⟨q2, q3, q7⟩ := gX
  refine wx_for (K := K) W4 (Sx := fun ds => ∃ ns : List Int, ds = ns.map .int ∧ ns.Pairwise (· < ·) ∧ (∀ k, k ∈ ns ↔ k ∈ ks) ∧ ns.length ≤ ks.length) (ixw_list (e_sset (e_var (i := 5) rfl pS) (by omega)))
    (fun ds i σ' X => ∃ a8 a9 a10 vl, ∃ (l : Nat) (ms : List (Int × List PyData)), σ' = [some (.ref f), some v1, some v2, some v3, some v4, some (.ref S), some (.ref D), some vl, a8, a9, a10] ∧ Dp K (gr G A [D] X) vl (.int (l : Nat)) ∧ Lst K G A [D] X D (ms.map entD) ∧ (ms.map (·.1)).Pairwise (· < ·) ∧
      (∀ m ∈ ms, (0 : Int) ≤ m.1 ∧ m.1 ≤ (es.length : Int) ∧ m.2 ≠ [] ∧ ∀ e ∈ m.2, rowOk e) ∧ (∀ m ∈ ms, ∃ j < i, ds[j]? = some (.int m.1)) ∧ (ms.map (·.2.length)).sum + l ≤ 58 - es.length ∧ ms.length ≤ i)
    (fun ds B _ WB r => ⟨_, _, _, v7, _, [], rfl, dp_up (gr_next r) _ _ q7, lD.next r, .nil, (fun m h => by cases h), (fun m h => by cases h), (by show 0 + (58 - es.length) ≤ _; omega), Nat.zero_le _⟩)
    (fun ds i d y σ' X2 ⟨gs, eg, hgp, hgm, hgl⟩ hi WY rY ⟨a8', a9', a10', vl, l, ms, e, pl, lD, hp1, hp2, hp3, hp4, hp5⟩ sd py N hN => ?_) fun ds σ' X2 _ WY rY ⟨a8', a9', a10', vl, l, ms, e, pl, lD, hp1, hp2, hp3, hp4, hp5⟩ => ?_
  · subst e eg
    obtain ⟨g, hg, rfl⟩ := entD_mem sd
    have r2 : ∀ {v d}, Dp K (gr G A [D] X) v d → Dp K (gr G A [D] X2) v d := fun h => dp_up (fun a o t z => Rl.stay rY t z) _ _ h
    refine ws_set (K := K) WY (S := fun d => ∃ rs : List PyData, d = .list rs ∧ (∀ e ∈ rs, rowOk e) ∧ rs.length ≤ l ∧ rs.length ≤ 3) (EvS.imp (e_slLS (Sl := fun rs => (∀ e ∈ rs, rowOk e) ∧ rs.length ≤ 3) (EvS.imp (e_lc (Sd := fun i d => d = .int i) (Sn := fun n => n ≤ 3) (fun _ es => ∀ e ∈ es, rowOk e) (it_range (EvS.imp (e_opI (g := fun i j => i + j) (p := (· = 1)) (q := fun i => 0 ≤ i ∧ i < 3) (r := fun i => 1 ≤ i ∧ i ≤ 3) (e_intS rfl) (EvS.imp (dr (m := 3) WY rfl e_int (by decide) (by decide)) fun d ⟨k, e, h⟩ => ⟨k, e, by omega, h⟩) fun i j h1 h2 => by rw [h1]; omega) fun d ⟨i, e, h1, h2⟩ => ⟨i.toNat, by rw [e, Int.toNat_of_nonneg (by omega)], by omega⟩) fun n h => by omega) (fun n h => by omega) (fun e h => by cases h) fun i d x es' G' hG sd px iv le => ?_) fun d ⟨n', es', h1, e, h2, h3⟩ => ⟨es', e, h2, by omega⟩) o_none (o_some (e_var (i := 7) rfl pl))) fun d ⟨rs, lo, hi, ⟨h1, h2⟩, e1, e2, e3⟩ => ⟨rs.take l, by rw [e3, e1, e2, cutD_to], fun e he => h1 e (List.mem_of_mem_take he), by rw [List.length_take]; omega, by rw [List.length_take]; omega⟩) fun v10 d A5 W5 r5 ⟨rs, e5, hrs, hrl, hr3⟩ p10 => ?_
    · refine ⟨_, b_name (j := 8), rfl, (· = true), (fun A hA Q q => q true A (Rl.refl A) rfl), fun _ => ?_, fun h => by cases h⟩
      refine EvS.imp (e_callS (S := fun ds d => d = rowF ds) (Sl := fun ds => ∃ z ∈ menuL, ds = [.str z, pair2 n, pair2 k]) (EvA.imp (a_cons (e_any (es := menuL.map .str) rfl ((F.gr WY).to hG) (e_callD (F := fun _ => strsD menuL) (ds := []) a_nil rfl) (by decide) (by decide)) (a_one (e_var (i := 2) rfl (dp_up (fun a o t z => Rl.stay hG t z) _ _ (r2 q2))) (a_one (e_var (i := 3) rfl (dp_up (fun a o t z => Rl.stay hG t z) _ _ (r2 q3))) a_nil))) fun ds ⟨d, es1, e1, m, e2⟩ => ?_) fun ds ⟨z, hz, e⟩ => ⟨z, n, k, e, menu_codes z hz⟩) fun d ⟨ds, ⟨z, hz, e⟩, e2⟩ => ?_
      · obtain ⟨z, hz, rfl⟩ := List.mem_map.1 m
        exact ⟨z, hz, by rw [e1, e2]⟩
      · intro e' he'
        rcases List.mem_append.1 he' with h | h
        · exact iv e' h
        · rw [List.mem_singleton.1 h, e2, e]
          exact ⟨z, n, k, menu_codes z hz, hn, hk, rfl⟩
    subst e5
    have pl5 := dp_up (gr_next r5) _ _ pl
    refine ws_set (K := K) W5 (S := (· = .int ((l - rs.length : Nat) : Int))) (EvS.to (e_op1 (e_var (i := 7) rfl pl5) (e_len (e_var (i := 10) rfl p10) (.inr (.inl ⟨rs, rfl, rfl⟩))) (rs_I0 (e := .int ((l : Int) - rs.length)) fun X => .int _)) (by congr 1; omega)) fun vl' d A6 W6 r6 e6 p7' => ?_
    subst e6
    have p106 := dp_up (gr_next r6) _ _ p10
    have py6 : Dp K (gr G A [D] A6) y (.int g) := dp_up (gr_next r6) _ _ (dp_up (gr_next r5) _ _ py)
    have lD6 := (lD.next r5).next r6
    refine w_augZ (K := K) (i := 6) (S := fun fs => fs = [] ∨ (rs ≠ [] ∧ fs = [entD (g, rs)])) W6 rfl (List.mem_singleton.2 rfl) lD6 (z_if (Sb := fun b => b = !PyData.eqv (.list rs) (.list [])) (t_test (e_op1 (e_var (i := 10) rfl p106) (e_lst1 a_nil (by decide)) (rs_ne (fine_rows hrs (by omega)).1.shaped fine_nil.shaped))) (fun hb => z_lst (EvA.imp (a_one (e_tup1 (a_one (e_var (i := 9) rfl py6) (a_one (e_cb1 (ds := [.list rs]) (a_one (e_var (i := 10) rfl p106) a_nil) rc_tuple) a_nil)) (by show 2 ≤ 100000; decide)) a_nil) fun ds e => .inr ⟨eqv_nil ((Bool.not_eq_true' _).mp (Eq.symm hb)), e⟩) fun fs h => ?_) (fun _ => z_lst (EvA.imp a_nil fun ds e => .inl e) fun fs h => ?_) zl_up) (fun fs h => ?_) fun B fs WB rB hfs lD' oth => hN _ _ WB (Rl.trans (gr_r WY r5) (Rl.trans (gr_r W5 r6) rB)) ?_
    · rcases h with rfl | ⟨_, rfl⟩
      · exact Nat.zero_le _
      · show 1 ≤ 100000
        decide
    · rcases h with rfl | ⟨_, rfl⟩
      · exact Nat.zero_le _
      · show 1 ≤ 100000
        decide
    · rw [List.length_map]
      rcases h with rfl | ⟨_, rfl⟩
      · show ms.length + 0 ≤ 100000
        rw [List.length_map] at hi
        omega
      · show ms.length + 1 ≤ 100000
        rw [List.length_map] at hi
        omega
    · have pB : Dp K (gr G A [D] B) vl' (.int ((l - rs.length : Nat) : Int)) := dp_up (fun a o t z => Rl.stay rB t z) _ _ p7'
      rcases hfs with rfl | ⟨hne, rfl⟩
      · rw [List.append_nil] at lD'
        exact ⟨_, _, _, vl', _, ms, rfl, pB, lD', hp1, hp2, fun m hm => let ⟨j, h1, h2⟩ := hp3 m hm; ⟨j, by omega, h2⟩, by omega, by omega⟩
      · have gm := (hgm g).1 (List.mem_of_getElem? hg)
        have hgb := hks g gm
        refine ⟨_, _, _, vl', _, ms ++ [(g, rs)], rfl, pB, by rw [List.map_append]; exact lD', ?_, fun m hm => ?_, fun m hm => ?_, ?_, ?_⟩
        · rw [List.map_append, List.pairwise_append]
          refine ⟨hp1, List.pairwise_singleton _ _, fun a ha b hb => ?_⟩
          rw [List.mem_singleton.1 hb]
          obtain ⟨m, hm, rfl⟩ := List.mem_map.1 ha
          obtain ⟨j, hj, e⟩ := hp3 m hm
          obtain ⟨g', hg', e'⟩ := entD_mem e
          cases e'
          rw [List.pairwise_iff_getElem] at hgp
          obtain ⟨l1, e1⟩ := List.getElem?_eq_some_iff.1 hg'
          obtain ⟨l2, e2⟩ := List.getElem?_eq_some_iff.1 hg
          have := hgp j i l1 l2 hj
          rw [e1, e2] at this
          exact this
        · rcases List.mem_append.1 hm with h | h
          · exact hp2 m h
          · rw [List.mem_singleton.1 h]
            exact ⟨hgb.1, hgb.2, hne, hrs⟩
        · rcases List.mem_append.1 hm with h | h
          · obtain ⟨j, h1, h2⟩ := hp3 m h
            exact ⟨j, by omega, h2⟩
          · rw [List.mem_singleton.1 h]
            exact ⟨i, by omega, sd⟩
        · rw [List.map_append, List.sum_append]
          show _ + (rs.length + 0) + _ ≤ _
          omega
        · rw [List.length_append]
          show ms.length + 1 ≤ i + 1
          omega
  subst e
  have pD := lD.let WY (List.mem_singleton.2 rfl) (Ds' := []) (fun a m => by cases m) (fun m => by cases m)
  refine w_evZ WY.free (z_tupF (e_var (i := 6) rfl pD)) (fun X Y v up z => PlainD.upA up z) fun v B WB r z => q v B WB.r fun es' he => ?_
  cases he
  exact ⟨ms, z.up gr_own, hp1, hp2, by omega⟩
end
end K25
end
section
set_option maxRecDepth 100000
set_option maxHeartbeats 4000000
namespace K25
open PySem PySem.Spec PyProof.Rows L2
section
variable {R : Hp → Hp → Prop} [Rl R] {K : PySem.W.Frag} {σ : L2.St} {G : Hp} {te : TE}
theorem ent_ok (ms : List (Int × List PyData)) : ∀ d ∈ ms.map entD, EntOk d := fun d h => by
  obtain ⟨m, _, rfl⟩ := List.mem_map.1 h
  exact ⟨m.1, m.2, rfl⟩
theorem ent_m (ms : List (Int × List PyData)) : (ms.map entD).map entM = ms := by
  rw [List.map_map]
  exact (List.map_congr_left fun m _ => rfl).trans (List.map_id ms)
theorem z_dictL {ms : List (Int × List PyData)} (h : EvS R K te σ G (· = .list (ms.map entD))) (n : (ms.map (·.1)).Nodup) :
    EvZ R (tCB (fun xs H Q => ∃ (a : Addr) (ps : List Addr) (kvs : List (Key × V)), xs = [.ref a] ∧ SqL K H a (ps.map V.ref) ∧ Paired (fun p kv => SqT K H p [kV kv.1, kv.2]) ps kvs ∧ ∀ p, H p = none → Q (.ref p) (upd H p (.dK (mergeK [] kvs)))) (tCons te tNil)) σ G (DictD K ms) := fun A hA Q q =>
  h A hA _ fun v d B r e p => by
    subst e
    cases p with
    | @lst a xs _ hs ha =>
      obtain ⟨ps, kvs, e1, e2, e3⟩ := pairs_kv _ _ ha (ent_ok ms)
      rw [ent_m] at e3
      subst e1
      have e2' : Paired (fun p kv => SqT K B p [kV kv.1, kv.2]) ps kvs := by
        clear ha e3 hs
        induction e2 with
        | nil => exact .nil
        | cons h t ih => exact .cons (sqt_up up_sub h) ih
      refine ⟨a, ps, kvs, rfl, sql_up up_sub hs, e2', fun p np => ?_⟩
      rw [merge_new kvs [] (by rw [List.nil_append]; exact kv_nodup e3 n)]
      exact q (.ref p) _ (Rl.new r (Rl.dom r np)) ⟨p, kvs, rfl, own_at (R := R) r np, KvD.up (up_new (R := R) r np) e3⟩
theorem dictD_up {ms : List (Int × List PyData)} : ∀ X Y v, (∀ a o, X a = some o → Y a = some o) → DictD K ms X v → DictD K ms Y v := fun X Y v up ⟨p, kvs, e, h1, h2⟩ => ⟨p, kvs, e, up p _ h1, KvD.up (fun a o _ e => up a o e) h2⟩
end
def oldP (n : Nat) (ms : List (Int × List PyData)) (g : Nat) : List PyData := List.replicate ((look ms g).getD []).length .none ++ (if g < n then [.int (g : Nat)] else [])
def oldsL (n : Nat) (ms : List (Int × List PyData)) : List PyData := (List.range (n + 1)).flatMap (oldP n ms)
def grownF : List PyData → PyData
  | [.tuple es, d] => .tuple [.tuple (grownL es (wayL d)), .list (oldsL es.length (wayL d))]
  | _ => .none
def preGr (ds : List PyData) : Prop := ∃ es ms, ds = [.tuple es, .tuple (ms.map entD)] ∧ (ms.map (·.1)).Nodup ∧ es.length ≤ 4000 ∧ (grownL es ms).length ≤ 90000
theorem flat_le {F : Nat → List PyData} {i n : Nat} (h : i < n) : ((List.range i).flatMap F).length + (F i).length ≤ ((List.range n).flatMap F).length := by
  obtain ⟨k, rfl⟩ : ∃ k, n = i + 1 + k := ⟨n - (i + 1), by omega⟩
  rw [List.range_add, List.range_succ, List.flatMap_append, List.flatMap_append]
  simp
theorem flat_succ {F : Nat → List PyData} {i : Nat} : (List.range (i + 1)).flatMap F = (List.range i).flatMap F ++ F i := by
  rw [List.range_succ, List.flatMap_append]
  simp
theorem old_len {es : List PyData} {ms : List (Int × List PyData)} {i : Nat} : (oldP es.length ms i).length = (partD es ms i).length := by
  unfold oldP partD
  rw [List.length_append, List.length_append, List.length_replicate, List.length_take, List.length_drop]
  by_cases h : i < es.length
  · rw [if_pos h, List.length_singleton]
    omega
  · rw [if_neg h, List.length_nil]
    omega
theorem old_flat {es : List PyData} {ms : List (Int × List PyData)} : ∀ i, ((List.range i).flatMap (oldP es.length ms)).length = ((List.range i).flatMap (partD es ms)).length
  | 0 => rfl
  | i + 1 => by rw [flat_succ, flat_succ, List.length_append, List.length_append, old_flat i, old_len]
section
variable {P : Program} {w : World} {K : PySem.W.Frag} {mg : Str → Option Value} {base : Heap} {C fI cc : Addr}
theorem sc_lgrown : FnScope ["_law_page", "_law_path", "_law_rows", "_law_olds", "_law_put", "_law_gap", "_law_entry"] ["_law_page", "_law_path"] (defScope s__law_grown) := ⟨rfl, rfl, rfl, by decide +kernel, rfl, by decide +kernel, by decide +kernel⟩
theorem cl_lgrown (T : Tl P K mg C fI cc) : Cl P w K mg base 1 "_law_grown" (spD K preGr grownF) := by
  refine cl_d (ps := ["_law_page", "_law_path"]) T.d_grown (fun _ _ _ _ _ _ us hl => match us, hl with | [_, _], _ => rfl) sc_lgrown (fun ds ⟨es, ms, e, _⟩ => by rw [e]; rfl) fun g cdv A outer s H E hr => ⟨_,
    (pss_cons (ps_par3 (i := 2) (j := 3) (l := 4) rfl sc_lgrown.nd rfl rfl rfl (by decide) (by decide) (by decide) rfl rfl rfl (pa_cons (pe_lst pa_nil) (pa_cons (pe_lst pa_nil) (pa_cons (pe_callTy (call_dictP rfl) rfl T.z.n_dict boot_dictT (pa_cons (pe_callTy call_list_of rfl T.n_list boot_listT (pa_cons (pv 1) pa_nil)) pa_nil)) pa_nil))) rfl) (pss_cons (ps_for PassesOwn.never rfl (pi_range1 rfl T.z.n_range (pa_cons (pe_op op_add (pe_callB call_len rfl T.z.y.x.n_len PySem.boot_len (pa_cons (pv 0) pa_nil)) pe_int) pa_nil)) (pg_name (i := 5) sc_lgrown.nd rfl (by first | exact Or.inl rfl | exact Or.inr rfl)) (pss_cons (ps_for PassesOwn.never rfl (pi_tup (pe_dget2 (un1 hr.units) (pv 4) (pv 5) (pe_tup pa_nil) ⟨rfl, rfl, rfl, rfl⟩)) (pg_name (i := 6) sc_lgrown.nd rfl (by first | exact Or.inl rfl | exact Or.inr rfl)) (pss_cons (ps_expr (pe_bm PySem.F.plainAttrs_list PySem.F.slot_list_append PySem.F.type_list_append mt_append (pv 2) (pa_cons (pv 6) pa_nil))) (pss_one (ps_expr (pe_bm PySem.F.plainAttrs_list PySem.F.slot_list_append PySem.F.type_list_append mt_append (pv 3) (pa_cons pe_non pa_nil)))))) (pss_one (ps_if (pt_cmpR op_lt (pv 5) (pe_callB call_len rfl T.z.y.x.n_len PySem.boot_len (pa_cons (pv 0) pa_nil)) (nomark _)) (pss_cons (ps_expr (pe_bm PySem.F.plainAttrs_list PySem.F.slot_list_append PySem.F.type_list_append mt_append (pv 2) (pa_cons (pe_ix ix_tup (pv 0) (pv 5) (fun _ _ => rfl)) pa_nil))) (pss_one (ps_expr (pe_bm PySem.F.plainAttrs_list PySem.F.slot_list_append PySem.F.type_list_append mt_append (pv 3) (pa_cons (pv 5) pa_nil))))) pss_nil)))) (pss_one (ps_ret (pe_tup (pa_cons (pe_callTy call_tuple_of rfl T.z.y.x.n_tuple boot_tupleT (pa_cons (pv 2) pa_nil)) (pa_cons (pv 3) pa_nil))))))), fun vs G ds p hp => ?_⟩
  obtain ⟨es, ms, rfl, hnd, hz, hg⟩ := hp
  cases p with
  | @cons v1 _ _ _ p1 p =>
  cases p with
  | @cons v2 _ _ _ p2 p =>
  cases p
  intro A hA Dd q
  have W0 := Wk.start (R := Same) hA
  refine w_three ?_
  refine w_lst (K := K) W0 (es := []) a_nil (by decide) fun Ra A1 nR W1 r1 lR _ => ?_
  refine w_lst (K := K) W1 (es := []) a_nil (by decide) fun Oa A2 nO W2 r2 lO oR => ?_
  have lR := oR Ra _ lR
  have nRO : Ra ≠ Oa := fun e => nO (by rw [e]; exact List.mem_cons_self ..)
  have r02 : Same (gr G A [] A) (gr G A [Oa, Ra] A2) := Rl.trans (R := Same) r1 r2
  have u0 : ∀ {v d}, Dp K G v d → Dp K (gr G A [] A) v d := fun h => dp_up (gr_base W0) _ _ h
  refine w_evZ W2 (z_dictL (ms := ms) (e_cb1 (ds := [.tuple (ms.map entD)]) (a_one (e_var (i := 1) rfl (dp_up (fun a o t z => r02 a o z) _ _ (u0 p2))) a_nil) (rc_list _ (.inr rfl))) hnd) dictD_up fun v4 A3 W3 r3 z4 => ?_
  refine ⟨.ref Ra, .ref Oa, v4, rfl, ?_⟩
  have lR := lR.next r3
  have lO := lO.next r3
  have r03 : Same (gr G A [] A) (gr G A [Oa, Ra] A3) := Rl.trans (R := Same) r02 (gr_r W2 r3)
  have q1 : Dp K (gr G A [Oa, Ra] A3) v1 (.tuple es) := dp_up (fun a o t z => r03 a o z) _ _ (u0 p1)
  refine ws_for (K := K) W3 (Sn := (· = es.length + 1)) (ig_range (EvS.imp (e_op1 (e_len (e_var (i := 0) rfl q1) (.inl ⟨es, rfl, rfl⟩)) e_int (rs_I0 (e := .int ((es.length : Int) + 1)) fun X => .int _)) fun d e => ⟨es.length + 1, by rw [e]; rfl, rfl⟩) fun n h => by omega)
    (fun _ i σ' X => ∃ a5 a6, σ' = [some v1, some v2, some (.ref Ra), some (.ref Oa), some v4, a5, a6] ∧ Lst K G A [Oa, Ra] X Ra ((List.range i).flatMap (partD es ms)) ∧ Lst K G A [Oa, Ra] X Oa ((List.range i).flatMap (oldP es.length ms)))
    (fun n B _ WB r => ⟨none, none, rfl, lR.next r, lO.next r⟩)
    (fun nn i d x σ' X hnn hi WX rX ⟨a5, a6, e, lR, lO⟩ sd px N hN => ?_) fun nn σ' X hnn WX rX ⟨a5, a6, e, lR, lO⟩ => ?_
  · subst e hnn sd
    have hi' : i ≤ es.length := by omega
    have zX : DictD K ms (gr G A [Oa, Ra] X) v4 := dictD_up _ _ v4 rX z4
    have tot := flat_le (F := partD es ms) hi
    have hpl : (partD es ms i).length = ((look ms i).getD []).length + (if i < es.length then 1 else 0) := by
      unfold partD
      rw [List.length_append, List.length_take, List.length_drop]
      split <;> omega
    have hg' : ((List.range (es.length + 1)).flatMap (partD es ms)).length ≤ 90000 := hg
    refine wx_for (K := K) WX (Sx := (· = (look ms i).getD [])) (ixw_tup (EvS.imp (e_dget2 (i := 4) rfl zX (e_var (i := 5) rfl px) (e_tup1 a_nil (by decide))) fun d e => ⟨_, e, rfl⟩))
      (fun r j σ' X => ∃ a6, σ' = [some v1, some v2, some (.ref Ra), some (.ref Oa), some v4, some x, a6] ∧ Lst K G A [Oa, Ra] X Ra ((List.range i).flatMap (partD es ms) ++ r.take j) ∧ Lst K G A [Oa, Ra] X Oa ((List.range i).flatMap (oldP es.length ms) ++ List.replicate j .none))
      (fun r B _ WB rB => ⟨a6, rfl, by rw [List.take_zero, List.append_nil]; exact lR.next rB, by rw [List.replicate_zero, List.append_nil]; exact lO.next rB⟩)
      (fun r j d y σ' X2 hr hj WY rY ⟨a6, e, lR, lO⟩ sd py N2 hN2 => ?_) fun r σ' X2 hr WY rY ⟨a6, e, lR, lO⟩ => ?_
    · subst e hr
      refine ws_app (K := K) (i := 2) (S := (· = d)) WY rfl (List.mem_cons_of_mem _ (List.mem_cons_self ..)) lR (by rw [List.length_append, List.length_take]; omega) (e_var (i := 6) rfl py) fun B e WB rB ee lR' oth => ?_
      subst ee
      have lO := oth Oa _ (Ne.symm nRO) lO
      refine w_app (K := K) (i := 3) (S := (· = .none)) WB rfl (List.mem_cons_self ..) lO (by rw [List.length_append, List.length_replicate, old_flat]; omega) e_non fun B2 e2 WB2 rB2 ee lO' oth2 => hN2 _ _ WB2 (Rl.trans (R := Same) rB rB2) ?_
      subst ee
      refine ⟨_, rfl, ?_, ?_⟩
      · have := oth2 Ra _ nRO lR'
        rw [List.append_assoc] at this
        rw [List.take_add_one, sd]
        exact this
      · rw [List.append_assoc] at lO'
        rw [List.replicate_succ']
        exact lO'
    · subst e hr
      rw [List.take_length] at lR
      have r12 : Same (gr G A [Oa, Ra] A3) (gr G A [Oa, Ra] X2) := Rl.trans (R := Same) rX rY
      have q12 : Dp K (gr G A [Oa, Ra] X2) v1 (.tuple es) := dp_up (fun a o t z => r12 a o z) _ _ q1
      have px2 : Dp K (gr G A [Oa, Ra] X2) x (.int i) := dp_up (fun a o t z => rY a o z) _ _ px
      refine w_evT WY (t_test (b := decide ((i : Int) < es.length)) (e_op1 (e_var (i := 5) rfl px2) (e_len (e_var (i := 0) rfl q12) (.inl ⟨es, rfl, rfl⟩)) (rs_I0 fun X => .bl _))) fun b B WB rB eb => ?_
      subst eb
      have fin : ∀ {B : Hp}, Same (gr G A [Oa, Ra] X2) (gr G A [Oa, Ra] B) → Same (gr G A [Oa, Ra] X) (gr G A [Oa, Ra] B) := fun r => Rl.trans (R := Same) rY r
      by_cases hlt : i < es.length
      · rw [if_pos (by rw [decide_eq_true_eq]; omega)]
        rw [if_pos hlt] at hpl
        have px3 := dp_up (gr_next (R := Same) rB) _ _ px2
        have q13 := dp_up (gr_next (R := Same) rB) _ _ q12
        refine ws_app (K := K) (i := 2) (S := (· = es[i])) WB rfl (List.mem_cons_of_mem _ (List.mem_cons_self ..)) (lR.next rB) (by rw [List.length_append]; omega) (e_op1 (e_var (i := 0) rfl q13) (e_var (i := 5) rfl px3) (rs_ixT (d := es[i]) (atI_nat (List.getElem?_eq_getElem hlt)))) fun B2 e WB2 rB2 ee lR' oth => ?_
        subst ee
        have lO := oth Oa _ (Ne.symm nRO) (lO.next rB)
        refine w_app (K := K) (i := 3) (S := (· = .int i)) WB2 rfl (List.mem_cons_self ..) lO (by rw [List.length_append, List.length_replicate, old_flat]; omega) (e_var (i := 5) rfl (dp_up (fun a o t z => rB2 a o z) _ _ px3)) fun B3 e2 WB3 rB3 ee lO' oth2 => hN _ _ WB3 (fin (Rl.trans (R := Same) (gr_r WY rB) (Rl.trans (R := Same) rB2 rB3))) ?_
        subst ee
        refine ⟨_, _, rfl, ?_, ?_⟩
        · have := oth2 Ra _ nRO lR'
          rw [flat_succ, partD, List.append_assoc] at *
          have e1 : (es.drop i).take 1 = [es[i]] := by
            rw [List.drop_eq_getElem_cons hlt]
            rfl
          rw [e1]
          exact this
        · rw [flat_succ, oldP, if_pos hlt]
          rw [List.append_assoc] at lO'
          exact lO'
      · rw [if_neg (by rw [decide_eq_true_eq]; omega)]
        refine hN _ _ WB (fin (gr_r WY rB)) ⟨_, _, rfl, ?_, ?_⟩
        · rw [flat_succ, partD, List.drop_of_length_le (by omega), List.take_nil, List.append_nil]
          exact lR.next rB
        · rw [flat_succ, oldP, if_neg hlt, List.append_nil]
          exact lO.next rB
  subst e hnn
  have pR := lR.free WX (List.mem_cons_of_mem _ (List.mem_cons_self ..))
  have pO := lO.free WX (List.mem_cons_self ..)
  refine ws_ret (K := K) WX.free (S := (· = grownF [.tuple es, .tuple (ms.map entD)])) (EvS.to (e_tup1 (a_one (e_cb1 (ds := [.list _]) (a_one (e_var (i := 2) rfl pR) a_nil) rc_tuple) (a_one (e_var (i := 3) rfl pO) a_nil)) (by show 2 ≤ 100000; decide)) ?_) fun v d B r e pd => q v d B r e pd
  show PyData.tuple [.tuple (grownL es ms), .list (oldsL es.length ms)] = PyData.tuple [.tuple (grownL es ((ms.map entD).map entM)), .list (oldsL es.length ((ms.map entD).map entM))]
  rw [ent_m]
end
end K25
end
section
set_option maxRecDepth 100000
set_option maxHeartbeats 4000000
namespace K25
open PySem PySem.Spec PyProof.Rows L2
section
variable {P : Program} {w : World} {K : PySem.W.Frag} {mg : Str → Option Value} {base : Heap} {C fI cc : Addr}
def found0 (es : List PyData) : List PyData := [.tuple [.none, .int (-1)], .tuple [.list es, .int (-1)], .tuple [.str "", .int (-1)], .tuple [.int 0, .int (-1)], .tuple [.bool true, .int (-1)], .tuple [.tuple ([.none] ++ es), .int 0]]
def odd0 : List PyData := [.tuple [.str "open"], .tuple [.str "open", .str "fun"], .tuple [.str "open", .tuple [.str "fun", .str "A"]], .tuple [.str "open", .list [.str "fun", .str ""]]]
def odd1 : List PyData := [.tuple [.str "end", .int 0], .list [.str "end"], .str "end", .tuple [], .tuple [.str "let", .str "x"], .tuple [.str "let", .str "x", .str ""]]
def odd2 : List PyData := [.tuple [.str "use", .str "abcdefghi", .str "a"], .tuple [.str "stop", .str ""], .tuple [.str "give"], .tuple [.str "give", .none]]
def oddL : List PyData := odd0 ++ odd1 ++ odd2
def oddT (es : List PyData) (e : PyData) : PyData := .tuple [.tuple (es ++ [e, .none]), .int es.length]
def badT (es : List PyData) : List PyData := found0 es ++ oddL.map (oddT es)
def badTF : List PyData → PyData
  | [.tuple es] => .list (badT es)
  | _ => .none
def prePg (ds : List PyData) : Prop := ∃ es, ds = [.tuple es] ∧ es.length ≤ 4000
theorem sc_bad_texts : FnScope ["_law_page", "_law_found", "_law_odd", "_law_entry"] ["_law_page"] (defScope s__law_bad_texts) := ⟨rfl, rfl, rfl, by decide +kernel, rfl, by decide +kernel, by decide +kernel⟩
theorem cl_bad_texts (T : Tl P K mg C fI cc) : Cl P w K mg base 1 "_law_bad_texts" (spD K prePg badTF) := by
  refine cl_d (ps := ["_law_page"]) T.d_bad_texts (fun _ _ _ _ _ _ us hl => match us, hl with | [_], _ => rfl) sc_bad_texts (fun ds ⟨es, e, _⟩ => by rw [e]; rfl) fun g cdv A outer s H E hr => ⟨_,
    (pss_cons (ps_set (i := 1) sc_bad_texts.nd rfl (by first | exact Or.inl rfl | exact Or.inr rfl) (pe_lst (pa_cons (pe_tup (pa_cons pe_non (pa_cons (pe_un un_neg pe_int) pa_nil))) (pa_cons (pe_tup (pa_cons (pe_callTy call_list_of rfl T.n_list boot_listT (pa_cons (pv 0) pa_nil)) (pa_cons (pe_un un_neg pe_int) pa_nil))) (pa_cons (pe_tup (pa_cons pe_str (pa_cons (pe_un un_neg pe_int) pa_nil))) (pa_cons (pe_tup (pa_cons pe_int (pa_cons (pe_un un_neg pe_int) pa_nil))) (pa_cons (pe_tup (pa_cons pe_bl (pa_cons (pe_un un_neg pe_int) pa_nil))) (pa_cons (pe_tup (pa_cons (pe_op op_catA (pe_tup (pa_cons pe_non pa_nil)) (pv 0)) (pa_cons pe_int pa_nil))) pa_nil)))))))) (pss_cons (ps_set (i := 2) sc_bad_texts.nd rfl (by first | exact Or.inl rfl | exact Or.inr rfl) (pe_lst (pa_cons (pe_tup (pa_cons pe_str pa_nil)) (pa_cons (pe_tup (pa_cons pe_str (pa_cons pe_str pa_nil))) (pa_cons (pe_tup (pa_cons pe_str (pa_cons (pe_tup (pa_cons pe_str (pa_cons pe_str pa_nil))) pa_nil))) (pa_cons (pe_tup (pa_cons pe_str (pa_cons (pe_lst (pa_cons pe_str (pa_cons pe_str pa_nil))) pa_nil))) pa_nil)))))) (pss_cons (ps_aug (i := 2) sc_bad_texts.nd rfl (by first | exact Or.inl rfl | exact Or.inr rfl) (pe_lst (pa_cons (pe_tup (pa_cons pe_str (pa_cons pe_int pa_nil))) (pa_cons (pe_lst (pa_cons pe_str pa_nil)) (pa_cons pe_str (pa_cons (pe_tup pa_nil) (pa_cons (pe_tup (pa_cons pe_str (pa_cons pe_str pa_nil))) (pa_cons (pe_tup (pa_cons pe_str (pa_cons pe_str (pa_cons pe_str pa_nil)))) pa_nil))))))) iopE) (pss_cons (ps_for PassesOwn.never rfl (pi_list (pe_op op_catL (pv 2) (pe_lst (pa_cons (pe_tup (pa_cons pe_str (pa_cons pe_str (pa_cons pe_str pa_nil)))) (pa_cons (pe_tup (pa_cons pe_str (pa_cons pe_str pa_nil))) (pa_cons (pe_tup (pa_cons pe_str pa_nil)) (pa_cons (pe_tup (pa_cons pe_str (pa_cons pe_non pa_nil))) pa_nil))))))) (pg_name (i := 3) sc_bad_texts.nd rfl (by first | exact Or.inl rfl | exact Or.inr rfl)) (pss_one (ps_expr (pe_bm PySem.F.plainAttrs_list PySem.F.slot_list_append PySem.F.type_list_append mt_append (pv 1) (pa_cons (pe_tup (pa_cons (pe_op op_catA (pv 0) (pe_tup (pa_cons (pv 3) (pa_cons pe_non pa_nil)))) (pa_cons (pe_callB call_len rfl T.z.y.x.n_len PySem.boot_len (pa_cons (pv 0) pa_nil)) pa_nil))) pa_nil))))) (pss_one (ps_ret (pv 1))))))), fun vs G ds p hp => ?_⟩
  obtain ⟨es, rfl, hz⟩ := hp
  cases p with
  | @cons v1 _ _ _ p1 p =>
  cases p
  intro A hA Dd q
  have W0 := Wk.start (R := Same) hA
  have hcat : [PyData.none].length + es.length ≤ 100000 := by show 1 + es.length ≤ _; omega
  have up0 : Dp K G v1 (.tuple es) → Dp K (gr G A [] A) v1 (.tuple es) := fun h => dp_up (gr_base W0) _ _ h
  refine ws_lst (K := K) W0 (es := found0 es) (by exact (a_one (e_tup1 (a_one e_non (a_one (e_un (d := .int (-1)) e_int fun X => .int _) a_nil)) (by show 2 ≤ 100000; decide)) (a_one (e_tup1 (a_one (e_cb1 (ds := [.tuple es]) (a_one (e_var (i := 0) rfl (up0 p1)) a_nil) (rc_list _ (.inr rfl))) (a_one (e_un (d := .int (-1)) e_int fun X => .int _) a_nil)) (by show 2 ≤ 100000; decide)) (a_one (e_tup1 (a_one e_str (a_one (e_un (d := .int (-1)) e_int fun X => .int _) a_nil)) (by show 2 ≤ 100000; decide)) (a_one (e_tup1 (a_one e_int (a_one (e_un (d := .int (-1)) e_int fun X => .int _) a_nil)) (by show 2 ≤ 100000; decide)) (a_one (e_tup1 (a_one e_bl (a_one (e_un (d := .int (-1)) e_int fun X => .int _) a_nil)) (by show 2 ≤ 100000; decide)) (a_one (e_tup1 (a_one (e_op1 (e_tup1 (a_one e_non a_nil) (by show 1 ≤ 100000; decide)) (e_var (i := 0) rfl (up0 p1)) (rs_catT (es := [.none]) (fs := es) hcat)) (a_one e_int a_nil)) (by show 2 ≤ 100000; decide)) a_nil))))))) (by show 6 ≤ 100000; decide) fun Fa A1 nF W1 r1 lF _ => ?_
  refine ws_lst (K := K) W1 (es := odd0) (by exact (a_one (e_tup1 (a_one e_str a_nil) (by show 1 ≤ 100000; decide)) (a_one (e_tup1 (a_one e_str (a_one e_str a_nil)) (by show 2 ≤ 100000; decide)) (a_one (e_tup1 (a_one e_str (a_one (e_tup1 (a_one e_str (a_one e_str a_nil)) (by show 2 ≤ 100000; decide)) a_nil)) (by show 2 ≤ 100000; decide)) (a_one (e_tup1 (a_one e_str (a_one (e_lst1 (a_one e_str (a_one e_str a_nil)) (by show 2 ≤ 100000; decide)) a_nil)) (by show 2 ≤ 100000; decide)) a_nil))))) (by decide) fun Oa A2 nO W2 r2 lO oF => ?_
  have lF := oF Fa _ lF
  have nFO : Fa ≠ Oa := fun e => nO (by rw [e]; exact List.mem_cons_self ..)
  refine ws_aug (K := K) (fs := odd1) W2 rfl (List.mem_cons_self ..) lO (by decide) (by exact (a_one (e_tup1 (a_one e_str (a_one e_int a_nil)) (by show 2 ≤ 100000; decide)) (a_one (e_lst1 (a_one e_str a_nil) (by show 1 ≤ 100000; decide)) (a_one e_str (a_one (e_tup1 a_nil (by show 0 ≤ 100000; decide)) (a_one (e_tup1 (a_one e_str (a_one e_str a_nil)) (by show 2 ≤ 100000; decide)) (a_one (e_tup1 (a_one e_str (a_one e_str (a_one e_str a_nil))) (by show 3 ≤ 100000; decide)) a_nil))))))) fun A3 W3 r3 lO oF => ?_
  have lF := oF Fa _ nFO lF
  have sub1 : ∀ a ∈ [Fa], a ∈ [Oa, Fa] := fun a m => by rw [List.mem_singleton.1 m]; exact List.mem_cons_of_mem _ (List.mem_cons_self ..)
  have pO := lO.let W3 (List.mem_cons_self ..) sub1 (fun m => nFO (List.mem_singleton.1 m).symm)
  have lF := lF.sub sub1
  have W4 := W3.sub sub1
  have q1 : Dp K (gr G A [Fa] A3) v1 (.tuple es) := dp_up (gr_sub sub1) _ _ (dp_up (fun a o t z => r3 a o (r2 a o (r1 a o z))) _ _ (up0 p1))
  refine wx_for (K := K) W4 (Sx := (· = oddL)) (ixw_list (EvS.imp (e_op1 (e_var (i := 2) rfl pO) (e_lst1 (ds := odd2) (by exact (a_one (e_tup1 (a_one e_str (a_one e_str (a_one e_str a_nil))) (by show 3 ≤ 100000; decide)) (a_one (e_tup1 (a_one e_str (a_one e_str a_nil)) (by show 2 ≤ 100000; decide)) (a_one (e_tup1 (a_one e_str a_nil) (by show 1 ≤ 100000; decide)) (a_one (e_tup1 (a_one e_str (a_one e_non a_nil)) (by show 2 ≤ 100000; decide)) a_nil))))) (by decide)) (rs_catL (by decide))) fun d e => ⟨_, e, rfl⟩))
    (fun _ i σ' X => ∃ a3, σ' = [some v1, some (.ref Fa), some (.ref Oa), a3] ∧ Lst K G A [Fa] X Fa (found0 es ++ (oddL.take i).map (oddT es)))
    (fun x B _ WB r => ⟨none, rfl, by rw [List.take_zero, List.map_nil, List.append_nil]; exact lF.next r⟩)
    (fun x i d y σ' X hx hi WX rX ⟨a3, e, lF⟩ sd py N hN => ?_) fun x σ' X hx WX rX ⟨a3, e, lF⟩ => ?_
  · subst e hx
    have q12 : Dp K (gr G A [Fa] X) v1 (.tuple es) := dp_up (fun a o t z => rX a o z) _ _ q1
    have hi14 : i < 14 := hi
    refine w_app (K := K) (i := 1) (S := (· = oddT es d)) WX rfl (List.mem_singleton.2 rfl) lF (by rw [List.length_append, List.length_map, List.length_take]; show 6 + _ < _; omega) (EvS.to (e_tup1 (a_one (e_op1 (e_var (i := 0) rfl q12) (e_tup1 (a_one (e_var (i := 3) rfl py) (a_one e_non a_nil)) (by show 2 ≤ 100000; decide)) (rs_catT (by show es.length + 2 ≤ _; omega))) (a_one (e_len (e_var (i := 0) rfl q12) (.inl ⟨es, rfl, rfl⟩)) a_nil)) (by show 2 ≤ 100000; decide)) rfl) fun B e WB rB ee lF' _ => hN _ _ WB rB ⟨_, rfl, ?_⟩
    subst ee
    rw [List.append_assoc] at lF'
    rw [List.take_add_one, sd, Option.toList_some, List.map_append]
    exact lF'
  · subst e hx
    rw [List.take_length] at lF
    exact ws_ret (K := K) WX.free (S := (· = .list (badT es))) (e_var (i := 1) rfl (lF.free WX (List.mem_singleton.2 rfl))) fun v d B r e pd => q v d B r e pd
def ent1 : PyData := .tuple [.tuple [.str "end"]]
def badw0 (n : Int) : List PyData := [.none, .int 0, .str "", .list [], .list [.tuple [.int 0, ent1]], .tuple [.tuple [.int 0, ent1, .int 0]], .tuple [.tuple [.int 0, .tuple []]], .tuple [.tuple [.int 0, .tuple [.str "end"]]]]
def badw1 (n : Int) : List PyData := [.tuple [.tuple [.int 0, .list [.tuple [.str "end"]]]], .tuple [.tuple [.int (-1), ent1]], .tuple [.tuple [.int (n + 1), ent1]], .tuple [.tuple [.int 0, ent1], .tuple [.int 0, ent1]]]
def badw2 (n : Int) : List PyData := [.tuple [.tuple [.int n, ent1], .tuple [.int 0, ent1]], .tuple [.tuple [.bool true, ent1]], .tuple [.list [.int 0, ent1]], .tuple [.tuple [.none, ent1]]]
def badw3 (n : Int) : List PyData := [.tuple [.tuple [.int 0, ent1], .none], .tuple [.tuple [.str "0", ent1]], .tuple [.tuple [.int 0, .tuple [.tuple [.str "end"], .none]]], .tuple [.int 0, ent1]]
def badw4 (n : Int) : List PyData := [.tuple [.tuple [.int 0, .tuple [.tuple [.str "open", .str "fun"]]]]]
def badW (n : Int) : List PyData := badw0 n ++ badw1 n ++ badw2 n ++ badw3 n ++ badw4 n
def badWF : List PyData → PyData
  | [.tuple es] => .list (badW es.length)
  | _ => .none
theorem sc_bad_ways : FnScope ["_law_page", "_law_size", "_law_entry", "_law_found"] ["_law_page"] (defScope s__law_bad_ways) := ⟨rfl, rfl, rfl, by decide +kernel, rfl, by decide +kernel, by decide +kernel⟩
theorem cl_bad_ways (T : Tl P K mg C fI cc) : Cl P w K mg base 1 "_law_bad_ways" (spD K prePg badWF) := by
  refine cl_d (ps := ["_law_page"]) T.d_bad_ways (fun _ _ _ _ _ _ us hl => match us, hl with | [_], _ => rfl) sc_bad_ways (fun ds ⟨es, e, _⟩ => by rw [e]; rfl) fun g cdv A outer s H E hr => ⟨_,
    (pss_cons (ps_par (i := 1) (j := 2) rfl sc_bad_ways.nd rfl rfl (by decide) rfl rfl (pa_cons (pe_callB call_len rfl T.z.y.x.n_len PySem.boot_len (pa_cons (pv 0) pa_nil)) (pa_cons (pe_tup (pa_cons (pe_tup (pa_cons pe_str pa_nil)) pa_nil)) pa_nil)) rfl) (pss_cons (ps_set (i := 3) sc_bad_ways.nd rfl (by first | exact Or.inl rfl | exact Or.inr rfl) (pe_lst (pa_cons pe_non (pa_cons pe_int (pa_cons pe_str (pa_cons (pe_lst pa_nil) (pa_cons (pe_lst (pa_cons (pe_tup (pa_cons pe_int (pa_cons (pv 2) pa_nil))) pa_nil)) (pa_cons (pe_tup (pa_cons (pe_tup (pa_cons pe_int (pa_cons (pv 2) (pa_cons pe_int pa_nil)))) pa_nil)) (pa_cons (pe_tup (pa_cons (pe_tup (pa_cons pe_int (pa_cons (pe_tup pa_nil) pa_nil))) pa_nil)) (pa_cons (pe_tup (pa_cons (pe_tup (pa_cons pe_int (pa_cons (pe_tup (pa_cons pe_str pa_nil)) pa_nil))) pa_nil)) pa_nil)))))))))) (pss_cons (ps_aug (i := 3) sc_bad_ways.nd rfl (by first | exact Or.inl rfl | exact Or.inr rfl) (pe_lst (pa_cons (pe_tup (pa_cons (pe_tup (pa_cons pe_int (pa_cons (pe_lst (pa_cons (pe_tup (pa_cons pe_str pa_nil)) pa_nil)) pa_nil))) pa_nil)) (pa_cons (pe_tup (pa_cons (pe_tup (pa_cons (pe_un un_neg pe_int) (pa_cons (pv 2) pa_nil))) pa_nil)) (pa_cons (pe_tup (pa_cons (pe_tup (pa_cons (pe_op op_add (pv 1) pe_int) (pa_cons (pv 2) pa_nil))) pa_nil)) (pa_cons (pe_tup (pa_cons (pe_tup (pa_cons pe_int (pa_cons (pv 2) pa_nil))) (pa_cons (pe_tup (pa_cons pe_int (pa_cons (pv 2) pa_nil))) pa_nil))) pa_nil))))) iopE) (pss_cons (ps_aug (i := 3) sc_bad_ways.nd rfl (by first | exact Or.inl rfl | exact Or.inr rfl) (pe_lst (pa_cons (pe_tup (pa_cons (pe_tup (pa_cons (pv 1) (pa_cons (pv 2) pa_nil))) (pa_cons (pe_tup (pa_cons pe_int (pa_cons (pv 2) pa_nil))) pa_nil))) (pa_cons (pe_tup (pa_cons (pe_tup (pa_cons pe_bl (pa_cons (pv 2) pa_nil))) pa_nil)) (pa_cons (pe_tup (pa_cons (pe_lst (pa_cons pe_int (pa_cons (pv 2) pa_nil))) pa_nil)) (pa_cons (pe_tup (pa_cons (pe_tup (pa_cons pe_non (pa_cons (pv 2) pa_nil))) pa_nil)) pa_nil))))) iopE) (pss_cons (ps_aug (i := 3) sc_bad_ways.nd rfl (by first | exact Or.inl rfl | exact Or.inr rfl) (pe_lst (pa_cons (pe_tup (pa_cons (pe_tup (pa_cons pe_int (pa_cons (pv 2) pa_nil))) (pa_cons pe_non pa_nil))) (pa_cons (pe_tup (pa_cons (pe_tup (pa_cons pe_str (pa_cons (pv 2) pa_nil))) pa_nil)) (pa_cons (pe_tup (pa_cons (pe_tup (pa_cons pe_int (pa_cons (pe_tup (pa_cons (pe_tup (pa_cons pe_str pa_nil)) (pa_cons pe_non pa_nil))) pa_nil))) pa_nil)) (pa_cons (pe_tup (pa_cons pe_int (pa_cons (pv 2) pa_nil))) pa_nil))))) iopE) (pss_one (ps_ret (pe_op op_catL (pv 3) (pe_lst (pa_cons (pe_tup (pa_cons (pe_tup (pa_cons pe_int (pa_cons (pe_tup (pa_cons (pe_tup (pa_cons pe_str (pa_cons pe_str pa_nil))) pa_nil)) pa_nil))) pa_nil)) pa_nil)))))))))), fun vs G ds p hp => ?_⟩
  obtain ⟨es, rfl, hz⟩ := hp
  cases p with
  | @cons v1 _ _ _ p1 p =>
  cases p
  intro A hA Dd q
  have W0 := Wk.start (R := Same) hA
  have up0 : Dp K G v1 (.tuple es) → Dp K (gr G A [] A) v1 (.tuple es) := fun h => dp_up (gr_base W0) _ _ h
  obtain ⟨n, hn⟩ : ∃ n : Int, n = es.length := ⟨_, rfl⟩
  refine ws_par (K := K) W0 (Sl := (· = [.int n, ent1])) (EvA.imp (a_one (e_len (e_var (i := 0) rfl (up0 p1)) (.inl ⟨es, rfl, rfl⟩)) (a_one (e_tup1 (a_one (e_tup1 (a_one e_str a_nil) (by show 1 ≤ 100000; decide)) a_nil) (by show 1 ≤ 100000; decide)) a_nil)) fun ds e => ⟨_, _, e, by rw [hn]; rfl⟩) fun vS vE dS dE A0 W0 r0 e0 pS pE => ?_
  cases e0
  refine ws_lst (K := K) W0 (es := badw0 n) (by exact (a_one e_non (a_one e_int (a_one e_str (a_one (e_lst1 a_nil (by show 0 ≤ 100000; decide)) (a_one (e_lst1 (a_one (e_tup1 (a_one e_int (a_one (e_var (i := 2) rfl (pE)) a_nil)) (by show 2 ≤ 100000; decide)) a_nil) (by show 1 ≤ 100000; decide)) (a_one (e_tup1 (a_one (e_tup1 (a_one e_int (a_one (e_var (i := 2) rfl (pE)) (a_one e_int a_nil))) (by show 3 ≤ 100000; decide)) a_nil) (by show 1 ≤ 100000; decide)) (a_one (e_tup1 (a_one (e_tup1 (a_one e_int (a_one (e_tup1 a_nil (by show 0 ≤ 100000; decide)) a_nil)) (by show 2 ≤ 100000; decide)) a_nil) (by show 1 ≤ 100000; decide)) (a_one (e_tup1 (a_one (e_tup1 (a_one e_int (a_one (e_tup1 (a_one e_str a_nil) (by show 1 ≤ 100000; decide)) a_nil)) (by show 2 ≤ 100000; decide)) a_nil) (by show 1 ≤ 100000; decide)) a_nil))))))))) (by show 8 ≤ 100000; decide) fun Fa A1 nF W1 r1 lF _ => ?_
  have pS := dp_up (fun a o t z => r1 a o z) _ _ pS
  have pE := dp_up (fun a o t z => r1 a o z) _ _ pE
  refine ws_aug (K := K) (fs := badw1 n) W1 rfl (List.mem_cons_self ..) lF (by show 12 ≤ 100000; decide) (by exact (a_one (e_tup1 (a_one (e_tup1 (a_one e_int (a_one (e_lst1 (a_one (e_tup1 (a_one e_str a_nil) (by show 1 ≤ 100000; decide)) a_nil) (by show 1 ≤ 100000; decide)) a_nil)) (by show 2 ≤ 100000; decide)) a_nil) (by show 1 ≤ 100000; decide)) (a_one (e_tup1 (a_one (e_tup1 (a_one (e_un (d := .int (-1)) e_int fun X => .int _) (a_one (e_var (i := 2) rfl (pE)) a_nil)) (by show 2 ≤ 100000; decide)) a_nil) (by show 1 ≤ 100000; decide)) (a_one (e_tup1 (a_one (e_tup1 (a_one (e_op1 (e_var (i := 1) rfl (pS)) e_int (rs_I0 (e := .int (n + 1)) fun X => .int _)) (a_one (e_var (i := 2) rfl (pE)) a_nil)) (by show 2 ≤ 100000; decide)) a_nil) (by show 1 ≤ 100000; decide)) (a_one (e_tup1 (a_one (e_tup1 (a_one e_int (a_one (e_var (i := 2) rfl (pE)) a_nil)) (by show 2 ≤ 100000; decide)) (a_one (e_tup1 (a_one e_int (a_one (e_var (i := 2) rfl (pE)) a_nil)) (by show 2 ≤ 100000; decide)) a_nil)) (by show 2 ≤ 100000; decide)) a_nil))))) fun A1 W1 r1 lF _ => ?_
  have pS := dp_up (fun a o t z => r1 a o z) _ _ pS
  have pE := dp_up (fun a o t z => r1 a o z) _ _ pE
  refine ws_aug (K := K) (fs := badw2 n) W1 rfl (List.mem_cons_self ..) lF (by show 16 ≤ 100000; decide) (by exact (a_one (e_tup1 (a_one (e_tup1 (a_one (e_var (i := 1) rfl (pS)) (a_one (e_var (i := 2) rfl (pE)) a_nil)) (by show 2 ≤ 100000; decide)) (a_one (e_tup1 (a_one e_int (a_one (e_var (i := 2) rfl (pE)) a_nil)) (by show 2 ≤ 100000; decide)) a_nil)) (by show 2 ≤ 100000; decide)) (a_one (e_tup1 (a_one (e_tup1 (a_one e_bl (a_one (e_var (i := 2) rfl (pE)) a_nil)) (by show 2 ≤ 100000; decide)) a_nil) (by show 1 ≤ 100000; decide)) (a_one (e_tup1 (a_one (e_lst1 (a_one e_int (a_one (e_var (i := 2) rfl (pE)) a_nil)) (by show 2 ≤ 100000; decide)) a_nil) (by show 1 ≤ 100000; decide)) (a_one (e_tup1 (a_one (e_tup1 (a_one e_non (a_one (e_var (i := 2) rfl (pE)) a_nil)) (by show 2 ≤ 100000; decide)) a_nil) (by show 1 ≤ 100000; decide)) a_nil))))) fun A1 W1 r1 lF _ => ?_
  have pS := dp_up (fun a o t z => r1 a o z) _ _ pS
  have pE := dp_up (fun a o t z => r1 a o z) _ _ pE
  refine ws_aug (K := K) (fs := badw3 n) W1 rfl (List.mem_cons_self ..) lF (by show 20 ≤ 100000; decide) (by exact (a_one (e_tup1 (a_one (e_tup1 (a_one e_int (a_one (e_var (i := 2) rfl (pE)) a_nil)) (by show 2 ≤ 100000; decide)) (a_one e_non a_nil)) (by show 2 ≤ 100000; decide)) (a_one (e_tup1 (a_one (e_tup1 (a_one e_str (a_one (e_var (i := 2) rfl (pE)) a_nil)) (by show 2 ≤ 100000; decide)) a_nil) (by show 1 ≤ 100000; decide)) (a_one (e_tup1 (a_one (e_tup1 (a_one e_int (a_one (e_tup1 (a_one (e_tup1 (a_one e_str a_nil) (by show 1 ≤ 100000; decide)) (a_one e_non a_nil)) (by show 2 ≤ 100000; decide)) a_nil)) (by show 2 ≤ 100000; decide)) a_nil) (by show 1 ≤ 100000; decide)) (a_one (e_tup1 (a_one e_int (a_one (e_var (i := 2) rfl (pE)) a_nil)) (by show 2 ≤ 100000; decide)) a_nil))))) fun A1 W1 r1 lF _ => ?_
  have pS := dp_up (fun a o t z => r1 a o z) _ _ pS
  have pE := dp_up (fun a o t z => r1 a o z) _ _ pE
  have pF := lF.free W1 (List.mem_cons_self ..)
  have pS := dp_up (gr_free) _ _ pS
  have pE := dp_up (gr_free) _ _ pE
  refine ws_ret (K := K) W1.free (S := (· = badWF [.tuple es])) (EvS.to (e_op1 (e_var (i := 3) rfl pF) (e_lst1 (ds := badw4 n) (by exact (a_one (e_tup1 (a_one (e_tup1 (a_one e_int (a_one (e_tup1 (a_one (e_tup1 (a_one e_str (a_one e_str a_nil)) (by show 2 ≤ 100000; decide)) a_nil) (by show 1 ≤ 100000; decide)) a_nil)) (by show 2 ≤ 100000; decide)) a_nil) (by show 1 ≤ 100000; decide)) a_nil)) (by show 1 ≤ 100000; decide)) (rs_catL (by show 21 ≤ 100000; decide))) ?_) fun v d B r e pd => q v d B r e pd
  rw [hn]
  rfl
end
end K25
end
section
set_option maxRecDepth 100000
set_option maxHeartbeats 4000000
namespace K25
open PySem PySem.Spec PyProof.Rows L2
section
variable {R : Hp → Hp → Prop} [Rl R] {K : PySem.W.Frag} {σ : L2.St} {G : Hp} {te te2 : TE} {ta : TA} {g : TG} {tt : TT} {vs : List Nat} {S : PyData → Prop} {Sl : List PyData → Prop}
def tVal (v : V) : TE := fun _ H Q => Q v H
theorem e_val {v : V} {d : PyData} (p : Dp K G v d) : EvS R K (tVal v) σ G (· = d) := fun A hA Q q => q v d A (Rl.refl A) rfl (dp_up (up_base hA (Rl.refl A)) d v p)
/-- a comprehension over a list that is told when it stands -/
theorem e_lcB (h : EvS R K te σ G (LS Sl)) (k : ∀ v es G', R G G' → Sl es → Dp K G' v (.list es) → EvS R K (tLc (iList K (tVal v)) g tt te2 vs) σ G' S) : EvS R K (tLc (iList K te) g tt te2 vs) σ G S := fun A hA Q q =>
  h A hA _ fun v d B r ⟨es, e, se⟩ p => by
    subst e
    exact k v es (own G A B) (r_own hA r) se p B own_r Q fun v2 d2 C r2 s2 p2 => q v2 d2 C (Rl.trans r r2) s2 (dp_up (up_in (R := R) r) d2 v2 p2)
theorem z_tupD (h : EvA R K ta σ G Sl) (hz : ∀ ds, Sl ds → ds.length ≤ 100000) : EvZ R (tTupF ta) σ G (fun X v => ∃ ds, Sl ds ∧ PlainD K X v ds) := fun A hA Q q =>
  h A hA _ fun vs ds B r s p => ⟨by rw [dpa_len p]; exact Nat.le_trans (hz ds s) (by decide), fun l o nl ho => q (.ref l) _ (Rl.new r (Rl.dom r nl)) ⟨ds, s, l, o, vs, rfl, own_at (R := R) r nl, ho, dpa_up (up_new (R := R) r nl) _ _ p⟩⟩
theorem code_ok {z : Str} (h : z = "" ∨ z ∈ codesL) : PyData.strOk z = true := by
  rcases h with rfl | h
  · decide +kernel
  · have q : (codesL.all PyData.strOk) = true := by decide +kernel
    rw [List.all_eq_true] at q
    exact q z h
theorem strs_at {zs : List Str} {i : Nat} {d : PyData} (h : (zs.map PyData.str)[i]? = some d) : ∃ z, zs[i]? = some z ∧ d = .str z := by
  rw [List.getElem?_map] at h
  cases hz : zs[i]? with
  | none => rw [hz] at h; cases h
  | some z =>
    rw [hz] at h
    exact ⟨z, rfl, (Option.some.inj h).symm⟩
/-- the same, the list known -/
theorem e_codesX {zs : List Str} {j : Nat} (h : EvS R K te σ G (· = .list (zs.map .str))) (hc : Codes0 zs) (hj : j < σ.length) (hz : zs.length ≤ 100000) :
    EvS R K (tLc (iList K te) (gName j) (tTest (tOp (rNeD K) (tVar j) (tC (.str "")))) (tVar j) [j]) σ G (· = strsD (zs.filter fun z => !(z == ("" : Str)))) :=
  EvS.imp (e_lc (Sn := (· = (zs.map PyData.str).length)) (Sd := fun i d => (zs.map PyData.str)[i]? = some d) (fun i es => es = ((zs.take i).filter fun z => !(z == ("" : Str))).map .str) (it_list h) (fun n e => by rw [e, List.length_map]; exact hz) rfl fun i d x es G' hG sd px iv le => by
    obtain ⟨z, ez, rfl⟩ := strs_at sd
    have hs : ((wipe σ [j]).set j (some x))[j]? = some (some x) := by
      have : j < (wipe σ [j]).length := by rw [wipe_length]; exact hj
      simp [this]
    have hok := code_ok (hc z (List.mem_of_getElem? ez))
    refine ⟨_, b_name (j := j), by simp [wipe], (· = !(z == ("" : Str))), t_test ((e_op1 (e_var hs px) e_str (rs_ne (sh_str hok) (sh_str (by decide +kernel)))).to (by rw [eqv_str])), fun hb => (e_var hs px).imp fun e he => ?_, fun hb => ?_⟩
    · rw [he, iv, List.take_add_one, ez, Option.toList_some, List.filter_append, List.map_append, List.filter_cons_of_pos (by rw [← hb])]
      rfl
    · rw [iv, List.take_add_one, ez, Option.toList_some, List.filter_append, List.filter_cons_of_neg (by rw [← hb]; decide), List.filter_nil, List.append_nil]) fun d ⟨n, es, e1, e2, e3, _⟩ => by
      rw [e2, e3, e1, List.length_map, List.take_length]
      rfl
end
theorem pairs_c {z : Str} {te : TE} {r : List (TE × TE)} {σ : L2.St} {A : Hp} {Q : List (V × V) → Hp → Prop} (h : te σ A fun y H2 => L2.tPairs r σ H2 fun ps H3 => Q ((.str z, y) :: ps) H3) : L2.tPairs ((tC (.str z), te) :: r) σ A Q := h
theorem pairs_k {z : Str} {v : V} {r : List (TE × TE)} {σ : L2.St} {A : Hp} {Q : List (V × V) → Hp → Prop} (h : L2.tPairs r σ A fun ps H3 => Q ((.str z, v) :: ps) H3) : L2.tPairs ((tC (.str z), tC v) :: r) σ A Q := h
theorem pairs_0 {σ : L2.St} {A : Hp} {Q : List (V × V) → Hp → Prop} (h : Q [] A) : L2.tPairs [] σ A Q := h
def spFeed (K : PySem.W.Frag) : Sp := fun vs H Q _ => ∃ (a : Addr) (ns : List Int), vs = [.ref a] ∧ SqL K H a (ns.map V.int) ∧ ns.length ≤ 63 ∧ ∀ f L B, Same H B → H f = none → FdG K f L ns B → Q (.ref f) B
section
variable {P : Program} {w : World} {K : PySem.W.Frag} {mg : Str → Option Value} {base : Heap} {C fI cc : Addr}
theorem sc_feed : FnScope ["_law_script"] ["_law_script"] (defScope s__law_feed) := ⟨rfl, rfl, rfl, by decide +kernel, rfl, by decide +kernel, by decide +kernel⟩
theorem cl_feed (T : Tl P K mg C fI cc) : Cl P w K mg base 1 "_law_feed" (spFeed K) := by
  obtain ⟨g, fd, F, hm⟩ := T.d_feed
  refine ⟨g, fd, ["_law_script"], F.ok sc_feed (fun vs H Q E h => ?_) (fun cdv A outer s H vs Q E hr h => ?_), hm, F.kp, F.binds fun _ _ _ _ _ _ us hl => match us, hl with | [_], _ => rfl⟩
  · obtain ⟨a, ns, rfl, _⟩ := h
    rfl
  · obtain ⟨a, ns, rfl, ha, hz, q⟩ := h
    refine ⟨_, pss_one (ps_ret (pe_disp (pps_cons pe_str (pe_callTy call_list_of rfl T.n_list boot_listT (pa_cons (pe_slice sl_list (pv 0) po_none (po_some pe_int)) pa_nil)) (pps_cons pe_str pe_int (pps_cons pe_str pe_int (pps_cons pe_str pe_int pps_nil)))) rfl rfl (by decide) (by decide))), ?_⟩
    intro p np
    have hs : Same H (upd H p (.dK [])) := Rl.new (R := Same) (Rl.refl H) np
    have hd : Dp K H (.ref a) (.list (ns.map .int)) := .lst ha (dpa_ints ns)
    refine pairs_c ?_
    refine e_cb1 (R := Same) (K := K) (σ := L2.start ["_law_script"] [.ref a]) (G := H) (ds := [.list (ns.map .int)]) (S := (· = .list (ns.map .int))) (a_one (EvS.imp (e_slL (e_var (i := 0) rfl hd) o_none (o_some (K := K) (i := 63) e_int)) fun d ⟨lo, hi, e1, e2, e3⟩ => ?_) a_nil) (rc_list _ (.inl rfl)) _ hs _ fun v d B r e pd => ?_
    · rw [e3, e1, e2, show (63 : Int) = ((63 : Nat) : Int) from rfl, cutD_to, List.take_of_length_le (by rw [List.length_map]; exact hz)]
    · subst e
      cases pd with
      | @lst L xs _ hL hxs =>
        have ex := ints_of hxs
        subst ex
        have eP : B p = some (.dK []) := r p _ upd_same
        have nL : ∀ o, (own H (upd H p (.dK [])) B) p = some o → False := fun o e => by
          have := (own_some e).2 np
          rw [upd_same] at this
          cases this
        refine pairs_k (pairs_k (pairs_k (pairs_0 ?_)))
        refine ⟨eP, [(.inr "cells", .ref L), (.inr "turn", .int 0), (.inr "rest", .int 0), (.inr "drawn", .int 0)], rfl, (show 4 ≤ 15 by decide), ?_⟩
        refine q p L _ (Rl.new (R := Same) (Rl.trans (R := Same) hs r) np) np ⟨⟨_, upd_same, 0, 0, 0, Int.le_refl _, Int.le_refl _, Int.le_refl _, rfl⟩, sql_up (fun b o t e => ?_) hL, hz⟩
        have nb : b ≠ p := fun z => nL o (z ▸ e)
        rw [upd_ne nb]
        exact (own_some e).1
theorem sc_long : FnScope ["_law_feed_here", "_law_page", "_law_names", "_law_kinds", "_law_codes", "_law_rows", "_law_code", "_law_k"] ["_law_feed_here", "_law_page", "_law_names", "_law_kinds"] (defScope s__law_long) := ⟨rfl, rfl, rfl, by decide +kernel, rfl, by decide +kernel, by decide +kernel⟩
def preLong (ds : List PyData) : Prop := ∃ (es : List PyData) (n k : Str × Str), ds = [.tuple es, pair2 n, pair2 k] ∧ n ∈ NP ∧ k ∈ KP ∧ es.length ≤ 60
def zLong (K : PySem.W.Frag) (ds : List PyData) : ZP := fun X v => ∀ es, ds.head? = some (.tuple es) → ∃ (g : Int) (rs : List PyData), PlainD K X v ([(g, rs)].map entD) ∧ WayG es.length 69 [(g, rs)]
theorem cl_long (T : Tl P K mg C fI cc) : Cl P w K mg base 3 "_law_long" (spFZ K preLong (zLong K)) := by
  refine cl_fz (ps := ["_law_feed_here", "_law_page", "_law_names", "_law_kinds"]) T.d_long (fun _ _ _ _ _ _ us hl => match us, hl with | [_, _, _, _], _ => rfl) sc_long (fun ds ⟨es, n, k, e, _⟩ => by rw [e]; rfl) fun g cdv A outer s H E hr => ⟨_,
    (pss_cons (ps_set (i := 4) sc_long.nd rfl (Or.inr rfl) (pe_lc (own := [("_law_code", 6)]) (tt := tTest (tOp (rNeD K) (tVar 6) (tC (.str "")))) rfl sc_long.nd (pi_list (pe_op op_catL (pe_m1 PySem.F.slot_str_split PySem.F.type_str_split mt_split (pe_k (cl_any T) hr (by decide) rfl (pa_cons (pv 0) (pa_cons (pe_k0 (cl_scenes T) hr (by decide) rfl) pa_nil))) pe_str) (pe_lst (pa_cons pe_str pa_nil)))) (blkOk_by (N := ["_law_feed_here", "_law_page", "_law_names", "_law_kinds", "_law_codes", "_law_rows", "_law_code", "_law_k"]) (sc := defScope s__law_long) (by decide +kernel)) (fun _ _ _ _ _ => (pg_name (i := 6) sc_long.nd rfl (by first | exact Or.inl rfl | exact Or.inr rfl))) (fun _ _ _ _ _ => (pts_one (pt_cmpR (op_neD hr.units) (pv 6) pe_str (nomark _)))) (fun _ _ _ _ _ => (pv 6)))) (pss_cons (ps_setLc (i := 5) (own := [("_law_k", 7)]) (te := tCall (spD K preRow rowF) [] E0 (tCons (tOp (rIxL K) (tVar 4) (tOp (rI (fun _ j => 0 < j) fun i j => .int (i % j)) (tCB (fun xs H Q => (∃ i, xs = [.int i] ∧ Q (.int i) H) ∨ ∃ k, xs = [.bl k] ∧ Q (.int (if k then 1 else 0)) H) (tCons (tVar 7) tNil)) (tCB (rLenD K) (tCons (tVar 4) tNil)))) (tCons (tVar 2) (tCons (tVar 3) tNil)))) rfl sc_long.nd rfl rfl (sw_true rfl rfl rfl (by decide +kernel)) (pi_range1 rfl T.z.n_range (pa_cons (pe_op op_add pe_int (pe_k (cl_draw T) hr (by decide) rfl (pa_cons (pv 0) (pa_cons pe_int pa_nil)))) pa_nil)) (blkOk_by (N := ["_law_feed_here", "_law_page", "_law_names", "_law_kinds", "_law_codes", "_law_rows", "_law_code", "_law_k"]) (sc := defScope s__law_long) (by decide +kernel)) (fun _ _ _ _ _ => (pg_name (i := 7) sc_long.nd rfl (by first | exact Or.inl rfl | exact Or.inr rfl))) (fun _ _ _ _ _ => pts_nil) (fun _ _ _ _ _ => (pe_k (cl_row T) hr (by decide) rfl (pa_cons (pe_ix ix_list (pv 4) (pe_op op_mod (pe_callTy call_int1 rfl T.z.y.x.n_int boot_intT (pa_cons (pv 7) pa_nil)) (pe_callB call_len rfl T.z.y.x.n_len PySem.boot_len (pa_cons (pv 4) pa_nil))) (fun _ _ => rfl)) (pa_cons (pv 2) (pa_cons (pv 3) pa_nil)))))) (pss_one (ps_ret (pe_tupF (pa_cons (pe_tup (pa_cons (pe_k (cl_draw T) hr (by decide) rfl (pa_cons (pv 0) (pa_cons (pe_op op_add (pe_callB call_len rfl T.z.y.x.n_len PySem.boot_len (pa_cons (pv 1) pa_nil)) pe_int) pa_nil))) (pa_cons (pe_callTy call_tuple_of rfl T.z.y.x.n_tuple boot_tupleT (pa_cons (pv 5) pa_nil)) pa_nil))) pa_nil)))))), fun f L ns ws G A ds Dd F p hp hA q => ?_⟩
  obtain ⟨es, n, k, rfl, hn, hk, hz⟩ := hp
  cases p with
  | @cons v1 _ _ _ p1 p =>
  cases p with
  | @cons v2 _ _ _ p2 p =>
  cases p with
  | @cons v3 _ _ _ p3 p =>
  cases p
  have W0 := Wk.start (R := RF f L) (Rl.ext hA)
  have u0 : ∀ {v d}, Dp K G v d → Dp K (gr G A [] A) v d := fun h => dp_up (gr_base W0) _ _ h
  have dr : ∀ {σ : L2.St} {X : Hp} {te : TE} {m : Int}, Wk (RF f L) G A [] X → σ[0]? = some (some (.ref f)) → EvS (RF f L) K te σ (gr G A [] X) (· = .int m) → 0 < m → m < 1073741824 → EvS (RF f L) K (tCall (spDraw K) [] E0 (tCons (tVar 0) (tCons te tNil))) σ (gr G A [] X) (fun d => ∃ k : Nat, d = .int k ∧ (k : Int) < m) := fun W h he h0 h1 => e_draw h (F.gr W) he h0 h1
  refine ws_set (K := K) W0 (S := LS fun es => ∃ zs : List Str, es = zs.map .str ∧ (∀ z ∈ zs, z ∈ codesL) ∧ 0 < zs.length ∧ zs.length ≤ 41) (e_lcB (Sl := fun gs => ∃ es fs, gs = es ++ fs ∧ C0 40 es ∧ fs = [.str "e"]) (e_catLS (Sa := C0 40) (Sb := (· = [.str "e"])) (e_split (e_any (es := scenesL.map .str) rfl (F.gr W0) (e_callD (F := fun _ => strsD scenesL) (ds := []) a_nil rfl) (by decide) (by decide))) (EvS.imp (e_lst1 (a_one e_str a_nil) (by decide)) fun d e => ⟨_, e, rfl⟩) fun es fs ⟨zs, e1, _, h⟩ e2 => ?_) fun v gs G' hG ⟨es', fs, e1, ⟨zs, e2, h1, h2⟩, e3⟩ pv => ?_) fun v4 d A1 W1 r1 ⟨cs, e4, zs, ez, hz1, hz2, hz3⟩ p4 => ?_
  · rw [e1, e2, List.length_map]
    show _ + 1 ≤ _
    omega
  · have eg : gs = (zs ++ (["e"] : List Str)).map .str := by rw [e1, e2, e3, List.map_append]; rfl
    subst eg
    have hc : Codes0 (zs ++ (["e"] : List Str)) := fun z hz => by
      rcases List.mem_append.1 hz with h | h
      · exact h1 z h
      · rw [List.mem_singleton.1 h]
        exact .inr (List.mem_cons_self ..)
    refine EvS.imp (e_codesX (e_val pv) hc (by show 6 < 8; decide) (by rw [List.length_append]; show _ + 1 ≤ _; omega)) fun d e => ⟨_, e, _, rfl, fun z hz => ?_, ?_, ?_⟩
    · obtain ⟨h3, h4⟩ := List.mem_filter.1 hz
      rcases hc z h3 with rfl | h
      · exact absurd h4 (by decide +kernel)
      · exact h
    · rw [List.filter_append, List.length_append]
      have : (List.filter (fun z => !(z == ("" : Str))) (["e"] : List Str)).length = 1 := by decide +kernel
      omega
    · refine Nat.le_trans (List.length_filter_le _ _) ?_
      rw [List.length_append]
      show _ + 1 ≤ _
      omega
  subst e4 ez
  have q2 := dp_up (gr_next r1) _ _ (u0 p2)
  have q3 := dp_up (gr_next r1) _ _ (u0 p3)
  have q1 := dp_up (gr_next r1) _ _ (u0 p1)
  refine ws_set (K := K) W1 (S := LS fun rs => (∀ e ∈ rs, rowOk e) ∧ 0 < rs.length ∧ rs.length ≤ 69) (EvS.imp (e_lc (Sd := fun i d => d = .int i) (Sn := fun n => 0 < n ∧ n ≤ 69) (fun i es => (∀ e ∈ es, rowOk e) ∧ es.length = i) (it_range (EvS.imp (e_opI (g := fun i j => i + j) (p := (· = 61)) (q := fun i => 0 ≤ i ∧ i < 9) (r := fun i => 61 ≤ i ∧ i ≤ 69) (e_intS rfl) (EvS.imp (dr (m := 9) W1 rfl e_int (by decide) (by decide)) fun d ⟨k, e, h⟩ => ⟨k, e, by omega, h⟩) fun i j h1 h2 => by rw [h1]; omega) fun d ⟨i, e, h1, h2⟩ => ⟨i.toNat, by rw [e, Int.toNat_of_nonneg (by omega)], by omega, by omega⟩) fun n h => by omega) (fun n h => by omega) ⟨(fun e h => by cases h), rfl⟩ fun i d x es' G' hG sd px iv le => ?_) fun d ⟨n', es', h1, e, h2, h3⟩ => ⟨es', e, h2.1, by omega, by omega⟩) fun v5 d A2 W2 r2 ⟨rs, e5, hr1, hr2, hr3⟩ p5 => ?_
  · subst sd
    have q4 := dp_up (fun a o t z => Rl.stay hG t z) _ _ p4
    refine ⟨_, b_name (j := 7), rfl, (· = true), (fun A hA Q q => q true A (Rl.refl A) rfl), fun _ => ?_, fun h => by cases h⟩
    have hlt : i % zs.length < zs.length := Nat.mod_lt _ hz2
    refine EvS.imp (e_callD (F := rowF) (ds := [.str zs[i % zs.length], pair2 n, pair2 k]) (a_one (e_op1 (e_var (i := 4) rfl q4) (e_op1 (dx := .int i) (dy := .int zs.length) (S := (· = .int ((i % zs.length : Nat) : Int))) (EvS.to (d := .int i) (z_to (z_imp (z_of (e_int1 (p := (· = (i : Int))) (e_varS (i := 7) rfl px rfl))) fun X v ⟨d, ⟨i', e1, e2⟩, pd⟩ => ⟨d, by rw [e1, e2], pd⟩)) rfl) (EvS.to (e_len (e_var (i := 4) rfl q4) (.inr (.inl ⟨_, rfl, rfl⟩))) (by rw [List.length_map])) (rs_I (by show (0 : Int) < zs.length; omega) fun X => by show Dp K X (V.int (((i : Nat) : Int) % ((zs.length : Nat) : Int))) _; rw [← Int.natCast_emod]; exact .int _)) (rs_ixL (d := .str zs[i % zs.length]) (atI_nat (by rw [List.getElem?_map, List.getElem?_eq_getElem hlt]; rfl)))) (a_one (e_var (i := 2) rfl (dp_up (fun a o t z => Rl.stay hG t z) _ _ q2)) (a_one (e_var (i := 3) rfl (dp_up (fun a o t z => Rl.stay hG t z) _ _ q3)) a_nil))) ⟨_, n, k, rfl, hz1 _ (List.getElem_mem hlt)⟩) fun e he => ⟨fun e' he' => ?_, by rw [List.length_append, iv.2]; rfl⟩
    rcases List.mem_append.1 he' with h | h
    · exact iv.1 e' h
    · rw [List.mem_singleton.1 h, he]
      exact ⟨_, n, k, hz1 _ (List.getElem_mem hlt), hn, hk, rfl⟩
  subst e5
  have q12 := dp_up (gr_next r2) _ _ q1
  refine w_evZ W2 (z_tupD (Sl := fun ds => ∃ g : Nat, g ≤ es.length ∧ ds = [entD ((g : Int), rs)]) (EvA.imp (a_cons (e_tup (Sl := fun ds => ∃ g : Nat, g ≤ es.length ∧ ds = [.int g, .tuple rs]) (EvA.imp (a_cons (dr (m := (es.length : Int) + 1) W2 rfl (e_op1 (e_len (e_var (i := 1) rfl q12) (.inl ⟨es, rfl, rfl⟩)) e_int (rs_I0 (e := .int ((es.length : Int) + 1)) fun X => .int _)) (by omega) (by omega)) (a_one (e_cb1 (ds := [.list rs]) (a_one (e_var (i := 5) rfl p5) a_nil) rc_tuple) a_nil)) fun ds ⟨d, es', e1, ⟨k, e2, h⟩, e3⟩ => ⟨k, by omega, by rw [e1, e2, e3]⟩) fun ds ⟨g, _, e⟩ => by rw [e]; show 2 ≤ 100000; decide) a_nil) fun ds ⟨d, es', e1, ⟨ds', e2, g, h, e3⟩, e4⟩ => ⟨g, h, by rw [e1, e2, e3, e4]; rfl⟩) fun ds ⟨g, _, e⟩ => by rw [e]; show 1 ≤ 100000; decide) (fun X Y v up ⟨ds, h, z⟩ => ⟨ds, h, PlainD.upA up z⟩) fun v B WB r ⟨ds, ⟨g, hg, e⟩, z⟩ => q v B WB.r fun es' he => ?_
  cases he
  subst e
  refine ⟨(g : Int), rs, z.up gr_own, List.pairwise_singleton _ _, fun m hm => ?_, by show rs.length + 0 ≤ 69; omega⟩
  rw [List.mem_singleton.1 hm]
  exact ⟨Int.natCast_nonneg g, Int.ofNat_le.2 hg, (fun e => by have e : rs = [] := e; rw [e] at hr2; cases hr2), hr1⟩
end
end K25
end
section
set_option maxRecDepth 100000
set_option maxHeartbeats 2000000
namespace K25
open PySem PySem.Spec PyProof.Rows L2
/-! ### what is shown -/
theorem shownAll_map : ∀ ds : List PyData, PyData.shownAll ds = ds.map PyData.shown
  | [] => by simp only [PyData.shownAll, List.map_nil]
  | d :: ds => by simp only [PyData.shownAll, List.map_cons, shownAll_map ds]
theorem showAll_all : ∀ {ds : List PyData}, (∀ d ∈ ds, d.showable = true) → PyData.showableAll ds = true
  | [], _ => by simp only [PyData.showableAll]
  | d :: ds, h => by simp only [PyData.showableAll, h d (List.mem_cons_self ..), showAll_all fun e he => h e (List.mem_cons_of_mem _ he), Bool.and_self]
theorem show_fine : ∀ {n : Nat} {d : PyData}, fine n d = true → d.showable = true
  | n, .none, _ => by simp only [PyData.showable]
  | n, .bool _, _ => by simp only [PyData.showable]
  | n, .int i, h => by
    have h : decide (i.natAbs.log2 < 1920) = true := by cases n <;> exact h
    simp only [PyData.showable, h]
  | n, .str _, _ => by simp only [PyData.showable]
  | n, .dict _, h => by
    have h : false = true := by cases n <;> exact h
    cases h
  | 0, .list _, h => by
    have h : false = true := h
    cases h
  | 0, .tuple _, h => by
    have h : false = true := h
    cases h
  | n + 1, .list ds, h => by
    have h : (decide (ds.length ≤ 4000) && ds.all (fine n)) = true := h
    rw [Bool.and_eq_true, List.all_eq_true] at h
    simp only [PyData.showable]
    exact showAll_all fun d hd => show_fine (h.2 d hd)
  | n + 1, .tuple ds, h => by
    have h : (decide (ds.length ≤ 4000) && ds.all (fine n)) = true := h
    rw [Bool.and_eq_true, List.all_eq_true] at h
    simp only [PyData.showable]
    exact showAll_all fun d hd => show_fine (h.2 d hd)
/-- small enough to be shown -/
def ShOk (d : PyData) : Prop := Fine d ∧ d.shown.length ≤ 16000000
theorem sum_le {α : Type} {f : α → Nat} {m : Nat} : ∀ {l : List α}, (∀ a ∈ l, f a ≤ m) → (l.map f).sum ≤ l.length * m
  | [], _ => Nat.zero_le _
  | a :: l, h => by
    have h1 := h a (List.mem_cons_self ..)
    have h2 := sum_le (l := l) fun b hb => h b (List.mem_cons_of_mem _ hb)
    rw [List.map_cons, List.sum_cons, List.length_cons, Nat.succ_mul]
    omega
theorem shown_tup {ds : List PyData} {m : Nat} (h : ∀ d ∈ ds, d.shown.length ≤ m) : (PyData.tuple ds).shown.length ≤ ds.length * (m + 2) + 3 := by
  simp only [PyData.shown]
  refine Nat.le_trans (tupleText_len_le _) ?_
  rw [shownAll_map, List.map_map, List.length_map]
  have := sum_le (f := (fun s : Str => s.length) ∘ PyData.shown) (m := m) (l := ds) h
  rw [Nat.mul_add]
  omega
theorem shown_lst {ds : List PyData} {m : Nat} (h : ∀ d ∈ ds, d.shown.length ≤ m) : (PyData.list ds).shown.length ≤ ds.length * (m + 2) + 3 := by
  simp only [PyData.shown]
  refine Nat.le_trans (listText_len_le _) ?_
  rw [shownAll_map, List.map_map, List.length_map]
  have := sum_le (f := (fun s : Str => s.length) ∘ PyData.shown) (m := m) (l := ds) h
  rw [Nat.mul_add]
  omega
/-! ### repr -/
section
variable {X : Cx}
theorem call_reprD (hg : X.A.guards = some []) (hu : X.A.units + 64 < cLine) : CallR X (.builtin "repr") (fun xs H Q => ∃ v d, xs = [v] ∧ Dp X.K H v d ∧ ShOk d ∧ Q (.str d.shown) H) := by
  intro pins s σ H xs us Q I r h
  obtain ⟨v, d, rfl, pd, ⟨⟨n, hn, hf⟩, hz⟩, q⟩ := h
  obtain ⟨u, rfl, ru⟩ := vals1 r
  have hz2 : d.shown.length ≤ sizeLine := Nat.le_trans hz (by decide)
  have hs := show_fine hf
  obtain ⟨hl, hd⟩ := lay_fine hf
  obtain ⟨as, rr⟩ := Dp.reads I d v u pd ru
  have big : ∀ a, u = .ref a → wpAny (model X.prog X.w) X.A (call (.builtin "repr") [u]) (EP X pins σ Q) X.xe s := fun a e => by
    subst e
    exact repr_of_reads' rr hs (PyData.noDict_hsm (PyData.hasDict_of_canLay d hl)) hg (by omega) (fun _ _ e => e) (fun h' t tk hk => ⟨.str d.shown, H, I.kept hk, ⟨t, rfl⟩, q⟩) hz2
  cases pd with
  | non =>
    cases ru
    refine PySem.P.repr_of_none ⟨.str _, H, I.tok _, ⟨_, rfl⟩, ?_⟩
    simpa only [PyData.shown] using q
  | bl b =>
    cases ru
    refine PySem.P.repr_of_bool ⟨.str _, H, I.tok _, ⟨_, rfl⟩, ?_⟩
    simpa only [PyData.shown] using q
  | int i =>
    obtain ⟨t, rfl⟩ := ru
    have hi : i.natAbs.log2 < 1920 := by
      simp only [PyData.showable, decide_eq_true_eq] at hs
      exact hs
    refine PySem.P.repr_of_int hi ⟨.str _, H, I.tok _, ⟨_, rfl⟩, ?_⟩
    simpa only [PyData.shown] using q
  | str x =>
    obtain ⟨t, rfl⟩ := ru
    simp only [PyData.shown] at hz2 q
    exact PySem.P.repr_of_str ⟨.str _, H, I.tok _, ⟨_, rfl⟩, q⟩ hz2
  | lst hs ha =>
    cases ru
    exact big _ rfl
  | tup hs ha =>
    cases ru
    exact big _ rfl
end
/-! ### defs that ask for free guards -/
structure FnG (P : Program) (w : World) (K : PySem.W.Frag) (mg : Str → Option Value) (base : Heap) (CX : CXT) (k : Nat) (f : Addr) (fd : FuncData) (ps : List Str) (sp : Sp) : Prop where
  len : ∀ vs H Q E, sp vs H Q E → vs.length = ps.length
  run : ∀ (A : Around) (outer : List Env) (s : Shared) (H : Hp) (args : Args) (us : List Value) (vs : List V) (Q : VK) (E : XK), A.guards = some [] → Room k A → Env0 P w K mg base A outer s H → BindsTo s fd args (ps.zip us) → Vals vs us → sp vs H Q E →
    codeAny (model P w) A (.call (.ref f) args) (CR CX outer P w H s Q E) s
structure ClG (P : Program) (w : World) (K : PySem.W.Frag) (mg : Str → Option Value) (base : Heap) (k : Nat) (x : Str) (sp : Sp) : Prop where
  ex : ∃ f fd ps, FnG P w K mg base CX0 k f fd ps sp ∧ mg x = some (.ref f) ∧ PySem.W.keepIn K (.ref f) = true ∧ L2.Binds K fd ps []
section
variable {P : Program} {w : World} {K : PySem.W.Frag} {mg : Str → Option Value} {base : Heap}
theorem clg_of {x : Str} {st : Stmt} {N ps : List Str} {k : Nat} {sp : Sp} (D : DefAt K mg x st)
    (hb : ∀ (kV doc pm : Value) (an : Option Addr) (cdv ct : Value) (us : List Value), us.length = ps.length → bindArgs (PySem.W.fnOf x x (defArgs st) (defBody st) (defScope st) .none kV doc pm an cdv ct) ⟨us, []⟩ = pure (ps.zip us))
    (Sc : FnScope N ps (defScope st)) (hn : ∀ vs H Q E, sp vs H Q E → vs.length = ps.length)
    (hbody : ∀ (f : Addr) (cdv : Value) (A : Around) (outer : List Env) (s : Shared) (H : Hp) (vs : List V) (Q : VK) (E : XK), K.lookup f ≠ none → mg x = some (.ref f) → A.guards = some [] → Room k (A.deeper (envOfC x (defScope st) s.heap.objs.size f cdv)) → sp vs H Q E →
      ∃ t, PSs (cxOf CX0 P w K mg base N x (defScope st) f cdv A outer s H E) (defBody st) t ∧ t { nx := fun _ H' => Q .non H', rt := Q } (L2.start N vs) H) :
    ClG P w K mg base (k + 1) x sp := by
  obtain ⟨f, fd, F, hm⟩ := D
  have hbn := F.binds hb
  obtain ⟨oc, od, kV, doc, pm, an, cdv, ct, osl, rfl, lk, hcd⟩ := F.ex
  exact ⟨f, _, ps, ⟨hn, fun A outer s H args us vs Q E hg hr e0 hbi r h => LamX.run_ofS lk hcd Sc hr e0 hbi r (hn _ _ _ _ h) fun hr' => hbody f cdv A outer s H vs Q E (by rw [lk]; simp) hm hg hr' h⟩, hm, F.kp, hbn⟩
end
section
variable {X : Cx} {x : Str} {j k : Nat} {sp : Sp} {t : TA} {e : Expr} {es : List Expr} {p pos : Pos}
theorem pe_kg (c : ClG X.prog X.w X.K X.mg X.base k x sp) (hgd : X.A.guards = some []) (hr : Room j X.A) (hk : k ≤ j) (hg : Gl X x) (ha : PA X (e :: es) t) (hdb : (x == ("__debug__" : Str)) = false := by decide)
    (he : starEach (e :: es) X.env = (false, eval e X.env) :: starEach es X.env := by rfl) (hpl : (backTo pos (starEach es X.env)).any (·.1) = false := by rfl) : PE X (.Call (.Name x p) (e :: es) [] pos) (tCall sp [] E0 t) := by
  obtain ⟨f, fd, ps, F, hm, kp, b⟩ := c.ex
  refine ⟨fun pins s σ H Q I h => ?_⟩
  refine wpAny_Call_Name_kw (ld_glob I hg hm ?_ hdb)
  refine PySem.W.callWith_K (h₀ := X.base) I.ok.mod.kin kp (thn (ha.run pos pins s σ H _ I h) fun us s1 ⟨vs, H1, I1, r, q⟩ => ⟨I1.kIn, ?_⟩) he hpl
  have q : sp (vs ++ []) H1 Q E0 := q
  rw [List.append_nil] at q
  have hl : us.length = ps.length := by rw [← r.length]; exact F.len _ _ _ _ q
  have bb := b s1 us I1.kIn (by rw [List.append_nil]; exact hl)
  rw [List.append_nil] at bb
  refine wpAny_call (codeAny_mono (F.run X.A X.stack s1 H1 ⟨us, []⟩ us vs Q E0 hgd (hr.mono hk) I1.env0 bb r q) fun rr s' hq => ?_)
  cases rr with
  | error e => exact (show False from hq).elim
  | ok fl =>
    cases fl with
    | ret u => exact I1.after hq
    | next => exact False.elim hq
    | brk => exact False.elim hq
    | cont => exact False.elim hq
end
/-! ### _law_same, of equal data -/
def spSame (K : PySem.W.Frag) : Sp := fun vs H Q _ => ∃ (G : Hp) (d : PyData), Same G H ∧ DpAll K G vs [d, d] ∧ ShOk d ∧ ∀ B, Same H B → Q (.bl true) B
section
variable {P : Program} {w : World} {K : PySem.W.Frag} {mg : Str → Option Value} {base : Heap} {C fI cc : Addr}
theorem sc_same : FnScope ["_law_told", "_law_due"] ["_law_told", "_law_due"] (defScope s__law_same) := ⟨rfl, rfl, rfl, by decide +kernel, rfl, by decide +kernel, by decide +kernel⟩
theorem cl_same (T : Tl P K mg C fI cc) : ClG P w K mg base 1 "_law_same" (spSame K) := by
  refine clg_of (ps := ["_law_told", "_law_due"]) T.d_same (fun _ _ _ _ _ _ us hl => match us, hl with | [_, _], _ => rfl) sc_same (fun vs H Q E ⟨G, d, _, p, _⟩ => by rw [dpa_len p]; rfl) fun f cdv A outer s H vs Q E _ _ hg hr h => ?_
  obtain ⟨G, d, sm, p, hs, q⟩ := h
  cases p with
  | @cons v1 _ _ _ p1 p =>
  cases p with
  | @cons v2 _ _ _ p2 p =>
  cases p
  have up : ∀ {v}, Dp K G v d → Dp K H v d := fun h => dp_up (fun a o _ e => sm a o e) _ _ h
  refine ⟨_, (pss_one (ps_ret (pe_cmpR op_eq (pe_callB (call_reprD hg hr.units) rfl T.n_repr boot_repr (pa_cons (pv 0) pa_nil)) (pe_callB (call_reprD hg hr.units) rfl T.n_repr boot_repr (pa_cons (pv 1) pa_nil)) (nomark _)))), ?_⟩
  refine ⟨v1, rfl, v1, d, rfl, up p1, hs, v2, rfl, v2, d, rfl, up p2, hs, rfl, ?_⟩
  rw [decide_eq_true rfl]
  exact q H (Same.refl H)
end
section
variable {R : Hp → Hp → Prop} [Rl R] {K : PySem.W.Frag} {σ : L2.St} {G : Hp} {ta tb : TE} {d : PyData} {S : PyData → Prop} {E : XK}
theorem e_same (h1 : EvS R K ta σ G (· = d)) (h2 : EvS R K tb σ G (· = d)) (hs : ShOk d) : EvS R K (tCall (spSame K) [] E (tCons ta (tCons tb tNil))) σ G (· = .bool true) := fun A hA Q q =>
  a_one h1 (a_one h2 a_nil) A hA _ fun vs ds B r e p => by
    subst e
    show spSame K (vs ++ []) B Q E
    rw [List.append_nil]
    exact ⟨own G A B, d, own_same, p, hs, fun C rC => q (.bl true) (.bool true) C (Rl.trans r (Rl.ext rC)) rfl (.bl true)⟩
end
end K25
end
section
set_option maxRecDepth 100000
set_option maxHeartbeats 2000000
namespace K25
open PySem PySem.Spec PyProof.Rows L2
/-! ### isinstance of a caught error that has fields -/
def rIsX (K : PySem.W.Frag) (D a : Addr) (cls : Value) (d : Option Addr) : List V → Hp → VK → Prop := fun xs H Q =>
  cls = .ref D ∧ ∃ (dd : Addr) (fs : List (Str × V)) (c : V) (cv : Value) (b : Bool), d = some dd ∧ H dd = some (.xd fs) ∧ xs = [.ref a, c] ∧ (∀ u, RelV c u → u = cv) ∧ PySem.W.kitOne K (.ref D) cv = some b ∧ Q (.bl b) H
theorem call_isX {X : Cx} {a D : Addr} {oe : Obj} {cls : Value} {d : Option Addr} {pn : List (Addr × Obj)} (C : ExcC X.K D) (hz : Zc cls d oe) (hf : ∃ vs, oe.data = .fields vs) : CallR (X.suite a ((a, oe) :: pn)) (.builtin "isinstance") (rIsX X.K D a cls d) := by
  intro pins s σ H xs us Q I r h
  obtain ⟨rfl, dd, fs, c, cv, b, rfl, hd, rfl, hcv, e, q⟩ := h
  cases r with
  | cons rx rr =>
    cases rr with
    | cons rt rr =>
      cases rr
      cases rx
      have ec := hcv _ rt
      subst ec
      have there : s.heap.get? a = some oe := (I.pin (a, oe) (List.mem_append.mpr (.inl List.mem_cons_self))).1
      have hx : ObjOk X.prog X.w H s.heap dd (.xd fs) := I.hok dd _ hd
      obtain ⟨mA, hns, _⟩ := hx
      obtain ⟨od, ho, _⟩ := lookIn_ns hns
      obtain ⟨vs, hv⟩ := hf
      have J : PySem.W.InstAt s.heap a oe D (some od) := ⟨there, hz.1, by unfold PySem.W.notCls; rw [hv] <;> rfl, by rw [hz.2]; exact ho⟩
      have hcl : (PySem.W.clsIn X.K D).isSome = true := by
        obtain ⟨cd, hc, _⟩ := PySem.W.any_some C.hd
        rw [hc]
        rfl
      exact PySem.W.kia_one (PySem.W.kitx_exc hcl C.hg C.hk C.hs C.ha C.hn C.ht C.hm) I.kIn J e (fun z => nomatch z) fun tk => ⟨.bl b, H, I.kept (t' := tk) fun _ _ z => z, rfl, q⟩
/-! ### lambdas that are kept -/
structure LamDat where
  params : Arguments
  body : Expr
  scope : Scope
  t : XK → TE
abbrev lamQ (X : Cx) : Str := X.env.qual ++ "<lambda>"
def LamO (X : Cx) (D : LamDat) (f c' : Addr) (pm ctv : Value) : HO := .ext fun h => h.get? f = some (PySem.W.kla_obj "<lambda>" (lamQ X) D.params D.body D.scope (cloFrom X.env.cells D.scope.names []) pm c' ctv)
structure LamOk (X : Cx) (k : Nat) (D : LamDat) : Prop where
  s : LamX.LamS X.env.scope D.scope
  df : defaultsOf D.params X.env = ([], [])
  bd : ∀ (q : Str) (cl : List (Str × Addr)) (pm cv ctv : Value), bindArgs (PySem.W.kla_fn "<lambda>" q D.params D.body D.scope cl pm cv ctv) ⟨[], []⟩ = pure []
  bo : ∀ (A : Around) (outer : List Env) (s : Shared) (H : Hp) (E : XK) (f c' : Addr), Room k (A.deeper (LamX.lamEnv X D.scope s.heap.objs.size f c')) → PE (LamX.lamCx X A outer s H E D.scope f c') D.body (D.t E)
section
variable {X : Cx} {T : List (Addr × Str)} {c P : Addr} {k : Nat} {D : LamDat}
/-- the table of the maker -/
structure LamT (X : Cx) (T : List (Addr × Str)) (c P : Addr) : Prop where
  tb : LamX.TabB X.base X.mg c P
  cd : X.env.code = .ref c
  mem : (P, lamQ X) ∈ T
  un : ∀ p ∈ T, p.1 = P → p.2 = lamQ X
def tMk (X : Cx) (T : List (Addr × Str)) (D : LamDat) : TE := fun _ H Q => LamX.Tabs T H ∧ ∀ (f c' : Addr) (pm ctv : Value) (B : Hp), LamX.ExtN H B → LamX.Tabs T B → (∀ a, B a = none → H a = none) → B f = some (LamO X D f c' pm ctv) → B c' = some (LamX.CodeO c' (lamQ X)) → Q (.ref f) B
/-- a function object, tracked -/
theorem lam_track {pins : List (Addr × Obj)} {σ : L2.St} {H : Hp} {s : Shared} {c' : Addr} {pm ctv : Value} {hp h' : Heap} {tk : Nat} (I : Inv X pins σ H { s with heap := hp, toks := tk }) (e : h' = hp.push (PySem.W.kla_obj "<lambda>" (lamQ X) D.params D.body D.scope (cloFrom X.env.cells D.scope.names []) pm c' ctv)) :
    Inv X pins σ (upd H hp.objs.size (LamO X D hp.objs.size c' pm ctv)) { s with heap := h', toks := tk } := by
  subst e
  have g : (hp.push (PySem.W.kla_obj "<lambda>" (lamQ X) D.params D.body D.scope (cloFrom X.env.cells D.scope.names []) pm c' ctv)).get? hp.objs.size = some (PySem.W.kla_obj "<lambda>" (lamQ X) D.params D.body D.scope (cloFrom X.env.cells D.scope.names []) pm c' ctv) := Heap.get?_push_size _ rfl
  exact I.laid (t' := tk) (fun b u z => Heap.get?_push_of_some _ z) (Nat.le_refl _) ⟨g, ⟨_, g⟩, fun h1 h2 a st => st _ a⟩
theorem pe_lam {pos : Pos} (L : LamT X T c P) (ok : LamOk X k D) : PE X (.Lambda D.params D.body D.scope pos) (tMk X T D) := by
  refine ⟨fun pins s σ H Q I hq => PySem.W.kla_eval ok.df ?_⟩
  obtain ⟨tabs, q⟩ := hq
  obtain ⟨row, hP, trip, known⟩ := tabs _ L.mem
  have capt := ok.s.has I.ok
  have hbP := L.tb.bm.keeps I.bk
  have heapP : s.heap.get? P = some { cls := .none, data := .fields row } := I.hok P _ hP
  cases look : codeAmong pos row.toList with
  | some cv =>
    obtain ⟨c', rfl, hco⟩ := known pos cv look
    refine PySem.W.kla_makeFunctionHit (mg := X.mg) (c := c) (P := P) (ps := row) (closure_ok capt) I.ok.glob (I.mod.glob.keeps I.bk) L.cd (L.tb.code.keeps I.bk) heapP trip look hbP fun ctv hp tk keep size => ?_
    have J : Inv X pins σ H { s with heap := hp, toks := tk } := I.kept keep
    have fr : H hp.objs.size = none := I.hok.fresh size
    have up : ∀ b o, H b = some o → upd H hp.objs.size (LamO X D hp.objs.size c' ((X.mg "__name__").getD .none) ctv) b = some o := fun b o z => by rw [upd_ne (ne_of_none z fr)]; exact z
    exact ⟨.ref hp.objs.size, _, lam_track (D := D) (c' := c') (pm := (X.mg "__name__").getD .none) (ctv := ctv) J rfl, rfl, q _ c' _ ctv _ (LamX.ExtN.of up) (tabs.ext up) (fun a z => by
      by_cases ea : a = hp.objs.size
      · rw [ea]
        exact fr
      · rw [upd_ne ea] at z
        exact z) upd_same (up _ _ hco)⟩
  | none =>
    refine PySem.W.kla_makeFunction (mg := X.mg) (c := c) (P := P) (ps := row) (closure_ok capt) I.ok.glob (I.mod.glob.keeps I.bk) L.cd (L.tb.code.keeps I.bk) heapP trip look L.tb.gP hbP fun c' ctv hp tk keep new less rec_ tabP => ?_
    obtain ⟨_, oc, vs, t, same, hoc, hd, hv⟩ := rec_
    cases same
    have fc : H c' = none := I.hok.fresh new
    have nPc := ne_of_none hP fc
    have J := LamX.inv_table (t' := tk) (more := #[rawInt pos.line, rawInt pos.col, .ref c']) (h' := hp) I hP (fun b o hb z => keep b o hb z) tabP new ⟨oc, vs, t, hoc, hd, hv⟩
    have fr := J.hok.fresh (Nat.le_refl hp.objs.size)
    have nf : H hp.objs.size = none := I.hok.fresh (Nat.le_trans new (Nat.le_of_lt less))
    have up0 : LamX.ExtN H (upd (upd H P (.tbl (row ++ #[rawInt pos.line, rawInt pos.col, .ref c']))) c' (LamX.CodeO c' (lamQ X))) := fun b o z n => by
      rw [upd_ne (ne_of_none z fc), upd_ne (fun w => n row (Option.some.inj (z.symm.trans (by rw [w]; exact hP))))]
      exact z
    have list : (row ++ #[rawInt pos.line, rawInt pos.col, Value.ref c']).toList = row.toList ++ [rawInt pos.line, rawInt pos.col, .ref c'] := by simp
    have tabs0 : LamX.Tabs T (upd (upd H P (.tbl (row ++ #[rawInt pos.line, rawInt pos.col, .ref c']))) c' (LamX.CodeO c' (lamQ X))) := fun p hp' => by
      by_cases hb : p.1 = P
      · rw [L.un p hp' hb, hb]
        refine ⟨_, by rw [upd_ne nPc, upd_same], by rw [list]; exact PySem.TriplesOk_snoc _ _ _ _ trip, fun p2 cv hcv => ?_⟩
        rw [list] at hcv
        rcases LamX.among_app _ trip hcv with z | z
        · obtain ⟨c0, z1, z2⟩ := known p2 cv z
          exact ⟨c0, z1, up0 _ _ z2 LamX.codeO_ne⟩
        · exact ⟨c', z, upd_same⟩
      · obtain ⟨row2, z1, z2, z3⟩ := tabs p hp'
        refine ⟨row2, by rw [upd_ne (ne_of_none z1 fc), upd_ne hb]; exact z1, z2, fun p2 cv hcv => ?_⟩
        obtain ⟨c0, y1, y2⟩ := z3 p2 cv hcv
        exact ⟨c0, y1, up0 _ _ y2 LamX.codeO_ne⟩
    have up1 : ∀ b o, (upd (upd H P (.tbl (row ++ #[rawInt pos.line, rawInt pos.col, .ref c']))) c' (LamX.CodeO c' (lamQ X))) b = some o → upd (upd (upd H P (.tbl (row ++ #[rawInt pos.line, rawInt pos.col, .ref c']))) c' (LamX.CodeO c' (lamQ X))) hp.objs.size (LamO X D hp.objs.size c' ((X.mg "__name__").getD .none) ctv) b = some o := fun b o z => by rw [upd_ne (ne_of_none z fr)]; exact z
    exact ⟨.ref hp.objs.size, _, lam_track (D := D) (c' := c') (pm := (X.mg "__name__").getD .none) (ctv := ctv) J rfl, rfl, q _ c' _ ctv _ (fun b o z n => up1 b o (up0 b o z n)) (tabs0.ext up1) (fun a z => by
      by_cases e1 : a = hp.objs.size
      · rw [e1]
        exact nf
      · rw [upd_ne e1] at z
        by_cases e2 : a = c'
        · rw [e2]
          exact fc
        · rw [upd_ne e2] at z
          by_cases e3 : a = P
          · rw [e3, upd_same] at z
            cases z
          · rw [upd_ne e3] at z
            exact z) upd_same (up1 _ _ upd_same)⟩
end
/-! ### _law_heard -/
/-- the call of a kept lambda, in the def that got it: X made it; Z is that def's context, entered at s -/
theorem pe_run {X : Cx} {pins : List (Addr × Obj)} {σ : L2.St} {H : Hp} {s : Shared} {CXg : CXT} {Eg E : XK} {Ng : List Str} {qg a : Str} {sg : Scope} {g f c' : Addr} {cdg pm ctv : Value} {k i : Nat} {D : LamDat} {pn : List (Addr × Obj)} {xe : Value → Shared → Prop} {W : WX} {p1 p2 : Pos}
    (I : Inv X pins σ H s) (ok : LamOk X k D) (tk : Takes ((cxOf CXg X.prog X.w X.K X.mg X.base Ng qg sg g cdg X.A X.stack s H Eg).tr pn xe) W) (hW : ∀ cls d σ' H', E cls d H' → W cls d σ' H')
    (hr : Room (k + 1) (X.A.deeper (envOfC qg sg s.heap.objs.size g cdg))) (hN : Ng[i]? = some a) (hv : Vis sg a) (hd : (a == ("__debug__" : Str)) = false := by decide) (hcd : (a == ("__classdict__" : Str)) = false := by decide) :
    PE ((cxOf CXg X.prog X.w X.K X.mg X.base Ng qg sg g cdg X.A X.stack s H Eg).tr pn xe) (.Call (.Name a p1) [] [] p2)
      (fun σZ HZ Q => σZ[i]? = some (some (.ref f)) ∧ HZ f = some (LamO X D f c' pm ctv) ∧ HZ c' = some (LamX.CodeO c' (lamQ X)) ∧ D.t E σ HZ Q) := by
  refine ⟨fun pinsZ sZ σZ HZ Q IZ ⟨hs, hf, hc, ht⟩ => ?_⟩
  refine wpAny_Call_Name_kw (thn ((pe_var (pos := p1) (i := i) hN hv hd hcd).run pinsZ sZ σZ HZ (fun v H1 => v = .ref f ∧ H1 = HZ) IZ ⟨.ref f, hs, rfl, rfl⟩) fun u s1 ⟨v, H1, I1, r1, ev, eH⟩ => ?_)
  subst ev
  rw [eH] at I1
  obtain rfl : u = Value.ref f := r1
  have of1 : s1.heap.get? f = some (PySem.W.kla_obj "<lambda>" (lamQ X) D.params D.body D.scope (cloFrom X.env.cells D.scope.names []) pm c' ctv) := (I1.hok f _ hf).1
  refine PySem.W.callWith_F0 ⟨_, _, _, _, of1⟩ ?_
  have un : Un (frs X.stack) [] H HZ s.heap s1.heap := I1.base
  obtain ⟨⟨oc, vs, t, hoc, hdc, hvc⟩, _, _⟩ := I1.hok c' _ hc
  have rc : codeAny (model X.prog X.w) (X.A.deeper (envOfC qg sg s.heap.objs.size g cdg)) (.call (.ref f) ⟨[], []⟩) (CR (L2.CX X.prog X.w) (envOfC qg sg s.heap.objs.size g cdg :: X.stack) X.prog X.w HZ s1 Q E) s1 := by
    refine PySem.W.kla_callFunE hr.depth of1 rfl ok.s.co ok.s.gen rfl ⟨c', oc, vs, t, rfl, hoc, hdc, hvc⟩ ?_
    rw [ok.bd]
    refine wpAny_pure (wpAny_newFunctionEnv (fun y hy => (ok.s.own y hy).2) (fun y hy => absurd hy (by simp)) (fun h₁ hns hsb => ⟨I1.nolimit.fresh _ hsb, ?_⟩) ok.s.kind)
    show codeAny _ _ (.expr D.body (LamX.lamEnv X D.scope s1.heap.objs.size f c')) _ _
    have kp : ∀ b o, s1.heap.get? b = some o → h₁.get? b = some o := fun b o z => hsb.extBut b o (Nat.ne_of_lt (Heap.lt_size z)) (Heap.get?_push_of_some _ z)
    have J : Inv (LamX.lamCx X (X.A.deeper (envOfC qg sg s.heap.objs.size g cdg)) (envOfC qg sg s.heap.objs.size g cdg :: X.stack) s1 HZ E D.scope f c') [] σ HZ { s1 with heap := h₁, toks := s1.toks + ([] : List (Str × Value)).length } :=
      LamX.lam_start2 I ok.s I1.env0 hr.hd un hns kp
    refine PySem.W.kla_codeExpr (wpAny_mono ((ok.bo _ _ s1 HZ E f c' (hr.deeper _)).run [] _ _ HZ Q J ht) (fun v s' hq => ?_) fun e s' hq => hq)
    obtain ⟨w2, B, J2, rv, q⟩ := hq
    exact ⟨w2, B, J2.os, J2.bare, J2.base, J2.hok, rv, q⟩
  refine wpAny_call (codeAny_mono rc fun r s' hq => ?_)
  have hx : Passes (L2.CX X.prog X.w) ((cxOf CXg X.prog X.w X.K X.mg X.base Ng qg sg g cdg X.A X.stack s H Eg).tr pn xe) E := passes_call tk hW
  cases r with
  | error e => exact hx pinsZ σZ HZ s1 e s' I1 hq
  | ok fl =>
    cases fl with
    | ret u => exact I1.after hq
    | next => exact hq.elim
    | brk => exact hq.elim
    | cont => exact hq.elim
theorem look_word (vw va : V) : List.lookup ("word" : Str) (nuF vw va) = some vw := by
  have nq : (("word" : Str) == ("at" : Str)) = false := by decide +kernel
  simp [List.lookup, nuF, nq]
theorem takes_len {X : Cx} {W : WX} (tk : Takes X W) : Takes X (fun c d σ H => σ.length = X.N.length → W c d σ H) := fun u s' ⟨a, B, sI, pins, σ, H, cls, d, h1, I, h2, h3, h4, h5, h6, h7, w⟩ =>
  tk u s' ⟨a, B, sI, pins, σ, H, cls, d, h1, I, h2, h3, h4, h5, h6, h7, w I.len⟩
/-- what is heard -/
def TTh (C : Addr) (tl : XK → Hp → VK → Prop) (H : Hp) (Q : VK) : Prop :=
  tl (fun cls d H' => cls = .ref C ∧ ∃ (dd : Addr) (vw va : V), d = some dd ∧ H' dd = some (.xd (nuF vw va)) ∧ ∀ t, H' t = none → Q (.ref t) (upd H' t (.tup [.str "use", vw, va]))) H
    (fun v H' => ([V.str "told", v] : List V).length ≤ sizeLine ∧ ∀ t, H' t = none → Q (.ref t) (upd H' t (.tup [.str "told", v])))
def tHeard (X : Cx) (C : Addr) (k : Nat) (te : TE) : TE := fun σ H Q => te σ H fun v H1 => ∃ (D : LamDat) (f c' : Addr) (pm ctv : Value), [v] = [V.ref f] ∧ LamOk X k D ∧ H1 f = some (LamO X D f c' pm ctv) ∧ H1 c' = some (LamX.CodeO c' (lamQ X)) ∧ TTh C (fun E H' Q' => D.t E σ H' Q') H1 Q
/-- the program's facts, with the errors -/
structure Tq (P : Program) (K : PySem.W.Frag) (mg : Str → Option Value) (C fI cc SE : Addr) : Prop where
  t : Tl P K mg C fI cc
  g_SE : mg "SurelyError" = some (.ref SE)
  ex : PySem.W.exmOne K (.ref C) (.ref SE) = some true
  xf : L2.XfC K C
  xc : ExcC K C
  kit : PySem.W.kitOne K (.ref C) (.ref C) = some true
abbrev tsHeard (K : PySem.W.Frag) (C : Addr) (a : Addr) (cls : Value) (d : Option Addr) : TS :=
  tSeq (tIfS (tB (tCB (rIsX K C a cls d) (tCons (tVar 1) (tCons (tC (.ref C)) tNil)))) (tRet (tTup (tCons (tC (.str "use")) (tCons (tXf a cls d C "word" (tVar 1)) (tCons (tXf a cls d C "at" (tVar 1)) tNil))))) tNext) (tRet (tTup (tCons (tC (.str "odd")) tNil)))
theorem sc_heard : FnScope ["_law_ask", "error"] ["_law_ask"] (defScope s__law_heard) := ⟨rfl, rfl, rfl, by decide +kernel, rfl, by decide +kernel, by decide +kernel⟩
section
variable {X : Cx} {C fI cc SE : Addr}
theorem pe_heard {e : Expr} {te : TE} {p pos : Pos} {k : Nat} (T : Tq X.prog X.K X.mg C fI cc SE) (he : PE X e te) (hr : Room (k + 2) X.A) (hg : Gl X "_law_heard")
    (hs : starEach [e] X.env = (false, eval e X.env) :: starEach [] X.env := by rfl) (hpl : (backTo pos (starEach [] X.env)).any (·.1) = false := by rfl) : PE X (.Call (.Name "_law_heard" p) [e] [] pos) (tHeard X C k te) := by
  obtain ⟨g, fd, F, hm⟩ := T.t.d_heard
  have hbn := F.binds (ps := ["_law_ask"]) fun _ _ _ _ _ _ us hl => match us, hl with | [_], _ => rfl
  have kp := F.kp
  obtain ⟨oc, od, kV, doc, pm, an, cdv, ct, osl, rfl, lk, hcd⟩ := F.ex
  refine ⟨fun pins s σ H Q I h => ?_⟩
  refine wpAny_Call_Name_kw (ld_glob I hg hm ?_)
  refine PySem.W.callWith_K (h₀ := X.base) I.ok.mod.kin kp (thn ((pa_cons he pa_nil hs).run pos pins s σ H (fun vs H1 => ∃ (D : LamDat) (f c' : Addr) (pm ctv : Value), vs = [V.ref f] ∧ LamOk X k D ∧ H1 f = some (LamO X D f c' pm ctv) ∧ H1 c' = some (LamX.CodeO c' (lamQ X)) ∧ TTh C (fun E H' Q' => D.t E σ H' Q') H1 Q) I h) fun us s1 hh => ?_) hs hpl
  obtain ⟨vs, H1, I1, r, D, f, c', pm', ctv, rfl, ok, hf, hc, q⟩ := hh
  refine ⟨I1.kIn, ?_⟩
  have rc : codeAny (model X.prog X.w) X.A (.call (.ref g) ⟨us, []⟩) (CR CX0 X.stack X.prog X.w H1 s1 Q E0) s1 := by
    refine LamX.run_ofS (N := ["_law_ask", "error"]) (ps := ["_law_ask"]) (us := us) (vs := [.ref f]) lk hcd sc_heard hr I1.env0 (by have bb := hbn s1 us I1.kIn (by rw [List.append_nil, ← r.length]; rfl); rw [List.append_nil] at bb; exact bb) r rfl fun hr2 => ?_
    have hT := T
    refine ⟨_, (pss_one (ps_try_as (X := (cxOf CX0 X.prog X.w X.K X.mg X.base ["_law_ask", "error"] "_law_heard" (defScope s__law_heard) g cdv X.A X.stack s1 H1 E0).nox) (i := 1) (n := "error") (x := "SurelyError") (c := .ref SE) (Wout := fun _ _ _ _ => False) (ts := fun a cls d => tsHeard X.K C a cls d)
      (tb := fun W D' σ' H' => ∃ Ech : XK, (∀ cls d σ2 H2, Ech cls d H2 → (σ2 : L2.St).length = 2 → W cls d σ2 H2) ∧ tTup (tCons (tC (.str "told")) (tCons (fun σZ HZ Q => σZ[0]? = some (some (.ref f)) ∧ HZ f = some (LamO X D f c' pm' ctv) ∧ HZ c' = some (LamX.CodeO c' (lamQ X)) ∧ D.t Ech σ HZ Q) tNil)) σ' H' D'.rt)
      rfl rfl sc_heard.nd rfl (by rfl) ⟨(by rfl), by decide, .inl hT.g_SE⟩ LamX.takes0 (fun W pn xe tk _ => ?_) fun a oe cls d pn hz hfs => ?_)).nox, ?_⟩
    · refine ⟨fun pins2 s2 σ2 H2 D2 I2 h2 => ?_⟩
      obtain ⟨Ech, hW, h3⟩ := h2
      exact (pss_one (ps_ret (pe_tup (pa_cons pe_str (pa_cons (pe_run (CXg := CX0) (Eg := E0) (Ng := ["_law_ask", "error"]) (i := 0) I1 ok (takes_len tk) hW hr2 rfl (Or.inl rfl)) pa_nil))))).run pins2 s2 σ2 H2 D2 I2 h3
    · exact (pss_cons (ps_if (pt_val (pe_callB (call_isX hT.xc hz hfs) rfl hT.t.z.y.x.n_isinstance boot_isi (pa_cons (pv 1) (pa_cons (pe_glob (v := .ref C) rfl hT.t.z.y.nu.gC rfl) pa_nil)))) (pss_one (ps_ret (pe_tup (pa_cons pe_str (pa_cons (pe_xf hT.xf hT.t.z.y.nu.noW hz hfs (pv 1)) (pa_cons (pe_xf hT.xf hT.t.z.y.nu.noA hz hfs (pv 1)) pa_nil)))))) pss_nil) (pss_one (ps_ret (pe_tup (pa_cons pe_str pa_nil)))))
    · refine ⟨fun cls d H' => cls = .ref C ∧ ∃ (dd : Addr) (vw va : V), d = some dd ∧ H' dd = some (.xd (nuF vw va)) ∧ ∀ t, H' t = none → Q (.ref t) (upd H' t (.tup [.str "use", vw, va])), ?_, ?_⟩
      · intro cls d σ2 H2 h len
        have at1 : ∀ a : Addr, (σ2.set 1 (some (V.ref a)))[1]? = some (some (V.ref a)) := fun a => List.getElem?_set_self (by rw [len]; decide)
        obtain ⟨rfl, dd, vw, va, rfl, hx, qq⟩ := h
        refine ⟨true, hT.ex, fun _ a na => ?_, fun z => by cases z⟩
        refine ⟨.ref a, at1 a, rfl, dd, _, .ref C, .ref C, true, rfl, hx, rfl, fun u e => e, hT.kit, true, rfl, ?_⟩
        dsimp only
        rw [if_pos rfl]
        exact ⟨.ref a, at1 a, rfl, rfl, dd, _, vw, rfl, hx, (look_word vw va), .ref a, at1 a, rfl, rfl, dd, _, va, rfl, hx, by simp [List.lookup, nuF], (show 3 ≤ sizeLine by decide), qq⟩
      · refine ⟨rfl, hf, hc, ?_⟩
        exact q
  refine wpAny_call (codeAny_mono rc fun r s2 hq => ?_)
  cases r with
  | error e => exact (show False from hq).elim
  | ok fl =>
    cases fl with
    | ret u => exact I1.after hq
    | next => exact hq.elim
    | brk => exact hq.elim
    | cont => exact hq.elim
end
end K25
end
section
set_option maxRecDepth 100000
set_option maxHeartbeats 2000000
namespace K25
open PySem PySem.Spec PyProof.Rows L2
/-! ### the same, but for the feed and the tables -/
structure RL (f L : Addr) (H H' : Hp) : Prop where
  st : ∀ a o, H a = some o → Stay o → H' a = some o
  dm : ∀ a, H' a = none → H a = none
  fd : ∀ o, H f = some o → FdO L o → ∃ o', H' f = some o' ∧ FdO L o'
instance {f L : Addr} : Rl (RL f L) where
  refl H := ⟨fun _ _ h _ => h, fun _ h => h, fun o h e => ⟨o, h, e⟩⟩
  trans {a b c} x y := ⟨fun p o h s => y.st p o (x.st p o h s) s, fun p h => x.dm p (y.dm p h), fun o h e => by
    obtain ⟨o1, h1, e1⟩ := x.fd o h e
    exact y.fd o1 h1 e1⟩
  new {H H' p o} x n := by
    refine ⟨fun a u h s => ?_, fun a h => ?_, fun u h e => ?_⟩
    · rw [upd_ne (fun e => by rw [e, n] at h; cases h)]
      exact x.st a u h s
    · by_cases e : a = p
      · rw [e]
        exact n
      · rw [upd_ne e] at h
        exact x.dm a h
    · obtain ⟨o1, h1, e1⟩ := x.fd u h e
      exact ⟨o1, by rw [upd_ne (fun z => by rw [z, n] at h; cases h)]; exact h1, e1⟩
  stay x s h := x.st _ _ h s
  dom x n := x.dm _ n
  ext {H H'} s := ⟨fun a o h _ => s a o h, fun a h => s.free h, fun o h e => ⟨o, s _ o h, e⟩⟩
  own {G A B} x y := by
    refine ⟨fun a o h s => own_mk (y.st a o (x.st a o h s) s) fun z => (by rw [h] at z; cases z), fun a h => ?_, fun o h e => ?_⟩
    · cases e : G a with
      | none => rfl
      | some o =>
        unfold own at h
        rw [e] at h
        have := x.dm a (y.dm a h)
        rw [e] at this
        cases this
    · obtain ⟨o1, h1, e1⟩ := x.fd o h e
      obtain ⟨o2, h2, e2⟩ := y.fd o1 h1 e1
      exact ⟨o2, own_mk h2 fun z => (by rw [h] at z; cases z), e2⟩
theorem RF.rl {f L : Addr} {H H' : Hp} (r : RF f L H H') : RL f L H H' := ⟨fun a o h s => Rl.stay r s h, fun a h => Rl.dom r h, r.fd⟩
theorem RF.tabs {f L : Addr} {H H' : Hp} {T : List (Addr × Str)} (r : RF f L H H') (t : LamX.Tabs T H) : LamX.Tabs T H' := fun p hp => by
  obtain ⟨ps, h1, h2, h3⟩ := t p hp
  have no : ∀ ps, ¬ FdO L (.tbl ps) := fun ps ⟨_, _, _, _, _, _, e⟩ => by cases e
  have no2 : ∀ φ, ¬ FdO L (.ext φ) := fun φ ⟨_, _, _, _, _, _, e⟩ => by cases e
  refine ⟨ps, ?_, h2, fun pos cv hc => ?_⟩
  · rcases r.all _ _ h1 with ⟨_, z⟩ | z
    · exact (no _ z).elim
    · exact z
  · obtain ⟨c, e1, e2⟩ := h3 pos cv hc
    refine ⟨c, e1, ?_⟩
    rcases r.all _ _ e2 with ⟨_, z⟩ | z
    · exact (no2 _ z).elim
    · exact z
theorem ext_rl {f L : Addr} {H H' : Hp} (e : LamX.ExtN H H') (d : ∀ a, H' a = none → H a = none) : RL f L H H' := by
  refine ⟨fun a o h s => e a o h fun ps z => (by rw [z] at s; exact s), d, fun o h ho => ⟨o, e _ o h fun ps z => ?_, ho⟩⟩
  obtain ⟨_, _, _, _, _, _, z2⟩ := ho
  rw [z2] at z
  cases z
theorem tabs_upd {H : Hp} {T : List (Addr × Str)} {P : Addr} {xs : List V} {o : HO} (t : LamX.Tabs T H) (h : H P = some (.lst xs)) : LamX.Tabs T (upd H P o) := fun p hp => by
  obtain ⟨ps, h1, h2, h3⟩ := t p hp
  refine ⟨ps, by rw [upd_ne (fun z => by rw [z, h] at h1; cases h1)]; exact h1, h2, fun pos cv hc => ?_⟩
  obtain ⟨c, e1, e2⟩ := h3 pos cv hc
  exact ⟨c, e1, by rw [upd_ne (fun z => by rw [z, h] at e2; unfold LamX.CodeO at e2; cases e2)]; exact e2⟩
section
variable {K : PySem.W.Frag} {f L : Addr} {G0 H0 A B : Hp} {Ds : List Addr} {σ : L2.St} {te tw ts : TE} {S : PyData → Prop} {C : Addr} {X : Cx} {T : List (Addr × Str)} {D : LamDat} {w : Str} {sp : PyData}
/-! ### hearing -/
def Hears (K : PySem.W.Frag) (C : Addr) (tl : XK → Hp → VK → Prop) (G : Hp) (d : PyData) : Prop := ∀ H, Same G H → ∀ Q : VK, (∀ v B, Same H B → Dp K (own G H B) v d → Q v B) → TTh C tl H Q
def heardD (er : ErD) (d : PyData) : PyData := match er with
  | none => .tuple [.str "told", d]
  | some (w, a) => .tuple [.str "use", w, a]
theorem hears {G : Hp} {ta : TA} {pre : Hp → List V → List PyData → Prop} {er : List PyData → ErD} {F : List PyData → PyData} {ds : List PyData}
    (h : ∀ H, Same G H → ∀ Q : List V → Hp → Prop, (∀ B vs, Same H B → DpAll K (own G H B) vs ds → pre (own G H B) vs ds → Q vs B) → ta σ H Q) :
    Hears K C (fun E H' Q' => tCallSD (spY K C pre er F) [] (WE fun c d _ H => E c d H) ta σ H' Q') G (heardD (er ds) (F ds)) := fun H hH Q q => by
  refine h H hH _ fun B vs r p hp => ?_
  show spY K C pre er F (vs ++ []) B _ _
  rw [List.append_nil]
  refine ⟨own G H B, ds, own_same, p, hp, fun z v D rD pd => ⟨(show 2 ≤ sizeLine by decide), fun t nt => q (.ref t) _ (Rl.new (R := Same) (Rl.trans (R := Same) r rD) (Rl.dom (R := Same) (Rl.trans (R := Same) r rD) nt)) ?_⟩, fun w a z dd vw va D rD ed p1 p2 => ⟨rfl, dd, vw, va, rfl, ed, fun t nt => q (.ref t) _ (Rl.new (R := Same) (Rl.trans (R := Same) r rD) (Rl.dom (R := Same) (Rl.trans (R := Same) r rD) nt)) ?_⟩⟩
  · rw [z]
    have rHD := Rl.trans (R := Same) r rD
    exact .tup (.inl (.inl (own_at (R := Same) rHD nt))) (.cons (.str _) (.cons (dp_up (up_new (R := Same) rHD nt) _ _ (dp_up (up_in (R := Same) r) _ _ pd)) .nil))
  · rw [z]
    have rHD := Rl.trans (R := Same) r rD
    exact .tup (.inl (.inl (own_at (R := Same) rHD nt))) (.cons (.str _) (.cons (dp_up (up_new (R := Same) rHD nt) _ _ (dp_up (up_in (R := Same) r) _ _ p1)) (.cons (dp_up (up_new (R := Same) rHD nt) _ _ (dp_up (up_in (R := Same) r) _ _ p2)) .nil)))
theorem e_heardV {G : Hp} {i k : Nat} {g c' : Addr} {pm ctv : Value} {d : PyData} (h : σ[i]? = some (some (.ref g))) (ok : LamOk X k D) (hg : G g = some (LamO X D g c' pm ctv)) (hc : G c' = some (LamX.CodeO c' (lamQ X))) (hh : Hears K C (fun E H' Q' => D.t E σ H' Q') G d) :
    EvS Same K (tHeard X C k (tVar i)) σ G (· = d) := fun A hA Q q => ⟨.ref g, h, D, g, c', pm, ctv, rfl, ok, hA _ _ hg, hA _ _ hc, hh A hA Q fun v B r p => q v d B r rfl p⟩
/-! ### steps of a body that makes lambdas -/
theorem w_evS (W : Wk (RL f L) G0 H0 Ds A) (h : EvS Same K te σ (gr G0 H0 Ds A) S) {Q : VK} (k : ∀ v d B, Wk (RL f L) G0 H0 Ds B → Same A B → S d → Dp K (gr G0 H0 Ds B) v d → Q v B) : te σ A Q :=
  h A gr_same Q fun v d B r s p => k v d B (W.next (Rl.ext r)) r s (dp_up (fun a o _ e => gr_in W e) _ _ p)
theorem w_lam (W : Wk (RL f L) G0 H0 Ds A) (tb : LamX.Tabs T A) {Q : VK} (k : ∀ (g c' : Addr) (pm ctv : Value) (B : Hp), Wk (RL f L) G0 H0 Ds B → RL f L A B → LamX.Tabs T B → B g = some (LamO X D g c' pm ctv) → B c' = some (LamX.CodeO c' (lamQ X)) → Q (.ref g) B) : tMk X T D σ A Q :=
  ⟨tb, fun g c' pm ctv B e t d h1 h2 => k g c' pm ctv B (W.next (ext_rl e d)) (ext_rl e d) t h1 h2⟩
theorem w_heard {k : Nat} {d : PyData} (W : Wk (RL f L) G0 H0 Ds A) (tb : LamX.Tabs T A) (ok : LamOk X k D) (hh : ∀ B, Wk (RL f L) G0 H0 Ds B → RL f L A B → Hears K C (fun E H' Q' => D.t E σ H' Q') (gr G0 H0 Ds B) d) {Q : VK}
    (k' : ∀ v B, Wk (RL f L) G0 H0 Ds B → RL f L A B → LamX.Tabs T B → Dp K (gr G0 H0 Ds B) v d → Q v B) : tHeard X C k (tMk X T D) σ A Q :=
  w_lam W tb fun g c' pm ctv B WB r t h1 h2 => ⟨D, g, c', pm, ctv, rfl, ok, h1, h2, hh B WB r B gr_same Q fun v B2 r2 p => k' v B2 (WB.next (Rl.ext r2)) (Rl.trans r (Rl.ext r2)) (t.ext fun b o e => r2 b o e) (dp_up (fun a o _ e => gr_in WB e) _ _ p)⟩
/-- (lambda: .., word, spot) -/
def AskV (K : PySem.W.Frag) (X : Cx) (G A : Hp) (v : V) (a : LamDat × Str × PyData) : Prop := ∃ (t g c' : Addr) (pm ctv : Value) (y : V), v = .ref t ∧ A t = some (.tup [.ref g, .str a.2.1, y]) ∧ A g = some (LamO X a.1 g c' pm ctv) ∧ A c' = some (LamX.CodeO c' (lamQ X)) ∧ Dp K G y a.2.2
theorem AskV.next {v : V} {a : LamDat × Str × PyData} (h : AskV K X (gr G0 H0 Ds A) A v a) (r : RL f L A B) : AskV K X (gr G0 H0 Ds B) B v a := by
  obtain ⟨t, g, c', pm, ctv, y, e, h1, h2, h3, p⟩ := h
  exact ⟨t, g, c', pm, ctv, y, e, r.st _ _ h1 trivial, r.st _ _ h2 trivial, r.st _ _ h3 trivial, dp_up (gr_next r) _ _ p⟩
theorem w_ask (W : Wk (RL f L) G0 H0 Ds A) (tb : LamX.Tabs T A) (hs : ∀ B, Wk (RL f L) G0 H0 Ds B → RL f L A B → EvS Same K ts σ (gr G0 H0 Ds B) (· = sp)) {Q : VK}
    (k : ∀ v B, Wk (RL f L) G0 H0 Ds B → RL f L A B → LamX.Tabs T B → AskV K X (gr G0 H0 Ds B) B v (D, w, sp) → Q v B) : tTup (tCons (tMk X T D) (tCons (tC (.str w)) (tCons ts tNil))) σ A Q :=
  w_lam (σ := σ) (Q := fun x H1 => tCons (tC (.str w)) (tCons ts tNil) σ H1 fun xs H2 => (x :: xs).length ≤ sizeLine ∧ ∀ p, H2 p = none → Q (.ref p) (upd H2 p (.tup (x :: xs)))) W tb fun g c' pm ctv B WB r t h1 h2 => w_evS (Q := fun y H2 => ([V.ref g, V.str w, y] : List V).length ≤ sizeLine ∧ ∀ p, H2 p = none → Q (.ref p) (upd H2 p (.tup [.ref g, .str w, y]))) WB (hs B WB r) fun y d B2 W2 r2 e p => by
    subst e
    refine ⟨(show 3 ≤ sizeLine by decide), fun q nq => ?_⟩
    have r3 : Same B (upd B2 q (.tup [.ref g, .str w, y])) := Rl.new (R := Same) r2 (Rl.dom (R := Same) r2 nq)
    have r4 : RL f L B2 (upd B2 q (.tup [.ref g, .str w, y])) := Rl.new (Rl.refl B2) nq
    exact k (.ref q) _ (WB.next (Rl.ext r3)) (Rl.trans r (Rl.ext r3)) (t.ext fun b o e => r3 b o e) ⟨q, g, c', pm, ctv, y, rfl, upd_same, r3 _ _ h1, r3 _ _ h2, dp_up (gr_next r4) _ _ p⟩
def AskL (K : PySem.W.Frag) (X : Cx) (G0 H0 : Hp) (Ds : List Addr) (A : Hp) (D : Addr) (as : List (LamDat × Str × PyData)) : Prop := ∃ vs, A D = some (.lst vs) ∧ Paired (AskV K X (gr G0 H0 Ds A) A) vs as
theorem paired_imp {α β : Type} {F F' : α → β → Prop} (h : ∀ a b, F a b → F' a b) {l : List α} {m : List β} (p : Paired F l m) : Paired F' l m := by
  induction p with
  | nil => exact .nil
  | cons x _ ih => exact .cons (h _ _ x) ih
theorem paired_len {α β : Type} {F : α → β → Prop} {l : List α} {m : List β} (p : Paired F l m) : l.length = m.length := by
  induction p with
  | nil => rfl
  | cons _ _ ih => rw [List.length_cons, List.length_cons, ih]
/-- [(lambda: .., word, spot)] -/
theorem ws_ask0 {i : Nat} {tw : TS} {Dd : Ends} (W : Wk (RL f L) G0 H0 Ds A) (tb : LamX.Tabs T A) (hs : ∀ B, Wk (RL f L) G0 H0 Ds B → RL f L A B → EvS Same K ts σ (gr G0 H0 Ds B) (· = sp))
    (k : ∀ p B, Wk (RL f L) G0 H0 (p :: Ds) B → RL f L (gr G0 H0 Ds A) (gr G0 H0 (p :: Ds) B) → LamX.Tabs T B → AskL K X G0 H0 (p :: Ds) B p [(D, w, sp)] → tw Dd (σ.set i (some (.ref p))) B) :
    tSeq (tAsg (tLst (tCons (tTup (tCons (tMk X T D) (tCons (tC (.str w)) (tCons ts tNil)))) tNil)) (gName i)) tw Dd σ A :=
  w_ask (Q := fun v B => ([v] : List V).length ≤ sizeLine ∧ ∀ p, B p = none → tw Dd (σ.set i (some (.ref p))) (upd B p (.lst [v]))) W tb hs fun v B WB r t a => ⟨(show 1 ≤ sizeLine by decide), fun p np => by
    have r2 : RL f L B (upd B p (.lst [v])) := Rl.new (Rl.refl B) np
    refine k p _ (WB.new np) (by rw [gr_new np]; exact gr_r W r) (t.ext fun b o e => by rw [upd_ne (ne_of_none e np)]; exact e) ⟨[v], upd_same, .cons ?_ .nil⟩
    obtain ⟨t, g, c', pm, ctv, y, e, h1, h2, h3, q⟩ := a
    exact ⟨t, g, c', pm, ctv, y, e, r2.st _ _ h1 trivial, r2.st _ _ h2 trivial, r2.st _ _ h3 trivial, by rw [gr_new np]; exact q⟩⟩
/-- x.append((lambda: .., word, spot)) -/
theorem ws_asks {i : Nat} {tw : TS} {Dd : Ends} {P : Addr} {as : List (LamDat × Str × PyData)} (W : Wk (RL f L) G0 H0 Ds A) (tb : LamX.Tabs T A) (hi : σ[i]? = some (some (.ref P))) (m : P ∈ Ds) (l : AskL K X G0 H0 Ds A P as) (hz : as.length ≤ 20)
    (hs : ∀ B, Wk (RL f L) G0 H0 Ds B → RL f L A B → EvS Same K ts σ (gr G0 H0 Ds B) (· = sp))
    (k : ∀ B, Wk (RL f L) G0 H0 Ds B → RL f L (gr G0 H0 Ds A) (gr G0 H0 Ds B) → LamX.Tabs T B → AskL K X G0 H0 Ds B P (as ++ [(D, w, sp)]) → tw Dd σ B) :
    tSeq (tDrop (tBM K "list" rAppend (tVar i) (tCons (tTup (tCons (tMk X T D) (tCons (tC (.str w)) (tCons ts tNil)))) tNil))) tw Dd σ A := by
  obtain ⟨vs, e, p⟩ := l
  refine ⟨.ref P, hi, .inl ⟨rfl, vs, SqL.of e⟩, w_ask W tb hs fun v B WB r t a => ?_⟩
  have e2 : B P = some (.lst vs) := r.st _ _ e trivial
  refine ⟨P, vs, v, rfl, rfl, e2, Nat.lt_of_lt_of_le (by rw [paired_len p]; exact Nat.lt_of_le_of_lt hz (by decide : 20 < 100000)) (by decide), ?_⟩
  have other : ∀ {u' b'}, AskV K X (gr G0 H0 Ds B) B u' b' → AskV K X (gr G0 H0 Ds (upd B P (.lst (vs ++ [v])))) (upd B P (.lst (vs ++ [v]))) u' b' := fun {u' b'} ⟨t, g, c', pm, ctv, y, e', h1, h2, h3, q⟩ => by
    have ne : ∀ b u, B b = some u → (∀ xs, u ≠ .lst xs) → b ≠ P := fun b u h n z => n vs (Option.some.inj (h.symm.trans (by rw [z]; exact e2)))
    refine ⟨t, g, c', pm, ctv, y, e', by rw [upd_ne (ne _ _ h1 fun xs z => by cases z)]; exact h1, by rw [upd_ne (ne _ _ h2 fun xs z => by unfold LamO at z; cases z)]; exact h2, by rw [upd_ne (ne _ _ h3 fun xs z => by unfold LamX.CodeO at z; cases z)]; exact h3, by rw [gr_upd m]; exact q⟩
  refine k _ (WB.upd m) (by rw [gr_upd m]; exact gr_r W r) (tabs_upd t e2) ⟨vs ++ [v], upd_same, (paired_imp (fun v a h => other (h.next r)) p).snoc (other a)⟩
end
end K25
end
section
set_option maxRecDepth 100000
set_option maxHeartbeats 4000000
namespace K25
open PySem PySem.Spec PyProof.Rows L2
/-! ### the lambdas of a def -/
def stE : Stmt → List Expr
  | .Expr e _ => [e]
  | .Assign _ e _ => [e]
  | _ => []
def exL : Expr → List Expr
  | .Call _ es _ _ => es
  | .Tuple es _ _ => es
  | .List es _ => es
  | _ => []
def lamX (st : Stmt) (i : Nat) : List Expr := (((defBody st)[i]?.toList.flatMap stE).flatMap exL).flatMap exL
def lamP (st : Stmt) (i : Nat) : Arguments := match lamX st i with
  | .Lambda p _ _ _ :: _ => p
  | _ => defArgs st
def lamB (st : Stmt) (i : Nat) : Expr := match lamX st i with
  | .Lambda _ b _ _ :: _ => b
  | e :: _ => e
  | [] => .Tuple [] 0 default
def lamC (st : Stmt) (i : Nat) : Scope := match lamX st i with
  | .Lambda _ _ s _ :: _ => s
  | _ => defScope st
abbrev lamJ (st : Stmt) (i : Nat) (t : XK → TE) : LamDat := ⟨lamP st i, lamB st i, lamC st i, t⟩
abbrev tG (K : PySem.W.Frag) (C : Addr) (ta : TA) : XK → TE := fun E => tCallSD (spY K C (preG2 K) erGrown grownD) [] (WE fun c d _ H => E c d H) ta
abbrev tM (K : PySem.W.Frag) (C : Addr) (ta : TA) : XK → TE := fun E => tCallSD (spY K C (preG3 K) erMoved movedD) [] (WE fun c d _ H => E c d H) ta
abbrev tO (K : PySem.W.Frag) (C : Addr) (ta : TA) : XK → TE := fun E => tCallSD (spY K C (preG3 K) erOld oldD) [] (WE fun c d _ H => E c d H) ta
/-- the code object of a def, by name -/
def LTab (K : PySem.W.Frag) (mg : Str → Option Value) (x : Str) (c : Addr) : Prop := ∀ f oc od fd osl, mg x = some (.ref f) → K.lookup f = some ⟨oc, od, .func fd, osl⟩ → fd.code = .ref c
/-- all the law's facts, with the two tables of lambdas -/
structure Tt (P : Program) (K : PySem.W.Frag) (mg : Str → Option Value) (base : Heap) (C fI cc SE c1 P1 c2 P2 : Addr) : Prop where
  q : Tq P K mg C fI cc SE
  l1 : LTab K mg "_law_long_right" c1
  l2 : LTab K mg "_law_refused_right" c2
  b1 : LamX.TabB base mg c1 P1
  b2 : LamX.TabB base mg c2 P2
  ne : P1 ≠ P2
def tabsL (P1 P2 : Addr) : List (Addr × Str) := [(P1, ("_law_long_right" : Str) ++ (".<locals>." : Str) ++ ("<lambda>" : Str)), (P2, ("_law_refused_right" : Str) ++ (".<locals>." : Str) ++ ("<lambda>" : Str))]
section
variable {P : Program} {w : World} {K : PySem.W.Frag} {mg : Str → Option Value} {base : Heap} {C fI cc SE c1 P1 c2 P2 : Addr}
theorem clt_of {x : Str} {st : Stmt} {N ps : List Str} {k : Nat} {sp : Sp} (D : DefAt K mg x st)
    (hb : ∀ (kV doc pm : Value) (an : Option Addr) (cdv ct : Value) (us : List Value), us.length = ps.length → bindArgs (PySem.W.fnOf x x (defArgs st) (defBody st) (defScope st) .none kV doc pm an cdv ct) ⟨us, []⟩ = pure (ps.zip us))
    (Sc : FnScope N ps (defScope st)) (hn : ∀ vs H Q E, sp vs H Q E → vs.length = ps.length)
    (hbody : ∀ (f : Addr) (cdv : Value) (A : Around) (outer : List Env) (s : Shared) (H : Hp) (vs : List V) (Q : VK) (E : XK), (∀ c, LTab K mg x c → cdv = .ref c) → A.guards = some [] → Room k (A.deeper (envOfC x (defScope st) s.heap.objs.size f cdv)) → sp vs H Q E →
      ∃ t, PSs (cxOf CX0 P w K mg base N x (defScope st) f cdv A outer s H E) (defBody st) t ∧ t { nx := fun _ H' => Q .non H', rt := Q } (L2.start N vs) H) :
    ClG P w K mg base (k + 1) x sp := by
  obtain ⟨f, fd, F, hm⟩ := D
  have hbn := F.binds hb
  obtain ⟨oc, od, kV, doc, pm, an, cdv, ct, osl, rfl, lk, hcd⟩ := F.ex
  exact ⟨f, _, ps, ⟨hn, fun A outer s H args us vs Q E hg hr e0 hbi r h => LamX.run_ofS lk hcd Sc hr e0 hbi r (hn _ _ _ _ h) fun hr' => hbody f cdv A outer s H vs Q E (fun c hc => hc f _ _ _ _ hm lk) hg hr' h⟩, hm, F.kp, hbn⟩
theorem cx_grown (T : Tz P K mg C fI cc) : Cx1 P w K mg base 8 "grown" ["text", "way"] [] (spY K C (preG2 K) erGrown grownD) := by
  obtain ⟨f, fd, ok, F, hm⟩ := ok_grown (w := w) (base := base) T
  exact ⟨f, fd, [], ok, hm, F.kp, .nil, F.binds fun _ _ _ _ _ _ us hl => match us, hl with | [_, _], _ => rfl⟩
theorem cx_moved (T : Tz P K mg C fI cc) : Cx1 P w K mg base 8 "moved" ["text", "way", "row"] [] (spY K C (preG3 K) erMoved movedD) := by
  obtain ⟨f, fd, ok, F, hm⟩ := ok_moved (w := w) (base := base) T
  exact ⟨f, fd, [], ok, hm, F.kp, .nil, F.binds fun _ _ _ _ _ _ us hl => match us, hl with | [_, _, _], _ => rfl⟩
theorem cx_old_row (T : Tz P K mg C fI cc) : Cx1 P w K mg base 8 "old_row" ["text", "way", "row"] [] (spY K C (preG3 K) erOld oldD) := by
  obtain ⟨f, fd, ok, F, hm⟩ := ok_old_row (w := w) (base := base) T
  exact ⟨f, fd, [], ok, hm, F.kp, .nil, F.binds fun _ _ _ _ _ _ us hl => match us, hl with | [_, _, _], _ => rfl⟩
theorem sc_refused_right : FnScope ["_law_feed_here", "_law_page", "_law_path", "_law_size", "_law_bad", "_law_item", "_law_odd", "_law_far", "_law_asks", "_law_ask", "_law_word", "_law_spot"] ["_law_feed_here", "_law_page", "_law_path", "_law_size"] (defScope s__law_refused_right) := ⟨rfl, rfl, rfl, by decide +kernel, rfl, by decide +kernel, by decide +kernel⟩
abbrev XR (P : Program) (w : World) (K : PySem.W.Frag) (mg : Str → Option Value) (base : Heap) (f : Addr) (cdv : Value) (A : Around) (outer : List Env) (s : Shared) (H : Hp) (E : XK) : Cx := cxOf CX0 P w K mg base ["_law_feed_here", "_law_page", "_law_path", "_law_size", "_law_bad", "_law_item", "_law_odd", "_law_far", "_law_asks", "_law_ask", "_law_word", "_law_spot"] "_law_refused_right" (defScope s__law_refused_right) f cdv A outer s H E
variable {f : Addr} {cdv : Value} {A : Around} {outer : List Env} {s : Shared} {H : Hp} {E : XK}
abbrev lr3 (K : PySem.W.Frag) (C : Addr) : LamDat := lamJ s__law_refused_right 3 (tG K C (tCons (tVar 1) (tCons (tVar 5) tNil)))
theorem lo3 (T : Tt P K mg base C fI cc SE c1 P1 c2 P2) : LamOk (XR P w K mg base f cdv A outer s H E) 8 (lr3 K C) := by
  refine ⟨LamX.lamS_by (by show LamX.lamSB (defScope s__law_refused_right) (lamC s__law_refused_right 3) = true; decide +kernel), by rfl, fun q cl pm cv ctv => by rfl, fun A2 o2 s2 H2 E2 f2 c2 hr => ?_⟩
  exact pe_x (X := LamX.lamCx (XR P w K mg base f cdv A outer s H E) A2 o2 s2 H2 E2 (lamC s__law_refused_right 3) f2 c2) (W := fun c d _ H => E2 c d H) (cx_grown T.q.t.z) hr (by decide) (takes_of rfl rfl rfl rfl) rfl (pa_cons (pv 1) (pa_cons (pv 5) pa_nil))
abbrev lr4 (K : PySem.W.Frag) (C : Addr) : LamDat := lamJ s__law_refused_right 4 (tM K C (tCons (tVar 1) (tCons (tVar 5) (tCons (tVar 6) tNil))))
theorem lo4 (T : Tt P K mg base C fI cc SE c1 P1 c2 P2) : LamOk (XR P w K mg base f cdv A outer s H E) 8 (lr4 K C) := by
  refine ⟨LamX.lamS_by (by show LamX.lamSB (defScope s__law_refused_right) (lamC s__law_refused_right 4) = true; decide +kernel), by rfl, fun q cl pm cv ctv => by rfl, fun A2 o2 s2 H2 E2 f2 c2 hr => ?_⟩
  exact pe_x (X := LamX.lamCx (XR P w K mg base f cdv A outer s H E) A2 o2 s2 H2 E2 (lamC s__law_refused_right 4) f2 c2) (W := fun c d _ H => E2 c d H) (cx_moved T.q.t.z) hr (by decide) (takes_of rfl rfl rfl rfl) rfl (pa_cons (pv 1) (pa_cons (pv 5) (pa_cons (pv 6) pa_nil)))
abbrev lr5 (K : PySem.W.Frag) (C : Addr) : LamDat := lamJ s__law_refused_right 5 (tO K C (tCons (tVar 1) (tCons (tVar 5) (tCons (tVar 6) tNil))))
theorem lo5 (T : Tt P K mg base C fI cc SE c1 P1 c2 P2) : LamOk (XR P w K mg base f cdv A outer s H E) 8 (lr5 K C) := by
  refine ⟨LamX.lamS_by (by show LamX.lamSB (defScope s__law_refused_right) (lamC s__law_refused_right 5) = true; decide +kernel), by rfl, fun q cl pm cv ctv => by rfl, fun A2 o2 s2 H2 E2 f2 c2 hr => ?_⟩
  exact pe_x (X := LamX.lamCx (XR P w K mg base f cdv A outer s H E) A2 o2 s2 H2 E2 (lamC s__law_refused_right 5) f2 c2) (W := fun c d _ H => E2 c d H) (cx_old_row T.q.t.z) hr (by decide) (takes_of rfl rfl rfl rfl) rfl (pa_cons (pv 1) (pa_cons (pv 5) (pa_cons (pv 6) pa_nil)))
abbrev lr6 (K : PySem.W.Frag) (C : Addr) : LamDat := lamJ s__law_refused_right 6 (tM K C (tCons (tVar 1) (tCons (tVar 2) (tCons (tVar 6) tNil))))
theorem lo6 (T : Tt P K mg base C fI cc SE c1 P1 c2 P2) : LamOk (XR P w K mg base f cdv A outer s H E) 8 (lr6 K C) := by
  refine ⟨LamX.lamS_by (by show LamX.lamSB (defScope s__law_refused_right) (lamC s__law_refused_right 6) = true; decide +kernel), by rfl, fun q cl pm cv ctv => by rfl, fun A2 o2 s2 H2 E2 f2 c2 hr => ?_⟩
  exact pe_x (X := LamX.lamCx (XR P w K mg base f cdv A outer s H E) A2 o2 s2 H2 E2 (lamC s__law_refused_right 6) f2 c2) (W := fun c d _ H => E2 c d H) (cx_moved T.q.t.z) hr (by decide) (takes_of rfl rfl rfl rfl) rfl (pa_cons (pv 1) (pa_cons (pv 2) (pa_cons (pv 6) pa_nil)))
abbrev lr7 (K : PySem.W.Frag) (C : Addr) : LamDat := lamJ s__law_refused_right 7 (tM K C (tCons (tVar 1) (tCons (tVar 2) (tCons (tCB (rLenD K) (tCons (tVar 1) tNil)) tNil))))
theorem lo7 (T : Tt P K mg base C fI cc SE c1 P1 c2 P2) : LamOk (XR P w K mg base f cdv A outer s H E) 8 (lr7 K C) := by
  refine ⟨LamX.lamS_by (by show LamX.lamSB (defScope s__law_refused_right) (lamC s__law_refused_right 7) = true; decide +kernel), by rfl, fun q cl pm cv ctv => by rfl, fun A2 o2 s2 H2 E2 f2 c2 hr => ?_⟩
  exact pe_x (X := LamX.lamCx (XR P w K mg base f cdv A outer s H E) A2 o2 s2 H2 E2 (lamC s__law_refused_right 7) f2 c2) (W := fun c d _ H => E2 c d H) (cx_moved T.q.t.z) hr (by decide) (takes_of rfl rfl rfl rfl) rfl (pa_cons (pv 1) (pa_cons (pv 2) (pa_cons (pe_callB (x := "len") call_len rfl T.q.t.z.y.x.n_len PySem.boot_len (pa_cons (pv 1) pa_nil)) pa_nil)))
abbrev lr8 (K : PySem.W.Frag) (C : Addr) : LamDat := lamJ s__law_refused_right 8 (tO K C (tCons (tVar 1) (tCons (tVar 2) (tCons (tVar 6) tNil))))
theorem lo8 (T : Tt P K mg base C fI cc SE c1 P1 c2 P2) : LamOk (XR P w K mg base f cdv A outer s H E) 8 (lr8 K C) := by
  refine ⟨LamX.lamS_by (by show LamX.lamSB (defScope s__law_refused_right) (lamC s__law_refused_right 8) = true; decide +kernel), by rfl, fun q cl pm cv ctv => by rfl, fun A2 o2 s2 H2 E2 f2 c2 hr => ?_⟩
  exact pe_x (X := LamX.lamCx (XR P w K mg base f cdv A outer s H E) A2 o2 s2 H2 E2 (lamC s__law_refused_right 8) f2 c2) (W := fun c d _ H => E2 c d H) (cx_old_row T.q.t.z) hr (by decide) (takes_of rfl rfl rfl rfl) rfl (pa_cons (pv 1) (pa_cons (pv 2) (pa_cons (pv 6) pa_nil)))
abbrev lr9 (K : PySem.W.Frag) (C : Addr) : LamDat := lamJ s__law_refused_right 9 (tO K C (tCons (tVar 1) (tCons (tVar 2) (tCons (tOp (rI0 fun i j => .int (i + j)) (tCB (rLenD K) (tCons (tVar 1) tNil)) (tVar 3)) tNil))))
theorem lo9 (T : Tt P K mg base C fI cc SE c1 P1 c2 P2) : LamOk (XR P w K mg base f cdv A outer s H E) 8 (lr9 K C) := by
  refine ⟨LamX.lamS_by (by show LamX.lamSB (defScope s__law_refused_right) (lamC s__law_refused_right 9) = true; decide +kernel), by rfl, fun q cl pm cv ctv => by rfl, fun A2 o2 s2 H2 E2 f2 c2 hr => ?_⟩
  exact pe_x (X := LamX.lamCx (XR P w K mg base f cdv A outer s H E) A2 o2 s2 H2 E2 (lamC s__law_refused_right 9) f2 c2) (W := fun c d _ H => E2 c d H) (cx_old_row T.q.t.z) hr (by decide) (takes_of rfl rfl rfl rfl) rfl (pa_cons (pv 1) (pa_cons (pv 2) (pa_cons (pe_op op_add (pe_callB (x := "len") call_len rfl T.q.t.z.y.x.n_len PySem.boot_len (pa_cons (pv 1) pa_nil)) (pv 3)) pa_nil)))
abbrev lr10 (K : PySem.W.Frag) (C : Addr) : LamDat := lamJ s__law_refused_right 10 (tG K C (tCons (tOp (rIxT K) (tVar 4) (tC (.int 0))) (tCons (tVar 5) tNil)))
theorem lo10 (T : Tt P K mg base C fI cc SE c1 P1 c2 P2) : LamOk (XR P w K mg base f cdv A outer s H E) 8 (lr10 K C) := by
  refine ⟨LamX.lamS_by (by show LamX.lamSB (defScope s__law_refused_right) (lamC s__law_refused_right 10) = true; decide +kernel), by rfl, fun q cl pm cv ctv => by rfl, fun A2 o2 s2 H2 E2 f2 c2 hr => ?_⟩
  exact pe_x (X := LamX.lamCx (XR P w K mg base f cdv A outer s H E) A2 o2 s2 H2 E2 (lamC s__law_refused_right 10) f2 c2) (W := fun c d _ H => E2 c d H) (cx_grown T.q.t.z) hr (by decide) (takes_of rfl rfl rfl rfl) rfl (pa_cons (pe_ix ix_tup (pv 4) pe_int (fun _ _ => rfl)) (pa_cons (pv 5) pa_nil))
abbrev lr11 (K : PySem.W.Frag) (C : Addr) : LamDat := lamJ s__law_refused_right 11 (tM K C (tCons (tOp (rIxT K) (tVar 4) (tC (.int 0))) (tCons (tVar 5) (tCons (tVar 7) tNil))))
theorem lo11 (T : Tt P K mg base C fI cc SE c1 P1 c2 P2) : LamOk (XR P w K mg base f cdv A outer s H E) 8 (lr11 K C) := by
  refine ⟨LamX.lamS_by (by show LamX.lamSB (defScope s__law_refused_right) (lamC s__law_refused_right 11) = true; decide +kernel), by rfl, fun q cl pm cv ctv => by rfl, fun A2 o2 s2 H2 E2 f2 c2 hr => ?_⟩
  exact pe_x (X := LamX.lamCx (XR P w K mg base f cdv A outer s H E) A2 o2 s2 H2 E2 (lamC s__law_refused_right 11) f2 c2) (W := fun c d _ H => E2 c d H) (cx_moved T.q.t.z) hr (by decide) (takes_of rfl rfl rfl rfl) rfl (pa_cons (pe_ix ix_tup (pv 4) pe_int (fun _ _ => rfl)) (pa_cons (pv 5) (pa_cons (pv 7) pa_nil)))
abbrev lr12 (K : PySem.W.Frag) (C : Addr) : LamDat := lamJ s__law_refused_right 12 (tO K C (tCons (tOp (rIxT K) (tVar 4) (tC (.int 0))) (tCons (tVar 2) (tCons (tVar 6) tNil))))
theorem lo12 (T : Tt P K mg base C fI cc SE c1 P1 c2 P2) : LamOk (XR P w K mg base f cdv A outer s H E) 8 (lr12 K C) := by
  refine ⟨LamX.lamS_by (by show LamX.lamSB (defScope s__law_refused_right) (lamC s__law_refused_right 12) = true; decide +kernel), by rfl, fun q cl pm cv ctv => by rfl, fun A2 o2 s2 H2 E2 f2 c2 hr => ?_⟩
  exact pe_x (X := LamX.lamCx (XR P w K mg base f cdv A outer s H E) A2 o2 s2 H2 E2 (lamC s__law_refused_right 12) f2 c2) (W := fun c d _ H => E2 c d H) (cx_old_row T.q.t.z) hr (by decide) (takes_of rfl rfl rfl rfl) rfl (pa_cons (pe_ix ix_tup (pv 4) pe_int (fun _ _ => rfl)) (pa_cons (pv 2) (pa_cons (pv 6) pa_nil)))
theorem ps_refused (T : Tt P K mg base C fI cc SE c1 P1 c2 P2) (hgd : (A.deeper (envOfC "_law_refused_right" (defScope s__law_refused_right) s.heap.objs.size f cdv)).guards = some []) (hc : cdv = .ref c2) (hr : Room 10 (A.deeper (envOfC "_law_refused_right" (defScope s__law_refused_right) s.heap.objs.size f cdv))) : ∃ t, PSs (XR P w K mg base f cdv A outer s H E) (defBody s__law_refused_right) t := by
  have LT : LamT (XR P w K mg base f cdv A outer s H E) (tabsL P1 P2) c2 P2 := ⟨T.b2, hc, List.mem_cons_of_mem _ (List.mem_cons_self ..), fun p hp e => by
    rcases List.mem_cons.1 hp with rfl | hp
    · exact absurd e T.ne
    · rw [List.mem_singleton.1 hp]
      rfl⟩
  exact ⟨_, (pss_cons (ps_asg (pe_tup (pa_cons (pe_k (cl_any T.q.t) hr (by decide) rfl (pa_cons (pv 0) (pa_cons (pe_k (cl_bad_texts T.q.t) hr (by decide) rfl (pa_cons (pv 1) pa_nil)) pa_nil))) (pa_cons (pe_k (cl_any T.q.t) hr (by decide) rfl (pa_cons (pv 0) (pa_cons (pe_k (cl_bad_ways T.q.t) hr (by decide) rfl (pa_cons (pv 1) pa_nil)) pa_nil))) pa_nil))) (pg_tup rfl (pgs_cons (pg_name (i := 4) sc_refused_right.nd rfl (Or.inr rfl)) (pgs_cons (pg_name (i := 5) sc_refused_right.nd rfl (Or.inr rfl)) pgs_nil)))) (pss_cons (ps_set (i := 6) sc_refused_right.nd rfl (by first | exact Or.inl rfl | exact Or.inr rfl) (pe_k (cl_any T.q.t) hr (by decide) rfl (pa_cons (pv 0) (pa_cons (pe_lst (pa_cons (pe_un un_neg pe_int) (pa_cons pe_non (pa_cons pe_bl (pa_cons pe_str (pa_cons (pe_tup (pa_cons pe_int pa_nil)) (pa_cons (pe_op op_pow pe_int pe_int) pa_nil))))))) pa_nil)))) (pss_cons (ps_set (i := 7) sc_refused_right.nd rfl (by first | exact Or.inl rfl | exact Or.inr rfl) (pe_k (cl_any T.q.t) hr (by decide) rfl (pa_cons (pv 0) (pa_cons (pe_lst (pa_cons (pv 6) (pa_cons (pe_callB call_len rfl T.q.t.z.y.x.n_len PySem.boot_len (pa_cons (pv 1) pa_nil)) (pa_cons (pe_op op_add (pe_op op_add (pe_callB call_len rfl T.q.t.z.y.x.n_len PySem.boot_len (pa_cons (pv 1) pa_nil)) (pv 3)) pe_int) pa_nil)))) pa_nil)))) (pss_cons (ps_set (i := 8) sc_refused_right.nd rfl (by first | exact Or.inl rfl | exact Or.inr rfl) (pe_lst (pa_cons (pe_tup (pa_cons (pe_lam (k := 8) LT (lo3 T)) (pa_cons pe_str (pa_cons (pe_un un_neg pe_int) pa_nil)))) pa_nil))) (pss_cons (ps_expr (pe_bm PySem.F.plainAttrs_list PySem.F.slot_list_append PySem.F.type_list_append mt_append (pv 8) (pa_cons (pe_tup (pa_cons (pe_lam (k := 8) LT (lo4 T)) (pa_cons pe_str (pa_cons (pe_un un_neg pe_int) pa_nil)))) pa_nil))) (pss_cons (ps_expr (pe_bm PySem.F.plainAttrs_list PySem.F.slot_list_append PySem.F.type_list_append mt_append (pv 8) (pa_cons (pe_tup (pa_cons (pe_lam (k := 8) LT (lo5 T)) (pa_cons pe_str (pa_cons (pe_un un_neg pe_int) pa_nil)))) pa_nil))) (pss_cons (ps_expr (pe_bm PySem.F.plainAttrs_list PySem.F.slot_list_append PySem.F.type_list_append mt_append (pv 8) (pa_cons (pe_tup (pa_cons (pe_lam (k := 8) LT (lo6 T)) (pa_cons pe_str (pa_cons (pv 6) pa_nil)))) pa_nil))) (pss_cons (ps_expr (pe_bm PySem.F.plainAttrs_list PySem.F.slot_list_append PySem.F.type_list_append mt_append (pv 8) (pa_cons (pe_tup (pa_cons (pe_lam (k := 8) LT (lo7 T)) (pa_cons pe_str (pa_cons (pe_callB call_len rfl T.q.t.z.y.x.n_len PySem.boot_len (pa_cons (pv 1) pa_nil)) pa_nil)))) pa_nil))) (pss_cons (ps_expr (pe_bm PySem.F.plainAttrs_list PySem.F.slot_list_append PySem.F.type_list_append mt_append (pv 8) (pa_cons (pe_tup (pa_cons (pe_lam (k := 8) LT (lo8 T)) (pa_cons pe_str (pa_cons (pv 6) pa_nil)))) pa_nil))) (pss_cons (ps_expr (pe_bm PySem.F.plainAttrs_list PySem.F.slot_list_append PySem.F.type_list_append mt_append (pv 8) (pa_cons (pe_tup (pa_cons (pe_lam (k := 8) LT (lo9 T)) (pa_cons pe_str (pa_cons (pe_op op_add (pe_callB call_len rfl T.q.t.z.y.x.n_len PySem.boot_len (pa_cons (pv 1) pa_nil)) (pv 3)) pa_nil)))) pa_nil))) (pss_cons (ps_expr (pe_bm PySem.F.plainAttrs_list PySem.F.slot_list_append PySem.F.type_list_append mt_append (pv 8) (pa_cons (pe_tup (pa_cons (pe_lam (k := 8) LT (lo10 T)) (pa_cons pe_str (pa_cons (pe_ix ix_tup (pv 4) pe_int (fun _ _ => rfl)) pa_nil)))) pa_nil))) (pss_cons (ps_expr (pe_bm PySem.F.plainAttrs_list PySem.F.slot_list_append PySem.F.type_list_append mt_append (pv 8) (pa_cons (pe_tup (pa_cons (pe_lam (k := 8) LT (lo11 T)) (pa_cons pe_str (pa_cons (pe_ix ix_tup (pv 4) pe_int (fun _ _ => rfl)) pa_nil)))) pa_nil))) (pss_cons (ps_expr (pe_bm PySem.F.plainAttrs_list PySem.F.slot_list_append PySem.F.type_list_append mt_append (pv 8) (pa_cons (pe_tup (pa_cons (pe_lam (k := 8) LT (lo12 T)) (pa_cons pe_str (pa_cons (pe_ix ix_tup (pv 4) pe_int (fun _ _ => rfl)) pa_nil)))) pa_nil))) (pss_cons (ps_for (passes_of rfl) rfl (pi_list (pv 8)) (pg_tup rfl (pgs_cons (pg_name (i := 9) sc_refused_right.nd rfl (by first | exact Or.inl rfl | exact Or.inr rfl)) (pgs_cons (pg_name (i := 10) sc_refused_right.nd rfl (by first | exact Or.inl rfl | exact Or.inr rfl)) (pgs_cons (pg_name (i := 11) sc_refused_right.nd rfl (by first | exact Or.inl rfl | exact Or.inr rfl)) pgs_nil)))) (pss_one (ps_if (pt_not (pt_val (pe_kg (cl_same T.q.t) hgd hr (by decide) rfl (pa_cons (pe_heard T.q (pv 9) hr rfl) (pa_cons (pe_tup (pa_cons pe_str (pa_cons (pv 10) (pa_cons (pv 11) pa_nil)))) pa_nil))))) (pss_one (ps_ret pe_bl)) pss_nil))) (pss_one (ps_ret pe_bl))))))))))))))))⟩
end
end K25
end
section
set_option maxRecDepth 100000
set_option maxHeartbeats 4000000
namespace K25
open PySem PySem.Spec PyProof.Rows L2
structure PageOk (es : List PyData) : Prop where
  n : es.length ≤ 60
  r : ∀ e ∈ es, rowOk e
def sizeW (ms : List (Int × List PyData)) : Nat := (ms.map (·.2.length)).sum
def oddsL : List PyData := [.int (-1), .none, .bool false, .str "0", .tuple [.int 0], .int (10 ^ 50)]
def useD (w : Str) (sp : PyData) : PyData := .tuple [.str "use", .str w, sp]
/-- what refuses -/
structure RefF (es : List PyData) (ms : List (Int × List PyData)) (t : PyData) (s : Int) (d odd : PyData) : Prop where
  t0 : erText [.tuple es] = none
  f0 : Fine (.tuple es)
  w1 : erWay [.tuple es, d] = some (.str "way", .int (-1))
  k1 : wayOk es.length d = false
  f1 : Fine d
  w2 : erWay [.tuple es, .tuple (ms.map entD)] = none
  f2 : Fine (.tuple (ms.map entD))
  en : ∀ d ∈ ms.map entD, EntOk d
  sm : SmallW es ((ms.map entD).map entM)
  r1 : erRow [.tuple es, odd] = some (.str "row", odd)
  r2 : erRow [.tuple es, .int es.length] = some (.str "row", .int es.length)
  r3 : erRow [grownD [.tuple es, .tuple (ms.map entD)], odd] = some (.str "row", odd)
  r4 : erRow [grownD [.tuple es, .tuple (ms.map entD)], .int ((es.length : Int) + sizeW ms)] = some (.str "row", .int ((es.length : Int) + sizeW ms))
  t1 : erText [t] = some (.str "text", .int s)
  f3 : Fine t
  h1 : ShOk (useD "way" (.int (-1)))
  h2 : ShOk (useD "row" odd)
  h3 : ShOk (useD "row" (.int es.length))
  h4 : ShOk (useD "row" (.int ((es.length : Int) + sizeW ms)))
  h5 : ShOk (useD "text" (.int s))
section
variable {K : PySem.W.Frag} {C : Addr} {tl : XK → Hp → VK → Prop} {G G' : Hp} {d : PyData}
theorem hears_up (h : Hears K C tl G d) (s : Same G G') : Hears K C tl G' d := fun H hH Q q => h H (Rl.trans (R := Same) s hH) Q fun v B r p => q v B r (dp_up (up_low (R := Same) s) _ _ p)
theorem hears_to {d' : PyData} (h : Hears K C tl G d) (e : d = d') : Hears K C tl G d' := e ▸ h
theorem own_gr {H B : Hp} (s : Same G H) (r : Same H B) : ∀ a o, Stay o → G a = some o → own G H B a = some o := fun a o t e => own_mk (r _ _ (s _ _ e)) fun z => by rw [e] at z; cases z
end
section
variable {K : PySem.W.Frag} {f L : Addr} {G0 H0 A B : Hp} {Ds : List Addr} {σ : L2.St} {C : Addr} {X : Cx} {R : Hp → Hp → Prop} [Rl R]
theorem paired_at {α β : Type} {F : α → β → Prop} {l : List α} {m : List β} (p : Paired F l m) {i : Nat} {v : α} (h : l[i]? = some v) : ∃ a, a ∈ m ∧ F v a := by
  induction p generalizing i with
  | nil => simp at h
  | @cons v' a' l1 l2 hh tt ih =>
    cases i with
    | zero =>
      rw [List.getElem?_cons_zero] at h
      cases h
      exact ⟨a', List.mem_cons_self .., hh⟩
    | succ i =>
      rw [List.getElem?_cons_succ] at h
      obtain ⟨a, h1, h2⟩ := ih h
      exact ⟨a, List.mem_cons_of_mem _ h1, h2⟩
/-- a, b = (x, y), kept in cells -/
theorem ws_asg2 {i j : Nat} {ta : TA} {tw : TS} {Dd : Ends} {Sl : List PyData → Prop} (W : Wk R G0 H0 Ds A) (h : EvA R K ta σ (gr G0 H0 Ds A) Sl) (h2 : ∀ ds, Sl ds → ds.length = 2)
    (k : ∀ v1 v2 d1 d2 B, Wk R G0 H0 Ds B → R A B → Sl [d1, d2] → Dp K (gr G0 H0 Ds B) v1 d1 → Dp K (gr G0 H0 Ds B) v2 d2 → tw Dd ((σ.set i (some v1)).set j (some v2)) B) :
    tSeq (tAsg (tTup ta) (gTup K 2 (gCons (gName i) (gCons (gName j) gNil)))) tw Dd σ A :=
  w_evA W h fun vs ds B WB r s p => by
    have e := h2 ds s
    match ds, e, p with
    | [d1, d2], _, .cons (v := v1) p1 (.cons (v := v2) p2 .nil) =>
      refine ⟨(show 2 ≤ sizeLine by decide), fun q nq => ⟨q, [v1, v2], rfl, .inl (.inl upd_same), rfl, v1, [v2], rfl, v2, [], rfl, rfl, ?_⟩⟩
      have r2 : R B (upd B q (.tup [v1, v2])) := Rl.new (Rl.refl B) nq
      exact k v1 v2 d1 d2 _ (WB.next r2) (Rl.trans r r2) s (dp_up (gr_next r2) _ _ p1) (dp_up (gr_next r2) _ _ p2)
end
section
variable {K : PySem.W.Frag} {f L : Addr} {G0 H0 A : Hp} {Ds : List Addr} {C : Addr} {X : Cx} {s0 s1 s2 s3 s4 s5 s6 s7 : Option V}
abbrev tAskB (K : PySem.W.Frag) (X : Cx) (C : Addr) : TS := tIfS (tNot (tB (tCall (spSame K) [] E0 (tCons (tHeard X C 8 (tVar 9)) (tCons (tTup (tCons (tC (.str "use")) (tCons (tVar 10) (tCons (tVar 11) tNil)))) tNil))))) (tRet (tC (.bl false))) tNext
theorem w_asks {Dd : Ends} {p : Addr} {as : List (LamDat × Str × PyData)} {b0 b1 b2 : Option V} (W : Wk (RL f L) G0 H0 Ds A) (l : AskL K X G0 H0 Ds A p as)
    (good : ∀ a ∈ as, LamOk X 8 a.1 ∧ ShOk (useD a.2.1 a.2.2) ∧ ∀ x y z, Hears K C (fun E H' Q' => a.1.t E [s0, s1, s2, s3, s4, s5, s6, s7, some (.ref p), x, y, z] H' Q') (gr G0 H0 Ds A) (useD a.2.1 a.2.2))
    (k : ∀ x y z B, Same A B → Dd.nx [s0, s1, s2, s3, s4, s5, s6, s7, some (.ref p), x, y, z] B) :
    tFor (iList K (tVar 8)) (gTup K 3 (gCons (gName 9) (gCons (gName 10) (gCons (gName 11) gNil)))) (tAskB K X C) Dd [s0, s1, s2, s3, s4, s5, s6, s7, some (.ref p), b0, b1, b2] A := by
  obtain ⟨vs, hp, pa⟩ := l
  refine ⟨.ref p, rfl, p, rfl, ⟨vs, SqL.of hp⟩, fun i m σ B => i + m = vs.length ∧ Same A B ∧ ∃ x y z, σ = [s0, s1, s2, s3, s4, s5, s6, s7, some (.ref p), x, y, z], ⟨vs.length, by omega, Same.refl A, b0, b1, b2, rfl⟩, ?_⟩
  rintro i m σ B ⟨him, r, x, y, z, rfl⟩
  have hpB : SqL K B p vs := SqL.of (r _ _ hp)
  cases m with
  | zero => exact .inl ⟨⟨vs, hpB, by omega⟩, k x y z B r⟩
  | succ m =>
    have hi : i < vs.length := by omega
    refine .inr ⟨⟨vs, vs[i], hpB, List.getElem?_eq_getElem hi⟩, fun σ' B' => i + 1 + m = vs.length ∧ Same A B' ∧ ∃ x y z, σ' = [s0, s1, s2, s3, s4, s5, s6, s7, some (.ref p), x, y, z], fun σ' B' h => ⟨m, Nat.lt_succ_self m, h⟩, ?_⟩
    rintro v B' ⟨rfl, hv⟩
    have ev := hv vs hpB
    have hl := paired_len pa
    obtain ⟨a, ha, t, g, c', pm, ctv, u, e, h1, h2, h3, pu⟩ : ∃ a, a ∈ as ∧ AskV K X (gr G0 H0 Ds A) A v a := by
      exact paired_at pa ev
    subst e
    obtain ⟨ok, sh, hh⟩ := good a ha
    refine ⟨t, [.ref g, .str a.2.1, u], rfl, .inl (.inl (r _ _ h1)), rfl, .ref g, _, rfl, .str a.2.1, _, rfl, u, [], rfl, rfl, ?_⟩
    have up : Same (gr G0 H0 Ds A) B' := fun b o h => r _ _ (gr_same b o h)
    have ev1 := e_heardV (K := K) (C := C) (σ := [s0, s1, s2, s3, s4, s5, s6, s7, some (.ref p), some (.ref g), some (.str a.2.1), some u]) (i := 9) rfl ok (r _ _ h2) (r _ _ h3) (hears_up (hh _ _ _) up)
    have ev2 := e_same (E := E0) ev1 (e_tup1 (a_one e_str (a_one (e_var (i := 10) rfl (.str a.2.1)) (a_one (e_var (i := 11) rfl (dp_up (fun b o _ h => up b o h) _ _ pu)) a_nil))) (by show 3 ≤ 100000; decide)) sh
    refine t_not (t_B ev2) B' (Same.refl B') _ fun b B2 r2 eb => ?_
    subst eb
    exact ⟨by omega, Rl.trans (R := Same) r r2, _, _, _, rfl⟩
end
/-! ### _law_refused_right -/
def spRef (K : PySem.W.Frag) (T : List (Addr × Str)) : Sp := fun vs H Q _ => ∃ (f L : Addr) (ns : List Int) (G : Hp) (v2 v3 : V) (es : List PyData) (ms : List (Int × List PyData)), vs = [.ref f, v2, v3, .int (sizeW ms)] ∧ Same G H ∧ FdG K f L ns G ∧ Dp K G v2 (.tuple es) ∧ PlainD K G v3 (ms.map entD) ∧ PageOk es ∧
  (∀ t s d odd, .tuple [t, .int s] ∈ badT es → d ∈ badW es.length → odd ∈ oddsL → RefF es ms t s d odd) ∧ LamX.Tabs T H ∧ ∀ B, Q (.bl true) B
structure RefZ (K : PySem.W.Frag) (G : Hp) (v2 v3 v4 v5 v6 v7 : V) (es : List PyData) (ms : List (Int × List PyData)) (t : PyData) (s : Int) (d odd far : PyData) : Prop where
  p1 : Dp K G v2 (.tuple es)
  pw : PlainD K G v3 (ms.map entD)
  p4 : Dp K G v4 (.tuple [t, .int s])
  p5 : Dp K G v5 d
  p6 : Dp K G v6 odd
  p7 : Dp K G v7 far
theorem RefZ.up {K : PySem.W.Frag} {G G' : Hp} {v2 v3 v4 v5 v6 v7 : V} {es : List PyData} {ms : List (Int × List PyData)} {t : PyData} {s : Int} {d odd far : PyData} (z : RefZ K G v2 v3 v4 v5 v6 v7 es ms t s d odd far) (u : ∀ a o, Stay o → G a = some o → G' a = some o) : RefZ K G' v2 v3 v4 v5 v6 v7 es ms t s d odd far :=
  ⟨dp_up u _ _ z.p1, z.pw.up u, dp_up u _ _ z.p4, dp_up u _ _ z.p5, dp_up u _ _ z.p6, dp_up u _ _ z.p7⟩
/-! what the ten lambdas are heard to say -/
section
variable {K : PySem.W.Frag} {C : Addr} {G : Hp} {v2 v3 v4 v5 v6 v7 : V} {es : List PyData} {ms : List (Int × List PyData)} {t : PyData} {s : Int} {d odd far : PyData} {s0 s8 s9 s10 s11 : Option V}
abbrev sig (s0 : Option V) (v2 v3 v4 v5 v6 v7 : V) (n : Nat) (s8 s9 s10 s11 : Option V) : L2.St := [s0, some v2, some v3, some (.int n), some v4, some v5, some v6, some v7, s8, s9, s10, s11]
theorem tw_bad (F : RefF es ms t s d odd) (G : Hp) (v : V) : preTW K G v (.tuple es) d := ⟨F.f0, F.f1, fun es' e _ hk => by cases e; rw [F.k1] at hk; cases hk⟩
theorem tw_way (F : RefF es ms t s d odd) (p : PlainD K G v3 (ms.map entD)) : preTW K G v3 (.tuple es) (.tuple (ms.map entD)) := ⟨F.f0, F.f2, fun es' e _ hk => by cases e; exact ⟨_, rfl, p, F.en, F.sm⟩⟩
theorem tw_text (F : RefF es ms t s d odd) (G : Hp) (v : V) {d' : PyData} (h : Fine d') : preTW K G v t d' := ⟨F.f3, h, fun es' e h1 _ => by subst e; rw [F.t1] at h1; cases h1⟩
theorem he3 (F : RefF es ms t s d odd) (Z : RefZ K G v2 v3 v4 v5 v6 v7 es ms t s d odd far) : Hears K C (fun E H' Q' => (lr3 K C).t E (sig s0 v2 v3 v4 v5 v6 v7 (sizeW ms) s8 s9 s10 s11) H' Q') G (useD "way" (.int (-1))) :=
  hears_to (hears (K := K) (C := C) (σ := sig s0 v2 v3 v4 v5 v6 v7 (sizeW ms) s8 s9 s10 s11) (ta := (tCons (tVar 1) (tCons (tVar 5) tNil))) (pre := preG2 K) (er := erGrown) (F := grownD) (ds := [.tuple es, d]) fun H hH Q q => ⟨v2, rfl, v5, rfl, by
    have Z2 := Z.up (own_gr hH (Same.refl H))
    exact q H _ (Same.refl H) (.cons Z2.p1 (.cons Z2.p5 .nil)) ⟨v2, v5, _, _, rfl, rfl, tw_bad F _ _⟩⟩) (by show heardD (erTW (.tuple es) d none) _ = _; unfold erTW; rw [F.t0, F.w1]; rfl)
theorem he4 (F : RefF es ms t s d odd) (Z : RefZ K G v2 v3 v4 v5 v6 v7 es ms t s d odd far) : Hears K C (fun E H' Q' => (lr4 K C).t E (sig s0 v2 v3 v4 v5 v6 v7 (sizeW ms) s8 s9 s10 s11) H' Q') G (useD "way" (.int (-1))) :=
  hears_to (hears (K := K) (C := C) (σ := sig s0 v2 v3 v4 v5 v6 v7 (sizeW ms) s8 s9 s10 s11) (ta := (tCons (tVar 1) (tCons (tVar 5) (tCons (tVar 6) tNil)))) (pre := preG3 K) (er := erMoved) (F := movedD) (ds := [.tuple es, d, odd]) fun H hH Q q => ⟨v2, rfl, v5, rfl, v6, rfl, by
    have Z2 := Z.up (own_gr hH (Same.refl H))
    exact q H _ (Same.refl H) (.cons Z2.p1 (.cons Z2.p5 (.cons Z2.p6 .nil))) ⟨v2, v5, v6, _, _, _, rfl, rfl, tw_bad F _ _⟩⟩) (by show heardD (erTW (.tuple es) d _) _ = _; unfold erTW; rw [F.t0, F.w1]; rfl)
theorem he5 (F : RefF es ms t s d odd) (Z : RefZ K G v2 v3 v4 v5 v6 v7 es ms t s d odd far) : Hears K C (fun E H' Q' => (lr5 K C).t E (sig s0 v2 v3 v4 v5 v6 v7 (sizeW ms) s8 s9 s10 s11) H' Q') G (useD "way" (.int (-1))) :=
  hears_to (hears (K := K) (C := C) (σ := sig s0 v2 v3 v4 v5 v6 v7 (sizeW ms) s8 s9 s10 s11) (ta := (tCons (tVar 1) (tCons (tVar 5) (tCons (tVar 6) tNil)))) (pre := preG3 K) (er := erOld) (F := oldD) (ds := [.tuple es, d, odd]) fun H hH Q q => ⟨v2, rfl, v5, rfl, v6, rfl, by
    have Z2 := Z.up (own_gr hH (Same.refl H))
    exact q H _ (Same.refl H) (.cons Z2.p1 (.cons Z2.p5 (.cons Z2.p6 .nil))) ⟨v2, v5, v6, _, _, _, rfl, rfl, tw_bad F _ _⟩⟩) (by show heardD (erTW (.tuple es) d _) _ = _; unfold erTW; rw [F.t0, F.w1]; rfl)
theorem he6 (F : RefF es ms t s d odd) (Z : RefZ K G v2 v3 v4 v5 v6 v7 es ms t s d odd far) : Hears K C (fun E H' Q' => (lr6 K C).t E (sig s0 v2 v3 v4 v5 v6 v7 (sizeW ms) s8 s9 s10 s11) H' Q') G (useD "row" odd) :=
  hears_to (hears (K := K) (C := C) (σ := sig s0 v2 v3 v4 v5 v6 v7 (sizeW ms) s8 s9 s10 s11) (ta := (tCons (tVar 1) (tCons (tVar 2) (tCons (tVar 6) tNil)))) (pre := preG3 K) (er := erMoved) (F := movedD) (ds := [.tuple es, .tuple (ms.map entD), odd]) fun H hH Q q => ⟨v2, rfl, v3, rfl, v6, rfl, by
    have Z2 := Z.up (own_gr hH (Same.refl H))
    exact q H _ (Same.refl H) (.cons Z2.p1 (.cons Z2.pw.dp (.cons Z2.p6 .nil))) ⟨v2, v3, v6, _, _, _, rfl, rfl, tw_way F Z2.pw⟩⟩) (by show heardD (erTW (.tuple es) (.tuple (ms.map entD)) (erRow [.tuple es, odd])) _ = _; unfold erTW; rw [F.t0, F.w2, F.r1]; rfl)
theorem he7 (F : RefF es ms t s d odd) (Z : RefZ K G v2 v3 v4 v5 v6 v7 es ms t s d odd far) : Hears K C (fun E H' Q' => (lr7 K C).t E (sig s0 v2 v3 v4 v5 v6 v7 (sizeW ms) s8 s9 s10 s11) H' Q') G (useD "row" (.int es.length)) :=
  hears_to (hears (K := K) (C := C) (σ := sig s0 v2 v3 v4 v5 v6 v7 (sizeW ms) s8 s9 s10 s11) (ta := (tCons (tVar 1) (tCons (tVar 2) (tCons (tCB (rLenD K) (tCons (tVar 1) tNil)) tNil)))) (pre := preG3 K) (er := erMoved) (F := movedD) (ds := [.tuple es, .tuple (ms.map entD), .int es.length]) fun H hH Q q => ⟨v2, rfl, v3, rfl, e_len (R := Same) (K := K) (σ := sig s0 v2 v3 v4 v5 v6 v7 (sizeW ms) s8 s9 s10 s11) (e_var (i := 1) rfl Z.p1) (.inl ⟨es, rfl, rfl⟩) H hH _ fun v d' B r e p => by
    subst e
    cases p
    have Z2 := Z.up (own_gr hH r)
    exact q B _ r (.cons Z2.p1 (.cons Z2.pw.dp (.cons (.int _) .nil))) ⟨v2, v3, _, _, _, _, rfl, rfl, tw_way F Z2.pw⟩⟩) (by show heardD (erTW (.tuple es) (.tuple (ms.map entD)) (erRow [.tuple es, .int es.length])) _ = _; unfold erTW; rw [F.t0, F.w2, F.r2]; rfl)
theorem he8 (F : RefF es ms t s d odd) (Z : RefZ K G v2 v3 v4 v5 v6 v7 es ms t s d odd far) : Hears K C (fun E H' Q' => (lr8 K C).t E (sig s0 v2 v3 v4 v5 v6 v7 (sizeW ms) s8 s9 s10 s11) H' Q') G (useD "row" odd) :=
  hears_to (hears (K := K) (C := C) (σ := sig s0 v2 v3 v4 v5 v6 v7 (sizeW ms) s8 s9 s10 s11) (ta := (tCons (tVar 1) (tCons (tVar 2) (tCons (tVar 6) tNil)))) (pre := preG3 K) (er := erOld) (F := oldD) (ds := [.tuple es, .tuple (ms.map entD), odd]) fun H hH Q q => ⟨v2, rfl, v3, rfl, v6, rfl, by
    have Z2 := Z.up (own_gr hH (Same.refl H))
    exact q H _ (Same.refl H) (.cons Z2.p1 (.cons Z2.pw.dp (.cons Z2.p6 .nil))) ⟨v2, v3, v6, _, _, _, rfl, rfl, tw_way F Z2.pw⟩⟩) (by show heardD (erTW (.tuple es) (.tuple (ms.map entD)) (erRow [grownD [.tuple es, .tuple (ms.map entD)], odd])) _ = _; unfold erTW; rw [F.t0, F.w2, F.r3]; rfl)
theorem he9 (F : RefF es ms t s d odd) (Z : RefZ K G v2 v3 v4 v5 v6 v7 es ms t s d odd far) : Hears K C (fun E H' Q' => (lr9 K C).t E (sig s0 v2 v3 v4 v5 v6 v7 (sizeW ms) s8 s9 s10 s11) H' Q') G (useD "row" (.int ((es.length : Int) + sizeW ms))) :=
  hears_to (hears (K := K) (C := C) (σ := sig s0 v2 v3 v4 v5 v6 v7 (sizeW ms) s8 s9 s10 s11) (ta := (tCons (tVar 1) (tCons (tVar 2) (tCons (tOp (rI0 fun i j => .int (i + j)) (tCB (rLenD K) (tCons (tVar 1) tNil)) (tVar 3)) tNil)))) (pre := preG3 K) (er := erOld) (F := oldD) (ds := [.tuple es, .tuple (ms.map entD), .int ((es.length : Int) + sizeW ms)]) fun H hH Q q => ⟨v2, rfl, v3, rfl, e_op1 (R := Same) (K := K) (σ := sig s0 v2 v3 v4 v5 v6 v7 (sizeW ms) s8 s9 s10 s11) (e_len (e_var (i := 1) rfl Z.p1) (.inl ⟨es, rfl, rfl⟩)) (e_var (i := 3) rfl (.int (sizeW ms))) (rs_I0 (e := .int ((es.length : Int) + sizeW ms)) fun X => .int _) H hH _ fun v d' B r e p => by
    subst e
    cases p
    have Z2 := Z.up (own_gr hH r)
    exact q B _ r (.cons Z2.p1 (.cons Z2.pw.dp (.cons (.int _) .nil))) ⟨v2, v3, _, _, _, _, rfl, rfl, tw_way F Z2.pw⟩⟩) (by show heardD (erTW (.tuple es) (.tuple (ms.map entD)) (erRow [grownD [.tuple es, .tuple (ms.map entD)], .int ((es.length : Int) + sizeW ms)])) _ = _; unfold erTW; rw [F.t0, F.w2, F.r4]; rfl)
theorem he10 (F : RefF es ms t s d odd) (Z : RefZ K G v2 v3 v4 v5 v6 v7 es ms t s d odd far) : Hears K C (fun E H' Q' => (lr10 K C).t E (sig s0 v2 v3 v4 v5 v6 v7 (sizeW ms) s8 s9 s10 s11) H' Q') G (useD "text" (.int s)) :=
  hears_to (hears (K := K) (C := C) (σ := sig s0 v2 v3 v4 v5 v6 v7 (sizeW ms) s8 s9 s10 s11) (ta := (tCons (tOp (rIxT K) (tVar 4) (tC (.int 0))) (tCons (tVar 5) tNil))) (pre := preG2 K) (er := erGrown) (F := grownD) (ds := [t, d]) fun H hH Q q => e_op1 (R := Same) (K := K) (σ := sig s0 v2 v3 v4 v5 v6 v7 (sizeW ms) s8 s9 s10 s11) (e_var (i := 4) rfl Z.p4) e_int (rs_ixT (d := t) rfl) H hH _ fun v d' B r e p => by
    subst e
    have Z2 := Z.up (own_gr hH r)
    exact ⟨v5, rfl, q B _ r (.cons p (.cons Z2.p5 .nil)) ⟨v, v5, _, _, rfl, rfl, tw_text F _ _ F.f1⟩⟩) (by show heardD (erTW t d none) _ = _; unfold erTW; rw [F.t1]; rfl)
theorem he11 (F : RefF es ms t s d odd) (Z : RefZ K G v2 v3 v4 v5 v6 v7 es ms t s d odd far) : Hears K C (fun E H' Q' => (lr11 K C).t E (sig s0 v2 v3 v4 v5 v6 v7 (sizeW ms) s8 s9 s10 s11) H' Q') G (useD "text" (.int s)) :=
  hears_to (hears (K := K) (C := C) (σ := sig s0 v2 v3 v4 v5 v6 v7 (sizeW ms) s8 s9 s10 s11) (ta := (tCons (tOp (rIxT K) (tVar 4) (tC (.int 0))) (tCons (tVar 5) (tCons (tVar 7) tNil)))) (pre := preG3 K) (er := erMoved) (F := movedD) (ds := [t, d, far]) fun H hH Q q => e_op1 (R := Same) (K := K) (σ := sig s0 v2 v3 v4 v5 v6 v7 (sizeW ms) s8 s9 s10 s11) (e_var (i := 4) rfl Z.p4) e_int (rs_ixT (d := t) rfl) H hH _ fun v d' B r e p => by
    subst e
    have Z2 := Z.up (own_gr hH r)
    exact ⟨v5, rfl, v7, rfl, q B _ r (.cons p (.cons Z2.p5 (.cons Z2.p7 .nil))) ⟨v, v5, v7, _, _, _, rfl, rfl, tw_text F _ _ F.f1⟩⟩) (by show heardD (erTW t d _) _ = _; unfold erTW; rw [F.t1]; rfl)
theorem he12 (F : RefF es ms t s d odd) (Z : RefZ K G v2 v3 v4 v5 v6 v7 es ms t s d odd far) : Hears K C (fun E H' Q' => (lr12 K C).t E (sig s0 v2 v3 v4 v5 v6 v7 (sizeW ms) s8 s9 s10 s11) H' Q') G (useD "text" (.int s)) :=
  hears_to (hears (K := K) (C := C) (σ := sig s0 v2 v3 v4 v5 v6 v7 (sizeW ms) s8 s9 s10 s11) (ta := (tCons (tOp (rIxT K) (tVar 4) (tC (.int 0))) (tCons (tVar 2) (tCons (tVar 6) tNil)))) (pre := preG3 K) (er := erOld) (F := oldD) (ds := [t, .tuple (ms.map entD), odd]) fun H hH Q q => e_op1 (R := Same) (K := K) (σ := sig s0 v2 v3 v4 v5 v6 v7 (sizeW ms) s8 s9 s10 s11) (e_var (i := 4) rfl Z.p4) e_int (rs_ixT (d := t) rfl) H hH _ fun v d' B r e p => by
    subst e
    have Z2 := Z.up (own_gr hH r)
    exact ⟨v3, rfl, v6, rfl, q B _ r (.cons p (.cons Z2.pw.dp (.cons Z2.p6 .nil))) ⟨v, v3, v6, _, _, _, rfl, rfl, tw_text F _ _ F.f2⟩⟩) (by show heardD (erTW t (.tuple (ms.map entD)) _) _ = _; unfold erTW; rw [F.t1]; rfl)
end
theorem badT_len {es : List PyData} : (badT es).length = 20 := by rfl
theorem badW_len {n : Int} : (badW n).length = 21 := by rfl
theorem bad_pair {es : List PyData} {d : PyData} (h : d ∈ badT es) : ∃ t s, d = .tuple [t, .int s] := by
  rcases List.mem_append.1 h with h | h
  · unfold found0 at h
    simp only [List.mem_cons, List.not_mem_nil, or_false] at h
    rcases h with h | h | h | h | h | h <;> exact ⟨_, _, h⟩
  · obtain ⟨e, _, rfl⟩ := List.mem_map.1 h
    exact ⟨_, _, rfl⟩
section
variable {P : Program} {w : World} {K : PySem.W.Frag} {mg : Str → Option Value} {base : Heap} {C fI cc SE c1 P1 c2 P2 : Addr}
theorem cl_refused (T : Tt P K mg base C fI cc SE c1 P1 c2 P2) : ClG P w K mg base 11 "_law_refused_right" (spRef K (tabsL P1 P2)) := by
  refine clt_of (ps := ["_law_feed_here", "_law_page", "_law_path", "_law_size"]) T.q.t.d_refused_right (fun _ _ _ _ _ _ us hl => match us, hl with | [_, _, _, _], _ => rfl) sc_refused_right (fun vs H Q E ⟨f, L, ns, G, v2, v3, es, ms, e, _⟩ => by rw [e]; rfl) fun g cdv A0 outer s H vs Q E hcd hgd hr h => ?_
  have LT : LamT (XR P w K mg base g cdv A0 outer s H E) (tabsL P1 P2) c2 P2 := ⟨T.b2, hcd _ T.l2, List.mem_cons_of_mem _ (List.mem_cons_self ..), fun p hp e => by
    rcases List.mem_cons.1 hp with rfl | hp
    · exact absurd e T.ne
    · rw [List.mem_singleton.1 hp]
      rfl⟩
  refine ⟨_, (pss_cons (ps_asg (pe_tup (pa_cons (pe_k (cl_any T.q.t) hr (by decide) rfl (pa_cons (pv 0) (pa_cons (pe_k (cl_bad_texts T.q.t) hr (by decide) rfl (pa_cons (pv 1) pa_nil)) pa_nil))) (pa_cons (pe_k (cl_any T.q.t) hr (by decide) rfl (pa_cons (pv 0) (pa_cons (pe_k (cl_bad_ways T.q.t) hr (by decide) rfl (pa_cons (pv 1) pa_nil)) pa_nil))) pa_nil))) (pg_tup rfl (pgs_cons (pg_name (i := 4) sc_refused_right.nd rfl (Or.inr rfl)) (pgs_cons (pg_name (i := 5) sc_refused_right.nd rfl (Or.inr rfl)) pgs_nil)))) (pss_cons (ps_set (i := 6) sc_refused_right.nd rfl (by first | exact Or.inl rfl | exact Or.inr rfl) (pe_k (cl_any T.q.t) hr (by decide) rfl (pa_cons (pv 0) (pa_cons (pe_lst (pa_cons (pe_un un_neg pe_int) (pa_cons pe_non (pa_cons pe_bl (pa_cons pe_str (pa_cons (pe_tup (pa_cons pe_int pa_nil)) (pa_cons (pe_op op_pow pe_int pe_int) pa_nil))))))) pa_nil)))) (pss_cons (ps_set (i := 7) sc_refused_right.nd rfl (by first | exact Or.inl rfl | exact Or.inr rfl) (pe_k (cl_any T.q.t) hr (by decide) rfl (pa_cons (pv 0) (pa_cons (pe_lst (pa_cons (pv 6) (pa_cons (pe_callB call_len rfl T.q.t.z.y.x.n_len PySem.boot_len (pa_cons (pv 1) pa_nil)) (pa_cons (pe_op op_add (pe_op op_add (pe_callB call_len rfl T.q.t.z.y.x.n_len PySem.boot_len (pa_cons (pv 1) pa_nil)) (pv 3)) pe_int) pa_nil)))) pa_nil)))) (pss_cons (ps_set (i := 8) sc_refused_right.nd rfl (by first | exact Or.inl rfl | exact Or.inr rfl) (pe_lst (pa_cons (pe_tup (pa_cons (pe_lam (k := 8) LT (lo3 T)) (pa_cons pe_str (pa_cons (pe_un un_neg pe_int) pa_nil)))) pa_nil))) (pss_cons (ps_expr (pe_bm PySem.F.plainAttrs_list PySem.F.slot_list_append PySem.F.type_list_append mt_append (pv 8) (pa_cons (pe_tup (pa_cons (pe_lam (k := 8) LT (lo4 T)) (pa_cons pe_str (pa_cons (pe_un un_neg pe_int) pa_nil)))) pa_nil))) (pss_cons (ps_expr (pe_bm PySem.F.plainAttrs_list PySem.F.slot_list_append PySem.F.type_list_append mt_append (pv 8) (pa_cons (pe_tup (pa_cons (pe_lam (k := 8) LT (lo5 T)) (pa_cons pe_str (pa_cons (pe_un un_neg pe_int) pa_nil)))) pa_nil))) (pss_cons (ps_expr (pe_bm PySem.F.plainAttrs_list PySem.F.slot_list_append PySem.F.type_list_append mt_append (pv 8) (pa_cons (pe_tup (pa_cons (pe_lam (k := 8) LT (lo6 T)) (pa_cons pe_str (pa_cons (pv 6) pa_nil)))) pa_nil))) (pss_cons (ps_expr (pe_bm PySem.F.plainAttrs_list PySem.F.slot_list_append PySem.F.type_list_append mt_append (pv 8) (pa_cons (pe_tup (pa_cons (pe_lam (k := 8) LT (lo7 T)) (pa_cons pe_str (pa_cons (pe_callB call_len rfl T.q.t.z.y.x.n_len PySem.boot_len (pa_cons (pv 1) pa_nil)) pa_nil)))) pa_nil))) (pss_cons (ps_expr (pe_bm PySem.F.plainAttrs_list PySem.F.slot_list_append PySem.F.type_list_append mt_append (pv 8) (pa_cons (pe_tup (pa_cons (pe_lam (k := 8) LT (lo8 T)) (pa_cons pe_str (pa_cons (pv 6) pa_nil)))) pa_nil))) (pss_cons (ps_expr (pe_bm PySem.F.plainAttrs_list PySem.F.slot_list_append PySem.F.type_list_append mt_append (pv 8) (pa_cons (pe_tup (pa_cons (pe_lam (k := 8) LT (lo9 T)) (pa_cons pe_str (pa_cons (pe_op op_add (pe_callB call_len rfl T.q.t.z.y.x.n_len PySem.boot_len (pa_cons (pv 1) pa_nil)) (pv 3)) pa_nil)))) pa_nil))) (pss_cons (ps_expr (pe_bm PySem.F.plainAttrs_list PySem.F.slot_list_append PySem.F.type_list_append mt_append (pv 8) (pa_cons (pe_tup (pa_cons (pe_lam (k := 8) LT (lo10 T)) (pa_cons pe_str (pa_cons (pe_ix ix_tup (pv 4) pe_int (fun _ _ => rfl)) pa_nil)))) pa_nil))) (pss_cons (ps_expr (pe_bm PySem.F.plainAttrs_list PySem.F.slot_list_append PySem.F.type_list_append mt_append (pv 8) (pa_cons (pe_tup (pa_cons (pe_lam (k := 8) LT (lo11 T)) (pa_cons pe_str (pa_cons (pe_ix ix_tup (pv 4) pe_int (fun _ _ => rfl)) pa_nil)))) pa_nil))) (pss_cons (ps_expr (pe_bm PySem.F.plainAttrs_list PySem.F.slot_list_append PySem.F.type_list_append mt_append (pv 8) (pa_cons (pe_tup (pa_cons (pe_lam (k := 8) LT (lo12 T)) (pa_cons pe_str (pa_cons (pe_ix ix_tup (pv 4) pe_int (fun _ _ => rfl)) pa_nil)))) pa_nil))) (pss_cons (ps_for (passes_of rfl) rfl (pi_list (pv 8)) (pg_tup rfl (pgs_cons (pg_name (i := 9) sc_refused_right.nd rfl (by first | exact Or.inl rfl | exact Or.inr rfl)) (pgs_cons (pg_name (i := 10) sc_refused_right.nd rfl (by first | exact Or.inl rfl | exact Or.inr rfl)) (pgs_cons (pg_name (i := 11) sc_refused_right.nd rfl (by first | exact Or.inl rfl | exact Or.inr rfl)) pgs_nil)))) (pss_one (ps_if (pt_not (pt_val (pe_kg (cl_same T.q.t) hgd hr (by decide) rfl (pa_cons (pe_heard T.q (pv 9) hr rfl) (pa_cons (pe_tup (pa_cons pe_str (pa_cons (pv 10) (pa_cons (pv 11) pa_nil)))) pa_nil))))) (pss_one (ps_ret pe_bl)) pss_nil))) (pss_one (ps_ret pe_bl)))))))))))))))), ?_⟩
  obtain ⟨f, L, ns, G, v2, v3, es, ms, rfl, sm, F, p1, pw, hpg, bad, tb, q⟩ := h
  have W0 := Wk.start (R := RF f L) (Rl.ext sm)
  have u0 : ∀ {v d}, Dp K G v d → Dp K (gr G H [] H) v d := fun h => dp_up (gr_base W0) _ _ h
  refine ws_asg2 (K := K) W0 (Sl := fun ds => ∃ d es', ds = d :: es' ∧ d ∈ badT es ∧ ∃ d2 es2, es' = d2 :: es2 ∧ d2 ∈ badW es.length ∧ es2 = []) (a_cons (e_any (es := badT es) rfl (F.gr W0) (e_callD (F := badTF) (ds := [.tuple es]) (a_one (e_var (i := 1) rfl (u0 p1)) a_nil) ⟨es, rfl, by have := hpg.n; omega⟩) (by rw [badT_len]; decide) (by rw [badT_len]; decide)) (a_cons (e_any (es := badW es.length) rfl (F.gr W0) (e_callD (F := badWF) (ds := [.tuple es]) (a_one (e_var (i := 1) rfl (u0 p1)) a_nil) ⟨es, rfl, by have := hpg.n; omega⟩) (by rw [badW_len]; decide) (by rw [badW_len]; decide)) a_nil)) (fun ds ⟨d, es', e1, _, d2, es2, e2, _, e3⟩ => by rw [e1, e2, e3]; rfl) fun v4 v5 d4 d5 A1 W1 r1 hs p4 p5 => ?_
  obtain ⟨hb, hw⟩ : d4 ∈ badT es ∧ d5 ∈ badW es.length := by
    obtain ⟨d, es', e1, h1, d2, es2, e2, h2, e3⟩ := hs
    cases e1
    cases e2
    exact ⟨h1, h2⟩
  obtain ⟨t, sp, rfl⟩ := bad_pair hb
  have rr1 : RF f L (gr G H [] H) (gr G H [] A1) := gr_r W0 r1
  refine ws_set (K := K) W1 (S := (· ∈ oddsL)) (e_any (es := oddsL) rfl (F.gr W1) (EvS.to (e_lst1 (ds := oddsL) (a_one (e_un e_int fun X => .int _) (a_one e_non (a_one e_bl (a_one e_str (a_one (e_tup1 (a_one e_int a_nil) (by decide)) (a_one (e_op1 e_int e_int (rs_I (e := .int (10 ^ 50)) (by unfold CPow; decide) fun X => .int _)) a_nil)))))) (by decide)) rfl) (by decide) (by decide)) fun v6 d6 A2 W2 r2 ho p6 => ?_
  refine ws_set (K := K) W2 (S := fun _ => True) (EvS.imp (e_any (es := [d6, .int es.length, .int ((es.length : Int) + sizeW ms + 1)]) rfl (F.gr W2) (e_lst1 (a_one (e_var (i := 6) rfl p6) (a_one (e_len (e_var (i := 1) rfl (dp_up (fun a o t z => Rl.stay (R := RF f L) (Rl.trans rr1 (gr_r W1 r2)) t z) _ _ (u0 p1))) (.inl ⟨es, rfl, rfl⟩)) (a_one (e_op1 (e_op1 (e_len (e_var (i := 1) rfl (dp_up (fun a o t z => Rl.stay (R := RF f L) (Rl.trans rr1 (gr_r W1 r2)) t z) _ _ (u0 p1))) (.inl ⟨es, rfl, rfl⟩)) (e_var (i := 3) rfl (.int (sizeW ms))) (rs_I0 (e := .int ((es.length : Int) + sizeW ms)) fun X => .int _)) e_int (rs_I0 fun X => .int _)) a_nil))) (by show 3 ≤ 100000; decide)) (by show 0 < 3; decide) (by show 3 ≤ 100000; decide)) fun d h => trivial) fun v7 d7 A3 W3 r3 _ p7 => ?_
  have RFF := bad t sp d5 d6 hb hw ho
  have W4 : Wk (RL f L) G H [] A3 := ⟨W3.g.rl, W3.r.rl, W3.d⟩
  have t3 : LamX.Tabs (tabsL P1 P2) A3 := W3.r.tabs tb
  have Z3 : RefZ K (gr G H [] A3) v2 v3 v4 v5 v6 v7 es ms t sp d5 d6 d7 := by
    have r13 : RF f L (gr G H [] A1) (gr G H [] A3) := Rl.trans (gr_r W1 r2) (gr_r W2 r3)
    have r03 : RF f L (gr G H [] H) (gr G H [] A3) := Rl.trans rr1 r13
    exact ⟨dp_up (fun a o t z => Rl.stay r03 t z) _ _ (u0 p1), pw.up fun a o t z => Rl.stay r03 t (gr_base W0 a o t z), dp_up (fun a o t z => Rl.stay r13 t z) _ _ p4, dp_up (fun a o t z => Rl.stay r13 t z) _ _ p5, dp_up (fun a o t z => Rl.stay (gr_r W2 r3) t z) _ _ p6, p7⟩
  clear p7 p6 p5 p4
  refine ws_ask0 (K := K) (X := (XR P w K mg base g cdv A0 outer s H E)) (D := lr3 K C) (sp := (.int (-1))) W4 t3 (fun B WB r => e_un e_int fun X => .int _) fun p A5 W5 r5 t5 l5 => ?_
  have Z5 := Z3.up fun a o t z => Rl.stay r5 t z
  refine ws_asks (K := K) (X := (XR P w K mg base g cdv A0 outer s H E)) (D := lr4 K C) (sp := (.int (-1))) (i := 8) (P := p) W5 t5 rfl (List.mem_cons_self ..) l5 (by show 1 ≤ 20; decide) (fun B WB r => e_un e_int fun X => .int _) fun A6 W6 r6 t6 l6 => ?_
  have Z6 := Z5.up fun a o t z => Rl.stay r6 t z
  refine ws_asks (K := K) (X := (XR P w K mg base g cdv A0 outer s H E)) (D := lr5 K C) (sp := (.int (-1))) (i := 8) (P := p) W6 t6 rfl (List.mem_cons_self ..) l6 (by show 2 ≤ 20; decide) (fun B WB r => e_un e_int fun X => .int _) fun A7 W7 r7 t7 l7 => ?_
  have Z7 := Z6.up fun a o t z => Rl.stay r7 t z
  refine ws_asks (K := K) (X := (XR P w K mg base g cdv A0 outer s H E)) (D := lr6 K C) (sp := d6) (i := 8) (P := p) W7 t7 rfl (List.mem_cons_self ..) l7 (by show 3 ≤ 20; decide) (fun B WB r => e_var (i := 6) rfl (Z7.up (gr_next r)).p6) fun A8 W8 r8 t8 l8 => ?_
  have Z8 := Z7.up fun a o t z => Rl.stay r8 t z
  refine ws_asks (K := K) (X := (XR P w K mg base g cdv A0 outer s H E)) (D := lr7 K C) (sp := (.int es.length)) (i := 8) (P := p) W8 t8 rfl (List.mem_cons_self ..) l8 (by show 4 ≤ 20; decide) (fun B WB r => e_len (e_var (i := 1) rfl (Z8.up (gr_next r)).p1) (.inl ⟨es, rfl, rfl⟩)) fun A9 W9 r9 t9 l9 => ?_
  have Z9 := Z8.up fun a o t z => Rl.stay r9 t z
  refine ws_asks (K := K) (X := (XR P w K mg base g cdv A0 outer s H E)) (D := lr8 K C) (sp := d6) (i := 8) (P := p) W9 t9 rfl (List.mem_cons_self ..) l9 (by show 5 ≤ 20; decide) (fun B WB r => e_var (i := 6) rfl (Z9.up (gr_next r)).p6) fun A10 W10 r10 t10 l10 => ?_
  have Z10 := Z9.up fun a o t z => Rl.stay r10 t z
  refine ws_asks (K := K) (X := (XR P w K mg base g cdv A0 outer s H E)) (D := lr9 K C) (sp := (.int ((es.length : Int) + sizeW ms))) (i := 8) (P := p) W10 t10 rfl (List.mem_cons_self ..) l10 (by show 6 ≤ 20; decide) (fun B WB r => e_op1 (e_len (e_var (i := 1) rfl (Z10.up (gr_next r)).p1) (.inl ⟨es, rfl, rfl⟩)) (e_var (i := 3) rfl (.int (sizeW ms))) (rs_I0 fun X => .int _)) fun A11 W11 r11 t11 l11 => ?_
  have Z11 := Z10.up fun a o t z => Rl.stay r11 t z
  refine ws_asks (K := K) (X := (XR P w K mg base g cdv A0 outer s H E)) (D := lr10 K C) (sp := (.int sp)) (i := 8) (P := p) W11 t11 rfl (List.mem_cons_self ..) l11 (by show 7 ≤ 20; decide) (fun B WB r => e_op1 (e_var (i := 4) rfl (Z11.up (gr_next r)).p4) e_int (rs_ixT (d := .int sp) rfl)) fun A12 W12 r12 t12 l12 => ?_
  have Z12 := Z11.up fun a o t z => Rl.stay r12 t z
  refine ws_asks (K := K) (X := (XR P w K mg base g cdv A0 outer s H E)) (D := lr11 K C) (sp := (.int sp)) (i := 8) (P := p) W12 t12 rfl (List.mem_cons_self ..) l12 (by show 8 ≤ 20; decide) (fun B WB r => e_op1 (e_var (i := 4) rfl (Z12.up (gr_next r)).p4) e_int (rs_ixT (d := .int sp) rfl)) fun A13 W13 r13 t13 l13 => ?_
  have Z13 := Z12.up fun a o t z => Rl.stay r13 t z
  refine ws_asks (K := K) (X := (XR P w K mg base g cdv A0 outer s H E)) (D := lr12 K C) (sp := (.int sp)) (i := 8) (P := p) W13 t13 rfl (List.mem_cons_self ..) l13 (by show 9 ≤ 20; decide) (fun B WB r => e_op1 (e_var (i := 4) rfl (Z13.up (gr_next r)).p4) e_int (rs_ixT (d := .int sp) rfl)) fun A14 W14 r14 t14 l14 => ?_
  have Z14 := Z13.up fun a o t z => Rl.stay r14 t z
  refine w_asks (K := K) (X := (XR P w K mg base g cdv A0 outer s H E)) (C := C) (Dd := { nx := _, rt := _ }) W14 l14 (fun a ha => ?_) fun x y z B r => ?_
  · simp only [List.cons_append, List.nil_append, List.mem_cons, List.not_mem_nil, or_false] at ha
    rcases ha with rfl | rfl | rfl | rfl | rfl | rfl | rfl | rfl | rfl | rfl
    · exact ⟨lo3 T, RFF.h1, fun x y z => he3 RFF Z14⟩
    · exact ⟨lo4 T, RFF.h1, fun x y z => he4 RFF Z14⟩
    · exact ⟨lo5 T, RFF.h1, fun x y z => he5 RFF Z14⟩
    · exact ⟨lo6 T, RFF.h2, fun x y z => he6 RFF Z14⟩
    · exact ⟨lo7 T, RFF.h3, fun x y z => he7 RFF Z14⟩
    · exact ⟨lo8 T, RFF.h2, fun x y z => he8 RFF Z14⟩
    · exact ⟨lo9 T, RFF.h4, fun x y z => he9 RFF Z14⟩
    · exact ⟨lo10 T, RFF.h5, fun x y z => he10 RFF Z14⟩
    · exact ⟨lo11 T, RFF.h5, fun x y z => he11 RFF Z14⟩
    · exact ⟨lo12 T, RFF.h5, fun x y z => he12 RFF Z14⟩
  · exact q B
end
end K25
end
section
set_option maxRecDepth 100000
set_option maxHeartbeats 4000000
namespace K25
open PySem PySem.Spec PyProof.Rows L2
section
variable {R : Hp → Hp → Prop} [Rl R] {K : PySem.W.Frag} {σ : L2.St} {G G0 H0 A : Hp} {Ds : List Addr} {te tx : TE} {ta : TA} {f L : Addr} {ns : List Int} {tw : TS} {i j : Nat} {Dd : Ends} {C : Addr}
/-- f(..), f a def of the program that may raise, where it doesn't -/
theorem e_callY {pre : Hp → List V → List PyData → Prop} {er : List PyData → ErD} {F : List PyData → PyData} {ds : List PyData} {W : WX} (h : ∀ A, R G A → ∀ Q : List V → Hp → Prop, (∀ B vs, R A B → DpAll K (own G A B) vs ds → pre (own G A B) vs ds → Q vs B) → ta σ A Q) (z : er ds = none) :
    EvS R K (tCallSD (spY K C pre er F) [] (WE W) ta) σ G (· = F ds) := fun A hA Q q => by
  refine h A hA _ fun B vs r p hp => ?_
  show spY K C pre er F (vs ++ []) B _ _
  rw [List.append_nil]
  exact ⟨own G A B, ds, own_same, p, hp, fun _ v D rD pd => q v _ D (Rl.trans r (Rl.ext rD)) rfl (dp_up (up_in (R := R) r) _ _ pd), fun w a e => by rw [z] at e; cases e⟩
theorem own_up (hA : R G A) {B : Hp} (r : R A B) : ∀ a o, Stay o → G a = some o → own G A B a = some o := up_base hA r
/-- f(feed, ..), f a def that draws -/
theorem e_callFZ {pre : List PyData → Prop} {Z : List PyData → ZP} {ds : List PyData} {E : XK} (h : σ[i]? = some (some (.ref f))) (F : FdG K f L ns G) (ha : EvA (RF f L) K ta σ G (· = ds)) (k : pre ds) (hm : ∀ X Y v, (∀ a o, Stay o → X a = some o → Y a = some o) → Z ds X v → Z ds Y v) :
    EvZ (RF f L) (tCall (spFZ K pre Z) [] E (tCons (tVar i) ta)) σ G (Z ds) := fun A hA Q q =>
  ⟨.ref f, h, ha A hA _ fun vs es B r s p => by
    subst s
    show spFZ K pre Z (.ref f :: (vs ++ [])) B Q E
    rw [List.append_nil]
    exact ⟨f, L, ns, own G A B, vs, es, rfl, own_same, F.own hA r, p, k, fun v D rD z => q v D (Rl.trans r rD) (hm _ _ v (up_in (R := RF f L) r) z)⟩⟩
/-- a plain tuple, lengthened -/
theorem z_catF {xs ys : List PyData} (h1 : EvZ R te σ G (fun X v => PlainD K X v xs)) (h2 : EvZ R tx σ G (fun X v => PlainD K X v ys)) (hz : xs.length + ys.length ≤ 100000) : EvZ R (tOp (rCatF K) te tx) σ G (fun X v => PlainD K X v (xs ++ ys)) := fun A hA Q q =>
  h1 A hA _ fun v1 B1 r1 z1 => h2 B1 (Rl.trans hA r1) _ fun v2 B2 r2 z2 => by
    have z1 : PlainD K (own G A B2) v1 xs := z1.up (up_next (R := R) r2)
    have z2 : PlainD K (own G A B2) v2 ys := z2.up (up_back (R := R) r1)
    have r12 : R A B2 := Rl.trans r1 r2
    have z1' := z1
    have z2' := z2
    obtain ⟨a, o, us, rfl, ha, hd, pa⟩ := z1
    obtain ⟨b, o2, ws, rfl, hb, hd2, pb⟩ := z2
    refine ⟨a, b, us, ws, rfl, rfl, .inl (.inr ⟨o, (own_some ha).1⟩), .inl (.inr ⟨o2, (own_some hb).1⟩), Nat.le_trans (by rw [dpa_len pa, dpa_len pb]; exact hz) (by decide), fun e => ?_, fun e => ?_, fun _ _ p o3 np ho => ?_⟩
    · subst e
      cases pa
      exact q _ B2 r12 z2'
    · subst e
      cases pb
      rw [List.append_nil] at q
      exact q _ B2 r12 z1'
    · exact q (.ref p) _ (Rl.new r12 (Rl.dom r12 np)) ⟨p, o3, us ++ ws, rfl, own_at (R := R) r12 np, ho, dpa_up (up_new (R := R) r12 np) _ _ (dpa_app pa pb)⟩
theorem z_varP {v : V} {ds : List PyData} (h : σ[i]? = some (some v)) (p : PlainD K G v ds) : EvZ R (tVar i) σ G (fun X v => PlainD K X v ds) := fun A hA Q q => ⟨v, h, q v A (Rl.refl A) (p.up (up_base hA (Rl.refl A)))⟩
theorem z_tupFP {ds : List PyData} (h : EvA R K ta σ G (· = ds)) (hz : ds.length ≤ 100000) : EvZ R (tTupF ta) σ G (fun X v => PlainD K X v ds) := fun A hA Q q =>
  z_tupD h (fun es e => by rw [e]; exact hz) A hA Q fun v B r ⟨es, e, p⟩ => q v B r (e ▸ p)
theorem ws_setZ {Z : ZP} (W : Wk R G0 H0 Ds A) (h : EvZ R te σ (gr G0 H0 Ds A) Z) (hm : ∀ X Y v, (∀ a o, X a = some o → Y a = some o) → Z X v → Z Y v) (k : ∀ v B, Wk R G0 H0 Ds B → R A B → Z (gr G0 H0 Ds B) v → tw Dd (σ.set i (some v)) B) : tSeq (tAsg te (gName i)) tw Dd σ A := w_evZ W h hm k
theorem ws_setP {xs : List PyData} (W : Wk R G0 H0 Ds A) (h : EvZ R te σ (gr G0 H0 Ds A) (fun X v => PlainD K X v xs)) (k : ∀ v B, Wk R G0 H0 Ds B → R A B → PlainD K (gr G0 H0 Ds B) v xs → tw Dd (σ.set i (some v)) B) : tSeq (tAsg te (gName i)) tw Dd σ A := w_evZ W h (fun X Y v up z => z.upA up) k
/-- a, b = a pair -/
theorem ws_asgD {d1 d2 : PyData} (W : Wk R G0 H0 Ds A) (h : EvS R K te σ (gr G0 H0 Ds A) (· = .tuple [d1, d2]))
    (k : ∀ v1 v2 B, Wk R G0 H0 Ds B → R A B → Dp K (gr G0 H0 Ds B) v1 d1 → Dp K (gr G0 H0 Ds B) v2 d2 → tw Dd ((σ.set i (some v1)).set j (some v2)) B) :
    tSeq (tAsg te (gTup K 2 (gCons (gName i) (gCons (gName j) gNil)))) tw Dd σ A :=
  w_ev W h fun v d B WB r e p => by
    subst e
    cases p with
    | @tup a xs _ hs ha =>
      cases ha with
      | @cons v1 _ _ _ p1 ha =>
      cases ha with
      | @cons v2 _ _ _ p2 ha =>
      cases ha
      exact ⟨a, [v1, v2], rfl, sqt_up (fun b o _ e => gr_same b o e) hs, rfl, v1, [v2], rfl, v2, [], rfl, rfl, k v1 v2 B WB r p1 p2⟩
theorem ws_ifF {t : TT} {tu : TS} (W : Wk R G0 H0 Ds A) (h : EvT R t σ (gr G0 H0 Ds A) (· = false)) (k : ∀ B, Wk R G0 H0 Ds B → R A B → tw Dd σ B) : tSeq (tIfS t tu tNext) tw Dd σ A := w_evT W h fun b B WB r e => by
  subst e
  exact k B WB r
theorem ws_setS {S : PyData → Prop} (W : Wk (RL f L) G0 H0 Ds A) (h : EvS Same K te σ (gr G0 H0 Ds A) S) (k : ∀ v d B, Wk (RL f L) G0 H0 Ds B → Same A B → S d → Dp K (gr G0 H0 Ds B) v d → tw Dd (σ.set i (some v)) B) : tSeq (tAsg te (gName i)) tw Dd σ A := w_evS W h k
/-- [heard(lambda: ..)] -/
theorem ws_told0 {X : Cx} {T : List (Addr × Str)} {D : LamDat} {k : Nat} {d : PyData} (W : Wk (RL f L) G0 H0 Ds A) (tb : LamX.Tabs T A) (ok : LamOk X k D) (hh : ∀ B, Wk (RL f L) G0 H0 Ds B → RL f L A B → Hears K C (fun E H' Q' => D.t E σ H' Q') (gr G0 H0 Ds B) d)
    (k' : ∀ p B, Wk (RL f L) G0 H0 (p :: Ds) B → RL f L (gr G0 H0 Ds A) (gr G0 H0 (p :: Ds) B) → LamX.Tabs T B → Lst K G0 H0 (p :: Ds) B p [d] → tw Dd (σ.set i (some (.ref p))) B) :
    tSeq (tAsg (tLst (tCons (tHeard X C k (tMk X T D)) tNil)) (gName i)) tw Dd σ A :=
  w_heard (Q := fun v B => ([v] : List V).length ≤ sizeLine ∧ ∀ p, B p = none → tw Dd (σ.set i (some (.ref p))) (upd B p (.lst [v]))) W tb ok hh fun v B WB r t pd => ⟨(show 1 ≤ sizeLine by decide), fun p np =>
    k' p _ (WB.new np) (by rw [gr_new np]; exact gr_r W r) (t.ext fun b o e => by rw [upd_ne (ne_of_none e np)]; exact e) (Lst.born (.cons pd .nil) np)⟩
/-- x.append(heard(lambda: ..)) -/
theorem ws_told {X : Cx} {T : List (Addr × Str)} {D : LamDat} {k : Nat} {d : PyData} {P : Addr} {ds : List PyData} (W : Wk (RL f L) G0 H0 Ds A) (tb : LamX.Tabs T A) (hi : σ[i]? = some (some (.ref P))) (m : P ∈ Ds) (l : Lst K G0 H0 Ds A P ds) (hz : ds.length ≤ 20) (ok : LamOk X k D)
    (hh : ∀ B, Wk (RL f L) G0 H0 Ds B → RL f L A B → Hears K C (fun E H' Q' => D.t E σ H' Q') (gr G0 H0 Ds B) d)
    (k' : ∀ B, Wk (RL f L) G0 H0 Ds B → RL f L (gr G0 H0 Ds A) (gr G0 H0 Ds B) → LamX.Tabs T B → Lst K G0 H0 Ds B P (ds ++ [d]) → tw Dd σ B) :
    tSeq (tDrop (tBM K "list" rAppend (tVar i) (tCons (tHeard X C k (tMk X T D)) tNil))) tw Dd σ A := by
  obtain ⟨xs, e, p⟩ := id l
  refine ⟨.ref P, hi, .inl ⟨rfl, xs, SqL.of e⟩, w_heard W tb ok hh fun v B WB r t pd => ?_⟩
  have e2 : B P = some (.lst xs) := r.st _ _ e trivial
  refine ⟨P, xs, v, rfl, rfl, e2, Nat.lt_of_lt_of_le (by rw [dpa_len p]; exact Nat.lt_of_le_of_lt hz (by decide : 20 < 100000)) (by decide), ?_⟩
  exact k' _ (WB.upd m) (by rw [gr_upd m]; exact gr_r W r) (tabs_upd t e2) (Lst.mk (dpa_app (dpa_up (gr_next r) _ _ p) (.cons pd .nil)) m)
/-- l.index(x) -/
theorem e_index {d z : PyData} {ds : List PyData} {n : Nat} (h1 : EvS R K te σ G (· = .list ds)) (h2 : EvS R K tx σ G (· = d)) (hl : SeqAt.shaped (.list ds) = true) (hd : SeqAt.shaped d = true) (hz : ds[n]? = some z) (he : PyData.eqv z d = true)
    (hn : ∀ (m : Nat) (z' : PyData), m < n → ds[m]? = some z' → PyData.eqv z' d = false) : EvS R K (tBM K "list" (rIndexD K) te (tCons tx tNil)) σ G (· = .int (n : Int)) := fun A hA Q q =>
  h1 A hA _ fun v d1 B r e p => by
    subst e
    cases p with
    | @lst a xs _ hs ha =>
      refine ⟨.inl ⟨rfl, xs, sql_up up_sub hs⟩, h2 B (Rl.trans hA r) _ fun y d2 B2 r2 e2 py => ?_⟩
      subst e2
      exact ⟨a, y, d2, ds, n, z, rfl, rfl, dp_up (fun b o t e => Rl.stay r2 t ((own_some e).1)) _ _ (.lst hs ha), dp_up up_sub _ _ py, hl, hd, hz, he, hn, q _ _ B2 (Rl.trans r r2) rfl (.int _)⟩
end
theorem un65 {k : Nat} {A : Around} (r : Room k A) : A.units + 65 < cLine := by have := r.un; omega
/-! ### _law_long_right -/
section
variable {P : Program} {w : World} {K : PySem.W.Frag} {mg : Str → Option Value} {base : Heap} {C fI cc SE c1 P1 c2 P2 : Addr}
theorem sc_long_right : FnScope ["_law_feed_here", "_law_page", "_law_names", "_law_kinds", "_law_path", "_law_far", "_law_late", "_law_more", "_law_last", "_law_olds", "_law_r", "_law_told", "_law_due", "_law_one"] ["_law_feed_here", "_law_page", "_law_names", "_law_kinds", "_law_path"] (defScope s__law_long_right) := ⟨rfl, rfl, rfl, by decide +kernel, rfl, by decide +kernel, by decide +kernel⟩
abbrev XL (P : Program) (w : World) (K : PySem.W.Frag) (mg : Str → Option Value) (base : Heap) (f : Addr) (cdv : Value) (A : Around) (outer : List Env) (s : Shared) (H : Hp) (E : XK) : Cx := cxOf CX0 P w K mg base ["_law_feed_here", "_law_page", "_law_names", "_law_kinds", "_law_path", "_law_far", "_law_late", "_law_more", "_law_last", "_law_olds", "_law_r", "_law_told", "_law_due", "_law_one"] "_law_long_right" (defScope s__law_long_right) f cdv A outer s H E
abbrev ll6 (K : PySem.W.Frag) (C : Addr) : LamDat := lamJ s__law_long_right 6 (tG K C (tCons (tVar 6) (tCons (tVar 7) tNil)))
theorem la6 {f : Addr} {cdv : Value} {A : Around} {outer : List Env} {s : Shared} {H : Hp} {E : XK} (T : Tt P K mg base C fI cc SE c1 P1 c2 P2) : LamOk (XL P w K mg base f cdv A outer s H E) 8 (ll6 K C) := by
  refine ⟨LamX.lamS_by (by show LamX.lamSB (defScope s__law_long_right) (lamC s__law_long_right 6) = true; decide +kernel), by rfl, fun q cl pm cv ctv => by rfl, fun A2 o2 s2 H2 E2 f2 c2 hr => ?_⟩
  exact pe_x (X := LamX.lamCx (XL P w K mg base f cdv A outer s H E) A2 o2 s2 H2 E2 (lamC s__law_long_right 6) f2 c2) (W := fun c d _ H => E2 c d H) (cx_grown T.q.t.z) hr (by decide) (takes_of rfl rfl rfl rfl) rfl (pa_cons (pv 6) (pa_cons (pv 7) pa_nil))
abbrev ll7 (K : PySem.W.Frag) (C : Addr) : LamDat := lamJ s__law_long_right 7 (tM K C (tCons (tVar 6) (tCons (tVar 7) (tCons (tOp (rI0 fun i j => .int (i - j)) (tCB (rLenD K) (tCons (tVar 6) tNil)) (tC (.int 1))) tNil))))
theorem la7 {f : Addr} {cdv : Value} {A : Around} {outer : List Env} {s : Shared} {H : Hp} {E : XK} (T : Tt P K mg base C fI cc SE c1 P1 c2 P2) : LamOk (XL P w K mg base f cdv A outer s H E) 8 (ll7 K C) := by
  refine ⟨LamX.lamS_by (by show LamX.lamSB (defScope s__law_long_right) (lamC s__law_long_right 7) = true; decide +kernel), by rfl, fun q cl pm cv ctv => by rfl, fun A2 o2 s2 H2 E2 f2 c2 hr => ?_⟩
  exact pe_x (X := LamX.lamCx (XL P w K mg base f cdv A outer s H E) A2 o2 s2 H2 E2 (lamC s__law_long_right 7) f2 c2) (W := fun c d _ H => E2 c d H) (cx_moved T.q.t.z) hr (by decide) (takes_of rfl rfl rfl rfl) rfl (pa_cons (pv 6) (pa_cons (pv 7) (pa_cons (pe_op op_sub (pe_callB (x := "len") call_len rfl T.q.t.z.y.x.n_len PySem.boot_len (pa_cons (pv 6) pa_nil)) pe_int) pa_nil)))
abbrev ll8 (K : PySem.W.Frag) (C : Addr) : LamDat := lamJ s__law_long_right 8 (tO K C (tCons (tVar 6) (tCons (tVar 7) (tCons (tVar 10) tNil))))
theorem la8 {f : Addr} {cdv : Value} {A : Around} {outer : List Env} {s : Shared} {H : Hp} {E : XK} (T : Tt P K mg base C fI cc SE c1 P1 c2 P2) : LamOk (XL P w K mg base f cdv A outer s H E) 8 (ll8 K C) := by
  refine ⟨LamX.lamS_by (by show LamX.lamSB (defScope s__law_long_right) (lamC s__law_long_right 8) = true; decide +kernel), by rfl, fun q cl pm cv ctv => by rfl, fun A2 o2 s2 H2 E2 f2 c2 hr => ?_⟩
  exact pe_x (X := LamX.lamCx (XL P w K mg base f cdv A outer s H E) A2 o2 s2 H2 E2 (lamC s__law_long_right 8) f2 c2) (W := fun c d _ H => E2 c d H) (cx_old_row T.q.t.z) hr (by decide) (takes_of rfl rfl rfl rfl) rfl (pa_cons (pv 6) (pa_cons (pv 7) (pa_cons (pv 10) pa_nil)))
/-- a good text and a good way -/
structure TWF (es : List PyData) (ms : List (Int × List PyData)) : Prop where
  t0 : erText [.tuple es] = none
  f0 : Fine (.tuple es)
  w2 : erWay [.tuple es, .tuple (ms.map entD)] = none
  f2 : Fine (.tuple (ms.map entD))
  en : ∀ d ∈ ms.map entD, EntOk d
  sm : SmallW es ((ms.map entD).map entM)
  nd : (ms.map (·.1)).Nodup
  n1 : es.length ≤ 4000
  n2 : (grownL es ms).length ≤ 90000
theorem TWF.tw {K : PySem.W.Frag} {es : List PyData} {ms : List (Int × List PyData)} (F : TWF es ms) {G : Hp} {v : V} (p : PlainD K G v (ms.map entD)) : preTW K G v (.tuple es) (.tuple (ms.map entD)) := ⟨F.f0, F.f2, fun es' e _ hk => by cases e; exact ⟨_, rfl, p, F.en, F.sm⟩⟩
def moreL (es : List PyData) (ms : List (Int × List PyData)) : List (Int × List PyData) := ms ++ [((es.length : Int), [.tuple [.str "end"], .tuple [.str "stop"]])]
def toldD (d : PyData) : PyData := .tuple [.str "told", d]
structure LongF (es fl : List PyData) (fs ms : List (Int × List PyData)) (j : Nat) : Prop where
  a : TWF es fs
  e : fl = grownL es fs
  b : TWF fl (moreL fl ms)
  sh1 : ShOk (.tuple fl)
  pos : 0 < fl.length
  row : erRow [.tuple fl, .int ((fl.length : Int) - 1)] = none
  lat : laterN (moreL fl ms) ((fl.length : Int) - 1) = j
  osh : SeqAt.shaped (.list (oldsL fl.length (moreL fl ms))) = true
  ix : (oldsL fl.length (moreL fl ms))[j]? = some (.int ((fl.length : Int) - 1))
  no : ∀ (m : Nat) (z' : PyData), m < j → (oldsL fl.length (moreL fl ms))[m]? = some z' → PyData.eqv z' (.int ((fl.length : Int) - 1)) = false
  lpos : 0 < (grownL fl (moreL fl ms)).length
  old : ∀ r : Nat, r < (grownL fl (moreL fl ms)).length → erRow [.tuple (grownL fl (moreL fl ms)), .int r] = none ∧ (oldsL fl.length (moreL fl ms))[r]? = some (oldD [.tuple fl, .tuple ((moreL fl ms).map entD), .int r])
  sh2 : ∀ r : Nat, r < (grownL fl (moreL fl ms)).length → ShOk (.list [toldD (.tuple (grownL fl (moreL fl ms))), toldD (.int j), toldD (oldD [.tuple fl, .tuple ((moreL fl ms).map entD), .int r])])
structure LongZ (K : PySem.W.Frag) (G : Hp) (v7 v8 v9 v10 v11 : V) (fl : List PyData) (mo : List (Int × List PyData)) (r : Nat) : Prop where
  p7 : Dp K G v7 (.tuple fl)
  pm : PlainD K G v8 (mo.map entD)
  p9 : Dp K G v9 (.tuple (grownL fl mo))
  p10 : Dp K G v10 (.list (oldsL fl.length mo))
  p11 : Dp K G v11 (.int r)
theorem LongZ.up {K : PySem.W.Frag} {G G' : Hp} {v7 v8 v9 v10 v11 : V} {fl : List PyData} {mo : List (Int × List PyData)} {r : Nat} (z : LongZ K G v7 v8 v9 v10 v11 fl mo r) (u : ∀ a o, Stay o → G a = some o → G' a = some o) : LongZ K G' v7 v8 v9 v10 v11 fl mo r :=
  ⟨dp_up u _ _ z.p7, z.pm.up u, dp_up u _ _ z.p9, dp_up u _ _ z.p10, dp_up u _ _ z.p11⟩
section
variable {G : Hp} {v7 v8 v9 v10 v11 : V} {es fl : List PyData} {fs ms : List (Int × List PyData)} {j r : Nat} {s0 s1 s2 s3 s4 s5 s11 s12 s13 : Option V}
abbrev sil (s0 s1 s2 s3 s4 s5 : Option V) (v7 v8 v9 v10 v11 : V) (s11 s12 s13 : Option V) : L2.St := [s0, s1, s2, s3, s4, s5, some v7, some v8, some v9, some v10, some v11, s11, s12, s13]
theorem hl6 (F : LongF es fl fs ms j) (Z : LongZ K G v7 v8 v9 v10 v11 fl (moreL fl ms) r) : Hears K C (fun E H' Q' => (ll6 K C).t E (sil s0 s1 s2 s3 s4 s5 v7 v8 v9 v10 v11 s11 s12 s13) H' Q') G (toldD (.tuple (grownL fl (moreL fl ms)))) :=
  hears_to (hears (K := K) (C := C) (σ := sil s0 s1 s2 s3 s4 s5 v7 v8 v9 v10 v11 s11 s12 s13) (ta := (tCons (tVar 6) (tCons (tVar 7) tNil))) (pre := preG2 K) (er := erGrown) (F := grownD) (ds := [.tuple fl, .tuple ((moreL fl ms).map entD)]) fun H hH Q q => ⟨v7, rfl, v8, rfl, by
    have Z2 := Z.up (own_gr hH (Same.refl H))
    exact q H _ (Same.refl H) (.cons Z2.p7 (.cons Z2.pm.dp .nil)) ⟨v7, v8, _, _, rfl, rfl, F.b.tw Z2.pm⟩⟩) (by
    show heardD (erTW (.tuple fl) (.tuple ((moreL fl ms).map entD)) none) (.tuple (grownL fl (((moreL fl ms).map entD).map entM))) = _
    unfold erTW
    rw [F.b.t0, F.b.w2, ent_m]
    rfl)
theorem hl7 (F : LongF es fl fs ms j) (Z : LongZ K G v7 v8 v9 v10 v11 fl (moreL fl ms) r) : Hears K C (fun E H' Q' => (ll7 K C).t E (sil s0 s1 s2 s3 s4 s5 v7 v8 v9 v10 v11 s11 s12 s13) H' Q') G (toldD (.int j)) :=
  hears_to (hears (K := K) (C := C) (σ := sil s0 s1 s2 s3 s4 s5 v7 v8 v9 v10 v11 s11 s12 s13) (ta := (tCons (tVar 6) (tCons (tVar 7) (tCons (tOp (rI0 fun i j => .int (i - j)) (tCB (rLenD K) (tCons (tVar 6) tNil)) (tC (.int 1))) tNil)))) (pre := preG3 K) (er := erMoved) (F := movedD) (ds := [.tuple fl, .tuple ((moreL fl ms).map entD), .int ((fl.length : Int) - 1)]) fun H hH Q q => ⟨v7, rfl, v8, rfl, e_op1 (R := Same) (K := K) (σ := sil s0 s1 s2 s3 s4 s5 v7 v8 v9 v10 v11 s11 s12 s13) (e_len (e_var (i := 6) rfl Z.p7) (.inl ⟨fl, rfl, rfl⟩)) e_int (rs_I0 (e := .int ((fl.length : Int) - 1)) fun X => .int _) H hH _ fun v d' B r e p => by
    subst e
    cases p
    have Z2 := Z.up (own_gr hH r)
    exact q B _ r (.cons Z2.p7 (.cons Z2.pm.dp (.cons (.int _) .nil))) ⟨v7, v8, _, _, _, _, rfl, rfl, F.b.tw Z2.pm⟩⟩) (by
    show heardD (erTW (.tuple fl) (.tuple ((moreL fl ms).map entD)) (erRow [.tuple fl, .int ((fl.length : Int) - 1)])) (.int (laterN (((moreL fl ms).map entD).map entM) ((fl.length : Int) - 1))) = _
    unfold erTW
    rw [F.b.t0, F.b.w2, F.row, ent_m, F.lat]
    rfl)
theorem hl8 (F : LongF es fl fs ms j) (hr : r < (grownL fl (moreL fl ms)).length) (Z : LongZ K G v7 v8 v9 v10 v11 fl (moreL fl ms) r) : Hears K C (fun E H' Q' => (ll8 K C).t E (sil s0 s1 s2 s3 s4 s5 v7 v8 v9 v10 v11 s11 s12 s13) H' Q') G (toldD (oldD [.tuple fl, .tuple ((moreL fl ms).map entD), .int r])) :=
  hears_to (hears (K := K) (C := C) (σ := sil s0 s1 s2 s3 s4 s5 v7 v8 v9 v10 v11 s11 s12 s13) (ta := (tCons (tVar 6) (tCons (tVar 7) (tCons (tVar 10) tNil)))) (pre := preG3 K) (er := erOld) (F := oldD) (ds := [.tuple fl, .tuple ((moreL fl ms).map entD), .int r]) fun H hH Q q => ⟨v7, rfl, v8, rfl, v11, rfl, by
    have Z2 := Z.up (own_gr hH (Same.refl H))
    exact q H _ (Same.refl H) (.cons Z2.p7 (.cons Z2.pm.dp (.cons Z2.p11 .nil))) ⟨v7, v8, v11, _, _, _, rfl, rfl, F.b.tw Z2.pm⟩⟩) (by
    have e : grownD [.tuple fl, .tuple ((moreL fl ms).map entD)] = .tuple (grownL fl (moreL fl ms)) := by
      show PyData.tuple (grownL fl (((moreL fl ms).map entD).map entM)) = _
      rw [ent_m]
    show heardD (erTW (.tuple fl) (.tuple ((moreL fl ms).map entD)) (erRow [grownD [.tuple fl, .tuple ((moreL fl ms).map entD)], .int r])) _ = _
    unfold erTW
    rw [F.b.t0, F.b.w2, e, (F.old r hr).1]
    rfl)
end
def spLong (K : PySem.W.Frag) (T : List (Addr × Str)) : Sp := fun vs H Q _ => ∃ (f L : Addr) (ns : List Int) (G : Hp) (v2 v3 v4 v5 : V) (es : List PyData) (n k : Str × Str) (ms : List (Int × List PyData)), vs = [.ref f, v2, v3, v4, v5] ∧ Same G H ∧ FdG K f L ns G ∧ Dp K G v2 (.tuple es) ∧ Dp K G v3 (pair2 n) ∧ Dp K G v4 (pair2 k) ∧ PlainD K G v5 (ms.map entD) ∧
  PageOk es ∧ es.length < 20 ∧ n ∈ NP ∧ k ∈ KP ∧ WayG es.length (58 - es.length) ms ∧ (∀ g rs, WayG es.length 69 [(g, rs)] → ∃ j, LongF es (grownL es [(g, rs)]) [(g, rs)] ms j) ∧ LamX.Tabs T H ∧ ∀ B, RL f L H B → LamX.Tabs T B → Q (.bl true) B
theorem cl_long_right (T : Tt P K mg base C fI cc SE c1 P1 c2 P2) : ClG P w K mg base 11 "_law_long_right" (spLong K (tabsL P1 P2)) := by
  refine clt_of (ps := ["_law_feed_here", "_law_page", "_law_names", "_law_kinds", "_law_path"]) T.q.t.d_long_right (fun _ _ _ _ _ _ us hl => match us, hl with | [_, _, _, _, _], _ => rfl) sc_long_right (fun vs H Q E ⟨f, L, ns, G, v2, v3, v4, v5, es, n, k, ms, e, _⟩ => by rw [e]; rfl) fun g cdv A0 outer s H vs Q E hcd hgd hr h => ?_
  have LT : LamT (XL P w K mg base g cdv A0 outer s H E) (tabsL P1 P2) c1 P1 := ⟨T.b1, hcd _ T.l1, List.mem_cons_self .., fun p hp e => by
    rcases List.mem_cons.1 hp with rfl | hp
    · rfl
    · rw [List.mem_singleton.1 hp] at e
      exact absurd e.symm T.ne⟩
  refine ⟨_, (pss_cons (ps_set (i := 5) sc_long_right.nd rfl (by first | exact Or.inl rfl | exact Or.inr rfl) (pe_k (cl_long T.q.t) hr (by decide) rfl (pa_cons (pv 0) (pa_cons (pv 1) (pa_cons (pv 2) (pa_cons (pv 3) pa_nil)))))) (pss_cons (ps_set (i := 6) sc_long_right.nd rfl (by first | exact Or.inl rfl | exact Or.inr rfl) (pe_x (W := fun _ _ _ _ => False) (cx_grown T.q.t.z) hr (by decide) LamX.takes0 rfl (pa_cons (pv 1) (pa_cons (pv 5) pa_nil)))) (pss_cons (ps_if (pt_not (pt_val (pe_kg (cl_same T.q.t) hgd hr (by decide) rfl (pa_cons (pv 6) (pa_cons (pe_ix ix_tup (pe_k (cl_lgrown T.q.t) hr (by decide) rfl (pa_cons (pv 1) (pa_cons (pv 5) pa_nil))) pe_int (fun _ _ => rfl)) pa_nil))))) (pss_one (ps_ret pe_bl)) pss_nil) (pss_cons (ps_set (i := 7) sc_long_right.nd rfl (by first | exact Or.inl rfl | exact Or.inr rfl) (pe_op op_catF (pv 4) (pe_tupF (pa_cons (pe_tup (pa_cons (pe_callB call_len rfl T.q.t.z.y.x.n_len PySem.boot_len (pa_cons (pv 6) pa_nil)) (pa_cons (pe_tup (pa_cons (pe_tup (pa_cons pe_str pa_nil)) (pa_cons (pe_tup (pa_cons pe_str pa_nil)) pa_nil))) pa_nil))) pa_nil)))) (pss_cons (ps_asg (pe_k (cl_lgrown T.q.t) hr (by decide) rfl (pa_cons (pv 6) (pa_cons (pv 7) pa_nil))) (pg_tup rfl (pgs_cons (pg_name (i := 8) sc_long_right.nd rfl (by first | exact Or.inl rfl | exact Or.inr rfl)) (pgs_cons (pg_name (i := 9) sc_long_right.nd rfl (by first | exact Or.inl rfl | exact Or.inr rfl)) pgs_nil)))) (pss_cons (ps_set (i := 10) sc_long_right.nd rfl (by first | exact Or.inl rfl | exact Or.inr rfl) (pe_k (cl_draw T.q.t) hr (by decide) rfl (pa_cons (pv 0) (pa_cons (pe_callB call_len rfl T.q.t.z.y.x.n_len PySem.boot_len (pa_cons (pv 8) pa_nil)) pa_nil)))) (pss_cons (ps_set (i := 11) sc_long_right.nd rfl (by first | exact Or.inl rfl | exact Or.inr rfl) (pe_lst (pa_cons (pe_heard (k := 8) T.q (pe_lam (k := 8) LT (la6 T)) hr rfl) pa_nil))) (pss_cons (ps_expr (pe_bm PySem.F.plainAttrs_list PySem.F.slot_list_append PySem.F.type_list_append mt_append (pv 11) (pa_cons (pe_heard (k := 8) T.q (pe_lam (k := 8) LT (la7 T)) hr rfl) pa_nil))) (pss_cons (ps_expr (pe_bm PySem.F.plainAttrs_list PySem.F.slot_list_append PySem.F.type_list_append mt_append (pv 11) (pa_cons (pe_heard (k := 8) T.q (pe_lam (k := 8) LT (la8 T)) hr rfl) pa_nil))) (pss_cons (ps_set (i := 12) sc_long_right.nd rfl (by first | exact Or.inl rfl | exact Or.inr rfl) (pe_lst (pa_cons (pv 8) (pa_cons (pe_bm PySem.F.plainAttrs_list PySem.F.slot_list_index PySem.F.type_list_index (mt_indexD (un65 hr)) (pv 9) (pa_cons (pe_op op_sub (pe_callB call_len rfl T.q.t.z.y.x.n_len PySem.boot_len (pa_cons (pv 6) pa_nil)) pe_int) pa_nil)) (pa_cons (pe_ix ix_list (pv 9) (pv 10) (fun _ _ => rfl)) pa_nil))))) (pss_one (ps_ret (pe_kg (cl_same T.q.t) hgd hr (by decide) rfl (pa_cons (pv 11) (pa_cons (pe_lc (own := [("_law_one", 13)]) rfl sc_long_right.nd (pi_list (pv 12)) (blkOk_by (N := ["_law_feed_here", "_law_page", "_law_names", "_law_kinds", "_law_path", "_law_far", "_law_late", "_law_more", "_law_last", "_law_olds", "_law_r", "_law_told", "_law_due", "_law_one"]) (sc := defScope s__law_long_right) (by decide +kernel)) (fun _ _ _ _ _ => (pg_name (i := 13) sc_long_right.nd rfl (by first | exact Or.inl rfl | exact Or.inr rfl))) (fun _ _ _ _ _ => pts_nil) (fun _ _ _ _ _ => (pe_tup (pa_cons pe_str (pa_cons (pv 13) pa_nil))))) pa_nil))))))))))))))), ?_⟩
  obtain ⟨f, L, ns, G, v2, v3, v4, v5, es, n, k, ms, rfl, sm, F, p2, p3, p4, pw, hpg, hes, hn, hk, hw, lfa, tb, q⟩ := h
  have W0 := Wk.start (R := RF f L) (Rl.ext sm)
  have u0 : ∀ {v d}, Dp K G v d → Dp K (gr G H [] H) v d := fun h => dp_up (gr_base W0) _ _ h
  have zup : ∀ X Y v, (∀ a o, Stay o → X a = some o → Y a = some o) → zLong K [.tuple es, pair2 n, pair2 k] X v → zLong K [.tuple es, pair2 n, pair2 k] Y v := fun X Y v up z es' he => by
    obtain ⟨g, rs, p, w⟩ := z es' he
    exact ⟨g, rs, p.up up, w⟩
  refine ws_setZ W0 (e_callFZ (Z := zLong K) (ds := [.tuple es, pair2 n, pair2 k]) rfl (F.gr W0) (a_one (e_var (i := 1) rfl (u0 p2)) (a_one (e_var (i := 2) rfl (u0 p3)) (a_one (e_var (i := 3) rfl (u0 p4)) a_nil))) ⟨es, n, k, rfl, hn, hk, hpg.n⟩ zup) (fun X Y v up z => zup X Y v (fun a o _ e => up a o e) z) fun v6 A1 W1 r1 z1 => ?_
  obtain ⟨gg, rs, pf, hf⟩ := z1 es rfl
  obtain ⟨j, LF⟩ := lfa gg rs hf
  obtain ⟨fl, efl⟩ : ∃ fl, fl = grownL es [(gg, rs)] := ⟨_, rfl⟩
  rw [← efl] at LF
  have q2 := dp_up (gr_next r1) _ _ (u0 p2)
  have qw : PlainD K (gr G H [] A1) v5 (ms.map entD) := pw.up fun a o t e => gr_next (R := RF f L) r1 a o t (gr_base W0 a o t e)
  clear zup z1
  refine ws_set (K := K) W1 (S := (· = .tuple fl)) (EvS.to (e_callY (ds := [.tuple es, .tuple ([(gg, rs)].map entD)]) (fun A hA Q q => ⟨v2, rfl, v6, rfl, q A _ (Rl.refl A) (.cons (dp_up (up_base hA (Rl.refl A)) _ _ q2) (.cons (pf.up (up_base hA (Rl.refl A))).dp .nil)) ⟨v2, v6, _, _, rfl, rfl, LF.a.tw (pf.up (up_base hA (Rl.refl A)))⟩⟩) (by show erTW _ _ none = none; unfold erTW; rw [LF.a.t0, LF.a.w2]; rfl)) (by show PyData.tuple (grownL es (([(gg, rs)].map entD).map entM)) = _; rw [ent_m, efl])) fun v7 d7 A2 W2 r2 e7 p7 => ?_
  subst e7
  have q22 := dp_up (gr_next r2) _ _ q2
  have pf2 := pf.up (gr_next r2)
  have qw2 := qw.up (gr_next r2)
  refine ws_ifF W2 (t_not (t_B (e_same (e_var (i := 6) rfl p7) (e_op1 (e_callD (F := grownF) (ds := [.tuple es, .tuple ([(gg, rs)].map entD)]) (a_one (e_var (i := 1) rfl q22) (a_one (e_var (i := 5) rfl pf2.dp) a_nil)) ⟨es, _, rfl, LF.a.nd, LF.a.n1, LF.a.n2⟩) e_int (rs_ixT (d := .tuple fl) (by show atI [PyData.tuple (grownL es (([(gg, rs)].map entD).map entM)), _] 0 = _; rw [ent_m, ← efl]; rfl))) LF.sh1))) fun A3 W3 r3 => ?_
  have p73 := dp_up (gr_next r3) _ _ p7
  have qw3 := qw2.up (gr_next r3)
  have emo : (moreL fl ms).map entD = ms.map entD ++ [entD ((fl.length : Int), [.tuple [.str "end"], .tuple [.str "stop"]])] := List.map_append ..
  have lms : ms.length ≤ 4000 := by
    have := LF.b.f2.tup.1
    rw [List.length_map, moreL, List.length_append] at this
    omega
  refine ws_setP (xs := (moreL fl ms).map entD) W3 (by
    rw [emo]
    exact z_catF (z_varP (i := 4) rfl qw3) (z_tupFP (a_one (e_tup1 (a_one (e_len (e_var (i := 6) rfl p73) (.inl ⟨fl, rfl, rfl⟩)) (a_one (e_tup1 (a_one (e_tup1 (a_one e_str a_nil) (by decide)) (a_one (e_tup1 (a_one e_str a_nil) (by decide)) a_nil)) (by show 2 ≤ 100000; decide)) a_nil)) (by show 2 ≤ 100000; decide)) a_nil) (by show 1 ≤ 100000; decide)) (by rw [List.length_map]; show _ + 1 ≤ _; omega)) fun v8 A4 W4 r4 pm => ?_
  have p74 := dp_up (gr_next r4) _ _ p73
  refine ws_asgD (d1 := .tuple (grownL fl (moreL fl ms))) (d2 := .list (oldsL fl.length (moreL fl ms))) W4 (EvS.to (e_callD (F := grownF) (ds := [.tuple fl, .tuple ((moreL fl ms).map entD)]) (a_one (e_var (i := 6) rfl p74) (a_one (e_var (i := 7) rfl pm.dp) a_nil)) ⟨fl, _, rfl, LF.b.nd, LF.b.n1, LF.b.n2⟩) (by show PyData.tuple [.tuple (grownL fl (((moreL fl ms).map entD).map entM)), .list (oldsL fl.length (((moreL fl ms).map entD).map entM))] = _; rw [ent_m])) fun v9 v10 A5 W5 r5 p9 p10 => ?_
  have p75 := dp_up (gr_next r5) _ _ p74
  have pm5 := pm.up (gr_next r5)
  refine ws_set (K := K) W5 (S := fun d => ∃ k : Nat, d = .int k ∧ (k : Int) < ((grownL fl (moreL fl ms)).length : Int)) (e_draw rfl (F.gr W5) (e_len (e_var (i := 8) rfl p9) (.inl ⟨_, rfl, rfl⟩)) (Int.ofNat_lt.2 LF.lpos) (by have := LF.b.n2; omega)) fun v11 d11 A6 W6 r6 ⟨r, e11, hrr⟩ p11 => ?_
  subst e11
  have hrr : r < (grownL fl (moreL fl ms)).length := Int.ofNat_lt.1 hrr
  have W7 : Wk (RL f L) G H [] A6 := ⟨W6.g.rl, W6.r.rl, W6.d⟩
  have t7 : LamX.Tabs (tabsL P1 P2) A6 := W6.r.tabs tb
  have Z7 : LongZ K (gr G H [] A6) v7 v8 v9 v10 v11 fl (moreL fl ms) r := ⟨dp_up (gr_next r6) _ _ p75, pm5.up (gr_next r6), dp_up (gr_next r6) _ _ p9, dp_up (gr_next r6) _ _ p10, p11⟩
  clear p11 p10 p9 pm5 p75
  refine ws_told0 (K := K) (X := XL P w K mg base g cdv A0 outer s H E) (D := ll6 K C) (i := 11) W7 t7 (la6 T) (fun B WB r' => hl6 LF (Z7.up (gr_next r'))) fun p A8 W8 r8 t8 l8 => ?_
  have Z8 := Z7.up fun a o t z => Rl.stay r8 t z
  refine ws_told (K := K) (X := XL P w K mg base g cdv A0 outer s H E) (D := ll7 K C) (i := 11) (P := p) W8 t8 rfl (List.mem_cons_self ..) l8 (by show 1 ≤ 20; decide) (la7 T) (fun B WB r' => hl7 LF (Z8.up (gr_next r'))) fun A9 W9 r9 t9 l9 => ?_
  have Z9 := Z8.up fun a o t z => Rl.stay r9 t z
  refine ws_told (K := K) (X := XL P w K mg base g cdv A0 outer s H E) (D := ll8 K C) (i := 11) (P := p) W9 t9 rfl (List.mem_cons_self ..) l9 (by show 2 ≤ 20; decide) (la8 T) (fun B WB r' => hl8 LF hrr (Z9.up (gr_next r'))) fun A10 W10 r10 t10 l10 => ?_
  have Z10 := Z9.up fun a o t z => Rl.stay r10 t z
  refine ws_setS W10 (e_lst1 (a_one (e_var (i := 8) rfl Z10.p9) (a_one (e_index (e_var (i := 9) rfl Z10.p10) (e_op1 (e_len (e_var (i := 6) rfl Z10.p7) (.inl ⟨fl, rfl, rfl⟩)) e_int (rs_I0 (e := .int ((fl.length : Int) - 1)) fun X => .int _)) LF.osh (sh_int _) LF.ix (by rw [eqv_int]; exact beq_self_eq_true _) LF.no) (a_one (e_op1 (e_var (i := 9) rfl Z10.p10) (e_var (i := 10) rfl Z10.p11) (rs_ixL (atI_nat (LF.old r hrr).2))) a_nil))) (by show 3 ≤ 100000; decide)) fun v12 d12 A11 W11 r11 e12 p12 => ?_
  subst e12
  have l11 := l10.next (R := RL f L) (Rl.ext r11)
  have t11 : LamX.Tabs (tabsL P1 P2) A11 := t10.ext fun b o e => r11 b o e
  refine w_evS (Q := Q) W11.free (e_same (e_var (i := 11) rfl (l11.free W11 (List.mem_cons_self ..))) (EvS.to (e_lcMap (n := 3) (fun i => toldD (([.tuple (grownL fl (moreL fl ms)), .int j, oldD [.tuple fl, .tuple ((moreL fl ms).map entD), .int r]] : List PyData).getD i .none)) (it_list (e_var (i := 12) rfl (dp_up gr_free _ _ p12))) (by decide) fun i d x G' hG sd px => ⟨_, b_name (j := 13), rfl, EvS.to (e_tup1 (a_one e_str (a_one (e_var (i := 13) rfl px) a_nil)) (by show 2 ≤ 100000; decide)) (by rw [getD_of sd]; rfl)⟩) rfl) (LF.sh2 r hrr)) fun v d B WB r12 e p => ?_
  subst e
  cases p
  exact q B WB.r (t11.ext fun b o e => r12 b o e)
end
end K25
end
section
set_option maxRecDepth 100000
set_option maxHeartbeats 4000000
namespace K25
open PySem PySem.Spec PyProof.Rows L2
/-! ### calls by keywords only -/
theorem vals_at {zs : List V} {ws : List Value} (r : Vals zs ws) : ∀ i, RelV (zs.getD i .non) (ws.getD i .none) := by
  induction r with
  | nil => exact fun i => rfl
  | cons h _ ih =>
    intro i
    cases i with
    | zero => exact h
    | succ i => exact ih i
theorem vals_pick {zs : List V} {ws : List Value} (r : Vals zs ws) : ∀ is : List Nat, Vals (is.map fun i => zs.getD i .non) (is.map fun i => ws.getD i .none)
  | [] => .nil
  | i :: is => .cons (vals_at r i) (vals_pick r is)
structure Kw1 (P : Program) (w : World) (K : PySem.W.Frag) (mg : Str → Option Value) (base : Heap) (k : Nat) (x : Str) (ks : List Str) (gV : List V → List V) (sp : Sp) : Prop where
  ex : ∃ f fd ps g, FnOk P w K mg base (L2.CX P w) k f fd ps sp ∧ mg x = some (.ref f) ∧ PySem.W.keepIn K (.ref f) = true ∧ KBn K fd ps 0 ks g (fun _ zs => gV zs)
def tKw (m : Nat) (sp : Sp) (gV : List V → List V) (tk : TA) : TE := fun σ H Q => tk σ H fun zs H2 => zs.length = m ∧ sp (gV zs) H2 Q fun _ _ _ => False
section
variable {X : Cx} {x : Str} {j k : Nat} {sp : Sp} {p pos : Pos} {ks : List Str} {kws : List Keyword} {gV : List V → List V} {tk : TA}
theorem pe_kw (c : Kw1 X.prog X.w X.K X.mg X.base k x ks gV sp) (hr : Room j X.A) (hk : k ≤ j) (hg : Gl X x) (hkw : PK X kws tk) (hall : (backToKw pos (keywordEach kws X.env)).all (·.1.isSome) = true := by rfl) (hks : (backToKw pos (keywordEach kws X.env)).filterMap (·.1) = ks := by rfl)
    (hdb : (x == ("__debug__" : Str)) = false := by decide) (hpl : ((backTo pos (starEach [] X.env)).any (·.1) || (backToKw pos (keywordEach kws X.env)).any (·.1.isNone)) = false := by rfl) :
    PE X (.Call (.Name x p) [] kws pos) (tKw ks.length sp gV tk) := by
  obtain ⟨f, fd, ps, g, F, hm, kp, hb⟩ := c.ex
  refine ⟨fun pins s σ H Q I h => ?_⟩
  refine wpAny_Call_Name_kw (ld_glob I hg hm ?_ hdb)
  refine PySem.W.callWith_KW0 (h₀ := X.base) (first := []) I.ok.mod.kin kp hall (thn (hkw.run pos pins s σ H _ I h) fun ws s2 hh => ?_) hpl
  obtain ⟨zs, H2, I2, rz, l2, q2⟩ := hh
  refine ⟨I2.kIn, ?_⟩
  rw [hks]
  exact run_fnN (us := []) (vs := []) (E := fun _ _ _ => False) F (hr.mono hk) hb (passes_call LamX.takes0 fun _ _ _ _ h => h) I2 .nil rz rfl l2 q2
end
section
variable {P : Program} {w : World} {K : PySem.W.Frag} {mg : Str → Option Value} {base : Heap} {C fI cc SE c1 P1 c2 P2 : Addr}
theorem kw_of {x : Str} {st : Stmt} {f : Addr} {fd : FuncData} {ps ks : List Str} {is : List Nat} (F : Fun K x x st f fd) (hl : ∀ ws : List Value, ws.length = ks.length → ∀ (kV doc pm : Value) (an : Option Addr) (cdv ct : Value), bindArgs (PySem.W.fnOf x x (defArgs st) (defBody st) (defScope st) .none kV doc pm an cdv ct) ⟨[], ks.zip ws⟩ = pure (ps.zip (is.map fun i => ws.getD i .none))) :
    KBn K fd ps 0 ks (fun _ ws => is.map fun i => ws.getD i .none) (fun _ zs => is.map fun i => zs.getD i .non) := by
  obtain ⟨oc, od, kV, doc, pm, an, cdv, ct, osl, rfl, lk, hcd⟩ := F.ex
  refine ⟨fun s us ws _ h0 h1 => ?_, fun r rz => ?_⟩
  · match us, h0 with
    | [], _ => exact BindsTo.of_eq (hl ws h1 ..)
  · exact vals_pick rz is
theorem kw_grown (T : Tz P K mg C fI cc) : Kw1 P w K mg base 8 "grown" ["way", "text"] (fun zs => ([1, 0] : List Nat).map fun i => zs.getD i .non) (spY K C (preG2 K) erGrown grownD) := by
  obtain ⟨f, fd, ok, F, hm⟩ := ok_grown (w := w) (base := base) T
  exact ⟨f, fd, _, _, ok, hm, F.kp, kw_of F fun ws hl _ _ _ _ _ _ => match ws, hl with | [_, _], _ => rfl⟩
theorem kw_moved (T : Tz P K mg C fI cc) : Kw1 P w K mg base 8 "moved" ["way", "row", "text"] (fun zs => ([2, 0, 1] : List Nat).map fun i => zs.getD i .non) (spY K C (preG3 K) erMoved movedD) := by
  obtain ⟨f, fd, ok, F, hm⟩ := ok_moved (w := w) (base := base) T
  exact ⟨f, fd, _, _, ok, hm, F.kp, kw_of F fun ws hl _ _ _ _ _ _ => match ws, hl with | [_, _, _], _ => rfl⟩
theorem kw_old_row (T : Tz P K mg C fI cc) : Kw1 P w K mg base 8 "old_row" ["row", "text", "way"] (fun zs => ([1, 2, 0] : List Nat).map fun i => zs.getD i .non) (spY K C (preG3 K) erOld oldD) := by
  obtain ⟨f, fd, ok, F, hm⟩ := ok_old_row (w := w) (base := base) T
  exact ⟨f, fd, _, _, ok, hm, F.kp, kw_of F fun ws hl _ _ _ _ _ _ => match ws, hl with | [_, _, _], _ => rfl⟩
theorem sc_law : FnScope ["_law_script", "_law_feed_here", "_law_page", "_law_names", "_law_kinds", "_law_path", "_law_late", "_law_olds", "_law_r"] ["_law_script"] (defScope s_law) := ⟨rfl, rfl, rfl, by decide +kernel, rfl, by decide +kernel, by decide +kernel⟩
section
variable {R : Hp → Hp → Prop} [Rl R] {σ : L2.St} {G G0 H0 A : Hp} {Ds : List Addr} {te : TE} {tk : TA} {tw : TS} {Dd : Ends} {i j l : Nat} {f L : Addr} {ns : List Int}
theorem e_callKw {pre : Hp → List V → List PyData → Prop} {er : List PyData → ErD} {F : List PyData → PyData} {ds : List PyData} {m : Nat} {gV : List V → List V}
    (h : ∀ A, R G A → ∀ Q : List V → Hp → Prop, (∀ B zs, R A B → zs.length = m → DpAll K (own G A B) (gV zs) ds → pre (own G A B) (gV zs) ds → Q zs B) → tk σ A Q) (z : er ds = none) :
    EvS R K (tKw m (spY K C pre er F) gV tk) σ G (· = F ds) := fun A hA Q q =>
  h A hA _ fun B zs r hl p hp => ⟨hl, own G A B, ds, own_same, p, hp, fun _ v D rD pd => q v _ D (Rl.trans r (Rl.ext rD)) rfl (dp_up (up_in (R := R) r) _ _ pd), fun w a e => by rw [z] at e; cases e⟩
theorem e_listRg {n : Nat} (h : EvS R K te σ G (· = .int n)) (hn : n ≤ 100000) : EvS R K (tLstRg (tRg1 te)) σ G (· = .list ((List.range n).map fun i => .int (i : Nat))) := fun A hA Q q =>
  h A hA _ fun v d B r e p => by
    subst e
    cases p
    refine ⟨n, rfl, RgOk.of_le (by omega) (by omega) (by omega) (by omega), fun t nt => q (.ref t) _ _ (Rl.new r (Rl.dom r nt)) rfl (.lst (.inl (.inl (own_at (R := R) r nt))) ?_)⟩
    have e : rgV 0 (n : Int) = (List.range n).map fun i => V.int (i : Nat) := by
      unfold rgV
      rw [show ((n : Int) - 0).toNat = n by omega]
      exact List.map_congr_left fun i _ => by rw [Int.zero_add]
    rw [e]
    have all : ∀ l : List Nat, DpAll K (own G A (upd B t (.lst ((List.range n).map fun i => V.int (i : Nat))))) (l.map fun i => V.int (i : Nat)) (l.map fun i => .int (i : Nat)) := fun l => by
      induction l with
      | nil => exact .nil
      | cons a l ih => exact .cons (.int _) ih
    exact all _
/-- a, b, c = a triple -/
theorem ws_asgT {S : PyData → PyData → PyData → Prop} (W : Wk R G0 H0 Ds A) (h : EvS R K te σ (gr G0 H0 Ds A) (fun d => ∃ d1 d2 d3, d = .tuple [d1, d2, d3] ∧ S d1 d2 d3))
    (k : ∀ v1 v2 v3 d1 d2 d3 B, Wk R G0 H0 Ds B → R A B → S d1 d2 d3 → Dp K (gr G0 H0 Ds B) v1 d1 → Dp K (gr G0 H0 Ds B) v2 d2 → Dp K (gr G0 H0 Ds B) v3 d3 → tw Dd (((σ.set i (some v1)).set j (some v2)).set l (some v3)) B) :
    tSeq (tAsg te (gTup K 3 (gCons (gName i) (gCons (gName j) (gCons (gName l) gNil))))) tw Dd σ A :=
  w_ev W h fun v d B WB r ⟨d1, d2, d3, e, s⟩ p => by
    subst e
    cases p with
    | @tup a xs _ hs ha =>
      cases ha with
      | @cons v1 _ _ _ p1 ha =>
      cases ha with
      | @cons v2 _ _ _ p2 ha =>
      cases ha with
      | @cons v3 _ _ _ p3 ha =>
      cases ha
      exact ⟨a, [v1, v2, v3], rfl, sqt_up (fun b o _ e => gr_same b o e) hs, rfl, v1, [v2, v3], rfl, v2, [v3], rfl, v3, [], rfl, rfl, k v1 v2 v3 d1 d2 d3 B WB r s p1 p2 p3⟩
end
theorem FdG.rl {K : PySem.W.Frag} {f L : Addr} {ns : List Int} {G A : Hp} (h : FdG K f L ns G) (r : RL f L G A) : FdG K f L ns A := by
  obtain ⟨o, h1, h2⟩ := h.f
  exact ⟨r.fd o h1 h2, sql_up (fun a o t e => r.st a o e t) h.l, h.n⟩
/-- the facts of the page and the way -/
structure LawF (es : List PyData) (ms : List (Int × List PyData)) : Prop where
  a : TWF es ms
  z : TWF es []
  g0 : grownL es [] = es
  shL : ShOk (.tuple (grownL es ms))
  shP : ShOk (.tuple es)
  osh : SeqAt.shaped (.list (oldsL es.length ms)) = true
  mv : ∀ i : Nat, i < es.length → erRow [.tuple es, .int i] = none ∧ ∃ j : Nat, laterN ms i = j ∧ (oldsL es.length ms)[j]? = some (.int i) ∧ (∀ (m : Nat) (z' : PyData), m < j → (oldsL es.length ms)[m]? = some z' → PyData.eqv z' (.int i) = false) ∧ ShOk (.int j)
  od : ∀ r : Nat, r < (grownL es ms).length → erRow [.tuple (grownL es ms), .int r] = none ∧ (oldsL es.length ms)[r]? = some (oldD [.tuple es, .tuple (ms.map entD), .int r]) ∧ ShOk (oldD [.tuple es, .tuple (ms.map entD), .int r])
  sz : (grownL es ms).length = es.length + sizeW ms
  lf : es.length < 20 → ∀ g rs, WayG es.length 69 [(g, rs)] → ∃ j, LongF es (grownL es [(g, rs)]) [(g, rs)] ms j
  rf : ∀ t s d odd, .tuple [t, .int s] ∈ badT es → d ∈ badW es.length → odd ∈ oddsL → RefF es ms t s d odd
structure LawZ (K : PySem.W.Frag) (G : Hp) (v2 v3 v4 v5 : V) (es : List PyData) (n k : Str × Str) (ms : List (Int × List PyData)) : Prop where
  p2 : Dp K G v2 (.tuple es)
  p3 : Dp K G v3 (pair2 n)
  p4 : Dp K G v4 (pair2 k)
  pw : PlainD K G v5 (ms.map entD)
theorem LawZ.up {G G' : Hp} {v2 v3 v4 v5 : V} {es : List PyData} {n k : Str × Str} {ms : List (Int × List PyData)} (z : LawZ K G v2 v3 v4 v5 es n k ms) (u : ∀ a o, Stay o → G a = some o → G' a = some o) : LawZ K G' v2 v3 v4 v5 es n k ms :=
  ⟨dp_up u _ _ z.p2, dp_up u _ _ z.p3, dp_up u _ _ z.p4, z.pw.up u⟩
def spLaw (K : PySem.W.Frag) (T : List (Addr × Str)) : Sp := fun vs H Q _ => ∃ (a : Addr) (ns : List Int), vs = [.ref a] ∧ SqL K H a (ns.map V.int) ∧ ns.length ≤ 63 ∧ LamX.Tabs T H ∧ ∀ B, Q (.bl true) B
theorem cl_law (T : Tt P K mg base C fI cc SE c1 P1 c2 P2) (D : DefAt K mg "law" s_law) (LF : ∀ es ms, PageOk es → WayG es.length (58 - es.length) ms → LawF es ms) : ClG P w K mg base 12 "law" (spLaw K (tabsL P1 P2)) := by
  refine clg_of (ps := ["_law_script"]) D (fun _ _ _ _ _ _ us hl => match us, hl with | [_], _ => rfl) sc_law (fun vs H Q E ⟨a, ns, e, _⟩ => by rw [e]; rfl) fun g cdv A0 outer s H vs Q E _ _ hgd hr h => ?_
  refine ⟨_, (pss_cons (ps_set (i := 1) sc_law.nd rfl (by first | exact Or.inl rfl | exact Or.inr rfl) (pe_k (cl_feed T.q.t) hr (by decide) rfl (pa_cons (pv 0) pa_nil))) (pss_cons (ps_asg (pe_k (cl_text T.q.t) hr (by decide) rfl (pa_cons (pv 1) pa_nil)) (pg_tup rfl (pgs_cons (pg_name (i := 2) sc_law.nd rfl (by first | exact Or.inl rfl | exact Or.inr rfl)) (pgs_cons (pg_name (i := 3) sc_law.nd rfl (by first | exact Or.inl rfl | exact Or.inr rfl)) (pgs_cons (pg_name (i := 4) sc_law.nd rfl (by first | exact Or.inl rfl | exact Or.inr rfl)) pgs_nil))))) (pss_cons (ps_set (i := 5) sc_law.nd rfl (by first | exact Or.inl rfl | exact Or.inr rfl) (pe_k (cl_way T.q.t) hr (by decide) rfl (pa_cons (pv 1) (pa_cons (pv 2) (pa_cons (pv 3) (pa_cons (pv 4) (pa_cons (pe_listRg rfl rfl T.q.t.n_list (prg_1 rfl T.q.t.z.n_range (pe_op op_add (pe_callB call_len rfl T.q.t.z.y.x.n_len PySem.boot_len (pa_cons (pv 2) pa_nil)) pe_int))) pa_nil))))))) (pss_cons (ps_asg (pe_k (cl_lgrown T.q.t) hr (by decide) rfl (pa_cons (pv 2) (pa_cons (pv 5) pa_nil))) (pg_tup rfl (pgs_cons (pg_name (i := 6) sc_law.nd rfl (by first | exact Or.inl rfl | exact Or.inr rfl)) (pgs_cons (pg_name (i := 7) sc_law.nd rfl (by first | exact Or.inl rfl | exact Or.inr rfl)) pgs_nil)))) (pss_cons (ps_if (PW.pt (pw_or (pt_not (pt_val (pe_kg (cl_same T.q.t) hgd hr (by decide) rfl (pa_cons (pe_kw (kw_grown T.q.t.z) hr (by decide) rfl (pk_cons (pv 5) (pk_cons (pv 2) pk_nil))) (pa_cons (pv 6) pa_nil))))) (pw_or1 (pt_not (pt_val (pe_kg (cl_same T.q.t) hgd hr (by decide) rfl (pa_cons (pe_x (W := fun _ _ _ _ => False) (cx_grown T.q.t.z) hr (by decide) LamX.takes0 rfl (pa_cons (pv 2) (pa_cons (pe_tupF pa_nil) pa_nil))) (pa_cons (pv 2) pa_nil)))))))) (pss_one (ps_ret pe_bl)) pss_nil) (pss_cons (ps_for (passes_of rfl) rfl (pi_range1 rfl T.q.t.z.n_range (pa_cons (pe_callB call_len rfl T.q.t.z.y.x.n_len PySem.boot_len (pa_cons (pv 2) pa_nil)) pa_nil)) (pg_name (i := 8) sc_law.nd rfl (by first | exact Or.inl rfl | exact Or.inr rfl)) (pss_one (ps_if (pt_not (pt_val (pe_kg (cl_same T.q.t) hgd hr (by decide) rfl (pa_cons (pe_kw (kw_moved T.q.t.z) hr (by decide) rfl (pk_cons (pv 5) (pk_cons (pv 8) (pk_cons (pv 2) pk_nil)))) (pa_cons (pe_bm PySem.F.plainAttrs_list PySem.F.slot_list_index PySem.F.type_list_index (mt_indexD (un65 hr)) (pv 7) (pa_cons (pv 8) pa_nil)) pa_nil))))) (pss_one (ps_ret pe_bl)) pss_nil))) (pss_cons (ps_for (passes_of rfl) rfl (pi_range1 rfl T.q.t.z.n_range (pa_cons (pe_callB call_len rfl T.q.t.z.y.x.n_len PySem.boot_len (pa_cons (pv 6) pa_nil)) pa_nil)) (pg_name (i := 8) sc_law.nd rfl (by first | exact Or.inl rfl | exact Or.inr rfl)) (pss_one (ps_if (pt_not (pt_val (pe_kg (cl_same T.q.t) hgd hr (by decide) rfl (pa_cons (pe_kw (kw_old_row T.q.t.z) hr (by decide) rfl (pk_cons (pv 8) (pk_cons (pv 2) (pk_cons (pv 5) pk_nil)))) (pa_cons (pe_ix ix_list (pv 7) (pv 8) (fun _ _ => rfl)) pa_nil))))) (pss_one (ps_ret pe_bl)) pss_nil))) (pss_cons (ps_if (PW.pt (pw_and (pt_cmpR op_lt (pe_callB call_len rfl T.q.t.z.y.x.n_len PySem.boot_len (pa_cons (pv 2) pa_nil)) pe_int (nomark _)) (pw_and1 (pt_not (pt_val (pe_kg (cl_long_right T) hgd hr (by decide) rfl (pa_cons (pv 1) (pa_cons (pv 2) (pa_cons (pv 3) (pa_cons (pv 4) (pa_cons (pv 5) pa_nil))))))))))) (pss_one (ps_ret pe_bl)) pss_nil) (pss_one (ps_ret (pe_kg (cl_refused T) hgd hr (by decide) rfl (pa_cons (pv 1) (pa_cons (pv 2) (pa_cons (pv 5) (pa_cons (pe_op op_sub (pe_callB call_len rfl T.q.t.z.y.x.n_len PySem.boot_len (pa_cons (pv 6) pa_nil)) (pe_callB call_len rfl T.q.t.z.y.x.n_len PySem.boot_len (pa_cons (pv 2) pa_nil))) pa_nil))))))))))))))), ?_⟩
  obtain ⟨a, ns, rfl, ha, hz, tb, q⟩ := h
  refine ⟨.ref a, rfl, a, ns, rfl, ha, hz, fun f L B0 rB nf F => ?_⟩
  have tb0 : LamX.Tabs (tabsL P1 P2) B0 := tb.ext fun b o e => rB b o e
  have W0 := Wk.start (R := RF f L) (Rl.refl B0)
  refine ws_asgT (K := K) W0 (S := fun d1 d2 d3 => ∃ (es : List PyData) (n k : Str × Str), d1 = .tuple es ∧ d2 = pair2 n ∧ d3 = pair2 k ∧ n ∈ NP ∧ k ∈ KP ∧ PageOk es) (EvS.imp (e_callF (S := sText) (Sl := fun ds => ds = []) rfl (F.gr W0) a_nil fun ds e => e) fun d ⟨ds, _, es, n, k, e, h1, h2, h3, h4⟩ => ⟨_, _, _, e, es, n, k, rfl, rfl, rfl, h1, h2, h3, h4⟩) fun v2 v3 v4 d2 d3 d4 A1 W1 r1 ⟨es, n, k, e2, e3, e4, hn, hk, hpg⟩ p2 p3 p4 => ?_
  subst e2 e3 e4
  refine ws_setZ W1 (e_callFZ (Z := zWay K) (ds := [.tuple es, pair2 n, pair2 k, .list ((List.range (es.length + 1)).map fun i => .int (i : Nat))]) rfl (F.gr W1) (a_one (e_var (i := 2) rfl p2) (a_one (e_var (i := 3) rfl p3) (a_one (e_var (i := 4) rfl p4) (a_one (e_listRg (n := es.length + 1) (e_op1 (e_len (e_var (i := 2) rfl p2) (.inl ⟨es, rfl, rfl⟩)) e_int (rs_I0 (e := .int ((es.length : Int) + 1)) fun X => .int _)) (by have := hpg.n; omega)) a_nil)))) ⟨es, n, k, rfl, hn, hk, hpg.n⟩ fun X Y v up z es' he => by
    obtain ⟨ms, p, w⟩ := z es' he
    exact ⟨ms, p.up up, w⟩) (fun X Y v up z es' he => by
    obtain ⟨ms, p, w⟩ := z es' he
    exact ⟨ms, p.up fun a o _ e => up a o e, w⟩) fun v5 A2 W2 r2 z5 => ?_
  obtain ⟨ms, pw, hw⟩ := z5 es rfl
  have X := LF es ms hpg hw
  have Z2 : LawZ K (gr B0 B0 [] A2) v2 v3 v4 v5 es n k ms := ⟨dp_up (gr_next r2) _ _ p2, dp_up (gr_next r2) _ _ p3, dp_up (gr_next r2) _ _ p4, pw⟩
  clear pw z5 p2 p3 p4
  refine ws_asgD (d1 := .tuple (grownL es ms)) (d2 := .list (oldsL es.length ms)) W2 (EvS.to (e_callD (F := grownF) (ds := [.tuple es, .tuple (ms.map entD)]) (a_one (e_var (i := 2) rfl Z2.p2) (a_one (e_var (i := 5) rfl Z2.pw.dp) a_nil)) ⟨es, _, rfl, X.a.nd, X.a.n1, X.a.n2⟩) (by show PyData.tuple [.tuple (grownL es ((ms.map entD).map entM)), .list (oldsL es.length ((ms.map entD).map entM))] = _; rw [ent_m])) fun v6 v7 A3 W3 r3 p6 p7 => ?_
  have Z3 := Z2.up (gr_next r3)
  have gD : grownD [.tuple es, .tuple (ms.map entD)] = .tuple (grownL es ms) := by
    show PyData.tuple (grownL es ((ms.map entD).map entM)) = _
    rw [ent_m]
  have erG : erGrown [.tuple es, .tuple (ms.map entD)] = none := by
    show erTW _ _ none = none
    unfold erTW
    rw [X.a.t0, X.a.w2]
    rfl
  refine ws_ifF W3 (EvT.imp (t_or (a := false) (t_not (t_B (e_same (d := .tuple (grownL es ms)) (EvS.to (e_callKw (ds := [.tuple es, .tuple (ms.map entD)]) (fun A hA Q q => ⟨v5, rfl, v2, rfl, q A _ (Rl.refl A) rfl (.cons (Z3.up (up_base hA (Rl.refl A))).p2 (.cons (Z3.up (up_base hA (Rl.refl A))).pw.dp .nil)) ⟨v2, v5, _, _, rfl, rfl, X.a.tw (Z3.up (up_base hA (Rl.refl A))).pw⟩⟩) erG) gD) (e_var (i := 6) rfl p6) X.shL))) fun _ => t_not (t_B (e_same (d := .tuple es) (EvS.to (e_callY (ds := [.tuple es, .tuple (([] : List (Int × List PyData)).map entD)]) (fun A hA Q q => ⟨v2, rfl, z_tupFP (R := RF f L) (G := gr B0 B0 [] A3) (ds := []) (a_nil (K := K)) (by decide) A hA _ fun v B r z => q B _ r (.cons (Z3.up (up_base hA r)).p2 (.cons z.dp .nil)) ⟨v2, v, _, _, rfl, rfl, X.z.tw z⟩⟩) (by show erTW _ _ none = none; unfold erTW; rw [X.z.t0, X.z.w2]; rfl)) (by show PyData.tuple (grownL es []) = _; rw [X.g0])) (e_var (i := 2) rfl Z3.p2) X.shP))) fun b e => by rw [e]; rfl) fun A4 W4 r4 => ?_
  have Z4 := Z3.up (gr_next r4)
  have p64 := dp_up (gr_next r4) _ _ p6
  have p74 := dp_up (gr_next r4) _ _ p7
  refine ws_for (K := K) W4 (Sn := (· = es.length)) (ig_range (EvS.imp (e_len (e_var (i := 2) rfl Z4.p2) (.inl ⟨es, rfl, rfl⟩)) fun d e => ⟨es.length, e, rfl⟩) fun n e => by have := hpg.n; omega)
    (fun _ _ σ' _ => ∃ z, σ' = [some (.ref a), some (.ref f), some v2, some v3, some v4, some v5, some v6, some v7, z]) (fun _ B _ _ _ => ⟨none, rfl⟩)
    (fun nn i d x σ' Y hnn hi WY rY ⟨z, e⟩ sd px N hN => ?_) fun nn σ' Y hnn WY rY ⟨z8, e⟩ => ?_
  · subst e hnn sd
    have ZY := Z4.up fun a o t z => Rl.stay rY t z
    have p7Y := dp_up (fun a o t z => Rl.stay rY t z) _ _ p74
    obtain ⟨er, j, hj, hx, hno, hs⟩ := X.mv i hi
    have erM : erMoved [.tuple es, .tuple (ms.map entD), .int (i : Nat)] = none := by
      show erTW _ _ (erRow [.tuple es, .int (i : Nat)]) = none
      unfold erTW
      rw [X.a.t0, X.a.w2, er]
      rfl
    refine w_evT WY (t_not (t_B (e_same (d := .int (j : Nat)) (EvS.to (e_callKw (ds := [.tuple es, .tuple (ms.map entD), .int (i : Nat)]) (fun A hA Q q => ⟨v5, rfl, x, rfl, v2, rfl, q A _ (Rl.refl A) rfl (.cons (ZY.up (up_base hA (Rl.refl A))).p2 (.cons (ZY.up (up_base hA (Rl.refl A))).pw.dp (.cons (dp_up (up_base hA (Rl.refl A)) _ _ px) .nil))) ⟨v2, v5, x, _, _, _, rfl, rfl, X.a.tw (ZY.up (up_base hA (Rl.refl A))).pw⟩⟩) erM) (by show PyData.int (laterN ((ms.map entD).map entM) i) = _; rw [ent_m, hj])) (e_index (e_var (i := 7) rfl p7Y) (e_var (i := 8) rfl px) X.osh (sh_int _) hx (by rw [eqv_int]; exact beq_self_eq_true _) hno) hs))) fun b B WB rB eb => ?_
    subst eb
    exact hN _ _ WB (gr_r WY rB) ⟨_, rfl⟩
  subst e
  have Z5 := Z4.up fun a o t z => Rl.stay rY t z
  have p65 := dp_up (fun a o t z => Rl.stay rY t z) _ _ p64
  have p75 := dp_up (fun a o t z => Rl.stay rY t z) _ _ p74
  refine ws_for (K := K) WY (Sn := (· = (grownL es ms).length)) (ig_range (EvS.imp (e_len (e_var (i := 6) rfl p65) (.inl ⟨_, rfl, rfl⟩)) fun d e => ⟨_, e, rfl⟩) fun n e => by have := X.a.n2; omega)
    (fun _ _ σ' _ => ∃ z, σ' = [some (.ref a), some (.ref f), some v2, some v3, some v4, some v5, some v6, some v7, z]) (fun _ B _ _ _ => ⟨z8, rfl⟩)
    (fun nn i d x σ' V hnn hi WV rV ⟨z, e⟩ sd px N hN => ?_) fun nn σ' V hnn WV rV ⟨z9, e⟩ => ?_
  · subst e hnn sd
    have ZV := Z5.up fun a o t z => Rl.stay rV t z
    have p7V := dp_up (fun a o t z => Rl.stay rV t z) _ _ p75
    obtain ⟨er, hx, hs⟩ := X.od i hi
    have erO : erOld [.tuple es, .tuple (ms.map entD), .int (i : Nat)] = none := by
      show erTW _ _ (erRow [grownD [.tuple es, .tuple (ms.map entD)], .int (i : Nat)]) = none
      unfold erTW
      rw [X.a.t0, X.a.w2, gD, er]
      rfl
    refine w_evT WV (t_not (t_B (e_same (e_callKw (ds := [.tuple es, .tuple (ms.map entD), .int (i : Nat)]) (fun A hA Q q => ⟨x, rfl, v2, rfl, v5, rfl, q A _ (Rl.refl A) rfl (.cons (ZV.up (up_base hA (Rl.refl A))).p2 (.cons (ZV.up (up_base hA (Rl.refl A))).pw.dp (.cons (dp_up (up_base hA (Rl.refl A)) _ _ px) .nil))) ⟨v2, v5, x, _, _, _, rfl, rfl, X.a.tw (ZV.up (up_base hA (Rl.refl A))).pw⟩⟩) erO) (e_op1 (e_var (i := 7) rfl p7V) (e_var (i := 8) rfl px) (rs_ixL (atI_nat hx))) hs))) fun b B WB rB eb => ?_
    subst eb
    exact hN _ _ WB (gr_r WV rB) ⟨_, rfl⟩
  subst e
  have Z6 : LawZ K V v2 v3 v4 v5 es n k ms := (Z5.up fun a o t z => Rl.stay rV t z).up fun b o _ e => gr_same b o e
  have p66 : Dp K V v6 (.tuple (grownL es ms)) := dp_up (fun b o _ e => gr_same b o e) _ _ (dp_up (fun a o t z => Rl.stay rV t z) _ _ p65)
  have t6 : LamX.Tabs (tabsL P1 P2) V := WV.r.tabs tb0
  have F6 : FdG K f L ns V := F.to WV.r
  clear Z5 p65 p75 Z4 p64 p74 p6 p7 Z3 Z2
  have esz : ((grownL es ms).length : Int) - es.length = sizeW ms := by
    rw [X.sz]
    omega
  have fin : ∀ B : Hp, RL f L V B → LamX.Tabs (tabsL P1 P2) B → tRet (tCall (spRef K (tabsL P1 P2)) [] E0 (tCons (tVar 1) (tCons (tVar 2) (tCons (tVar 5) (tCons (tOp (rI0 fun i j => .int (i - j)) (tCB (rLenD K) (tCons (tVar 6) tNil)) (tCB (rLenD K) (tCons (tVar 2) tNil))) tNil))))) { nx := fun _ H' => Q .non H', rt := Q } [some (.ref a), some (.ref f), some v2, some v3, some v4, some v5, some v6, some v7, z9] B := fun B r t => by
    have ZB := Z6.up fun a o t e => r.st a o e t
    have pB : Dp K B v6 (.tuple (grownL es ms)) := dp_up (fun a o t e => r.st a o e t) _ _ p66
    refine ⟨.ref f, rfl, v2, rfl, v5, rfl, e_op1 (R := Same) (K := K) (σ := [some (.ref a), some (.ref f), some v2, some v3, some v4, some v5, some v6, some v7, z9]) (e_len (e_var (i := 6) rfl pB) (.inl ⟨_, rfl, rfl⟩)) (e_len (e_var (i := 2) rfl ZB.p2) (.inl ⟨es, rfl, rfl⟩)) (rs_I0 (e := .int (((grownL es ms).length : Int) - es.length)) fun X => .int _) B (Same.refl B) _ fun v d B' rB' e p => ?_⟩
    subst e
    cases p
    have r2 : RL f L V B' := Rl.trans r (Rl.ext rB')
    have ZB' := Z6.up fun a o t e => r2.st a o e t
    refine ⟨f, L, ns, B', v2, v5, es, ms, by rw [esz]; rfl, Same.refl B', F6.rl r2, ZB'.p2, ZB'.pw, hpg, X.rf, t.ext fun b o e => rB' b o e, fun B2 => q B2⟩
  refine t_test (e_op1 (e_len (e_var (i := 2) rfl Z6.p2) (.inl ⟨es, rfl, rfl⟩)) e_int (rs_I0 (e := .bool (decide ((es.length : Int) < 20))) fun X => .bl _)) V (Same.refl V) _ fun b B rB eb => ?_
  subst eb
  have ZB := Z6.up fun a o _ e => rB a o e
  have tB' : LamX.Tabs (tabsL P1 P2) B := t6.ext fun b o e => rB b o e
  by_cases h20 : es.length < 20
  · rw [if_pos (by rw [decide_eq_true_eq]; omega)]
    refine ⟨.ref f, rfl, v2, rfl, v3, rfl, v4, rfl, v5, rfl, f, L, ns, B, v2, v3, v4, v5, es, n, k, ms, rfl, Same.refl B, F6.rl (Rl.ext rB), ZB.p2, ZB.p3, ZB.p4, ZB.pw, hpg, h20, hn, hk, hw, X.lf h20, tB', fun B2 r2 t2 => ⟨true, rfl, ?_⟩⟩
    exact fin B2 (Rl.trans (Rl.ext rB) r2) t2
  · rw [if_neg (by rw [decide_eq_true_eq]; omega)]
    exact fin B (Rl.ext rB) tB'
end
end K25
end
section
set_option maxRecDepth 100000
set_option maxHeartbeats 4000000
namespace K25
open PySem PySem.Spec PyProof.Rows L2
/-! ### plain: what raises -/
theorem from_none {f : Nat → ErD} : ∀ {m k : Nat}, (∀ i, i < m → f (k + i) = none) → erFrom f k m = none
  | 0, _, _ => rfl
  | m + 1, k, h => by
    show erOr (f k) (erFrom f (k + 1) m) = none
    rw [show f k = none from h 0 (Nat.succ_pos m), from_none (m := m) fun i hi => by
      have := h (i + 1) (by omega)
      rwa [show k + (i + 1) = k + 1 + i by omega] at this]
    rfl
theorem from_at {f : Nat → ErD} {x : PyData × PyData} : ∀ {n m k : Nat}, n < m → (∀ i, i < n → f (k + i) = none) → f (k + n) = some x → erFrom f k m = some x
  | 0, m + 1, k, _, _, h => by
    show erOr (f k) (erFrom f (k + 1) m) = some x
    rw [show f k = some x from h]
    rfl
  | n + 1, m + 1, k, hn, h0, h => by
    show erOr (f k) (erFrom f (k + 1) m) = some x
    rw [show f k = none from h0 0 (Nat.succ_pos n), from_at (n := n) (m := m) (k := k + 1) (by omega) (fun i hi => by
      have := h0 (i + 1) (by omega)
      rwa [show k + (i + 1) = k + 1 + i by omega] at this) (by rwa [show k + 1 + n = k + (n + 1) by omega])]
    rfl
theorem text_none {es : List PyData} (h : ∀ e ∈ es, isRowD e = true) : erText [.tuple es] = none := from_none fun i hi => by
  rw [Nat.zero_add]
  unfold rowEr
  rw [getD_of (List.getElem?_eq_getElem hi), h _ (List.getElem_mem hi)]
  rfl
theorem row_some {wd e : PyData} {ds : List PyData} {i : Nat} (h : ds[i]? = some e) (he : isRowD e = false) : rowEr wd ds i = some (wd, .int i) := by
  unfold rowEr
  rw [getD_of h, he]
  rfl
theorem row_none {wd e : PyData} {ds : List PyData} {i : Nat} (h : ds[i]? = some e) (he : isRowD e = true) : rowEr wd ds i = none := by
  unfold rowEr
  rw [getD_of h, he]
  rfl
theorem text_at {es fs : List PyData} {e : PyData} (h : ∀ e ∈ es, isRowD e = true) (he : isRowD e = false) : erText [.tuple (es ++ e :: fs)] = some (.str "text", .int es.length) := by
  refine from_at (n := es.length) (m := (es ++ e :: fs).length) (k := 0) (by rw [List.length_append, List.length_cons]; omega) (fun i hi => ?_) ?_
  · rw [Nat.zero_add]
    exact row_none (e := es[i]) (by rw [List.getElem?_append_left hi, List.getElem?_eq_getElem hi]) (h _ (List.getElem_mem hi))
  · rw [Nat.zero_add]
    exact row_some (e := e) (by rw [List.getElem?_append_right (Nat.le_refl _), Nat.sub_self]; rfl) he
theorem odd_row : ∀ e ∈ oddL, isRowD e = false ∧ fine 3 e = true := by
  have h : (oddL.all fun e => !isRowD e && fine 3 e) = true := by decide +kernel
  rw [List.all_eq_true] at h
  intro e he
  have := h e he
  rw [Bool.and_eq_true, Bool.not_eq_true'] at this
  exact this
theorem fine_tup {n : Nat} {ds : List PyData} (hn : n + 1 ≤ 40) (h : ∀ d ∈ ds, fine n d = true) (z : ds.length ≤ 4000) : Fine (.tuple ds) ∧ Fine (.list ds) := by
  have q : (decide (ds.length ≤ 4000) && ds.all (fine n)) = true := by
    rw [Bool.and_eq_true, decide_eq_true_eq, List.all_eq_true]
    exact ⟨z, h⟩
  exact ⟨⟨n + 1, hn, q⟩, ⟨n + 1, hn, q⟩⟩
theorem page_row {es : List PyData} (h : ∀ e ∈ es, rowOk e) : ∀ e ∈ es, isRowD e = true := fun e he => (rowOk_all (h e he)).1
theorem page_fine {es : List PyData} (h : ∀ e ∈ es, rowOk e) : ∀ e ∈ es, fine 3 e = true := fun e he => (rowOk_all (h e he)).2.1
theorem bad_text {es : List PyData} {t : PyData} {s : Int} (h : ∀ e ∈ es, rowOk e) (hz : es.length ≤ 3000) (hb : .tuple [t, .int s] ∈ badT es) : erText [t] = some (.str "text", .int s) ∧ Fine t := by
  rcases List.mem_append.1 hb with hb | hb
  · unfold found0 at hb
    simp only [List.mem_cons, List.not_mem_nil, or_false] at hb
    rcases hb with e | e | e | e | e | e
    · cases e; exact ⟨rfl, 0, by decide, rfl⟩
    · cases e; exact ⟨rfl, (fine_tup (n := 3) (by decide) (page_fine h) (by omega)).2⟩
    · cases e; exact ⟨rfl, 0, by decide, by decide +kernel⟩
    · cases e; exact ⟨rfl, 0, by decide, by decide +kernel⟩
    · cases e; exact ⟨rfl, 0, by decide, rfl⟩
    · cases e
      refine ⟨text_at (es := []) (e := .none) (fs := es) (fun e he => by cases he) rfl, (fine_tup (n := 3) (by decide) (fun d hd => ?_) (by rw [List.length_append]; show 1 + _ ≤ _; omega)).1⟩
      rcases List.mem_append.1 hd with hd | hd
      · rw [List.mem_singleton.1 hd]
        rfl
      · exact page_fine h d hd
  · obtain ⟨e, he, eq⟩ := List.mem_map.1 hb
    cases eq
    obtain ⟨h1, h2⟩ := odd_row e he
    refine ⟨text_at (page_row h) h1, (fine_tup (n := 3) (by decide) (fun d hd => ?_) (by rw [List.length_append]; show _ + 2 ≤ _; omega)).1⟩
    rcases List.mem_append.1 hd with hd | hd
    · exact page_fine h d hd
    · rcases List.mem_cons.1 hd with rfl | hd
      · exact h2
      · rw [List.mem_singleton.1 hd]
        rfl
end K25
end
section
set_option maxRecDepth 100000
set_option maxHeartbeats 4000000
namespace K25
open PySem PySem.Spec PyProof.Rows L2
/-! ### plain: rows put in -/
def lk (ms : List (Int × List PyData)) (g : Nat) : Nat := ((look ms g).getD []).length
def LL (ms : List (Int × List PyData)) (i : Nat) : Nat := ((List.range i).map (lk ms)).sum
theorem LL_succ {ms : List (Int × List PyData)} {i : Nat} : LL ms (i + 1) = LL ms i + lk ms i := by
  unfold LL
  rw [List.range_succ, List.map_append, List.sum_append]
  simp
theorem oldP_len {n i : Nat} {ms : List (Int × List PyData)} : (oldP n ms i).length = lk ms i + if i < n then 1 else 0 := by
  unfold oldP lk
  rw [List.length_append, List.length_replicate]
  split <;> rfl
theorem old_pre {n : Nat} {ms : List (Int × List PyData)} : ∀ i, i ≤ n → ((List.range i).flatMap (oldP n ms)).length = LL ms i + i
  | 0, _ => rfl
  | i + 1, h => by
    rw [flat_succ, List.length_append, old_pre i (by omega), oldP_len, if_pos (by omega), LL_succ]
    omega
theorem look_cons {m : Int × List PyData} {ms : List (Int × List PyData)} {g : Int} : look (m :: ms) g = if m.1 = g then some m.2 else look ms g := by
  unfold look
  rw [List.find?_cons]
  by_cases h : m.1 = g
  · rw [if_pos h]
    simp [h]
  · rw [if_neg h]
    simp [h]
theorem look_none {ms : List (Int × List PyData)} {g : Int} (h : g ∉ ms.map (·.1)) : look ms g = none := by
  unfold look
  rw [Option.map_eq_none_iff, List.find?_eq_none]
  intro m hm
  simp only [decide_eq_true_eq]
  exact fun e => h (e ▸ List.mem_map_of_mem hm)
theorem sum_pt {f h : Nat → Nat} {c k : Nat} (hf : ∀ g, h g = if g = k then c + f k else f g) : ∀ i, ((List.range i).map h).sum = ((List.range i).map f).sum + if k < i then c else 0
  | 0 => by simp
  | i + 1 => by
    rw [List.range_succ, List.map_append, List.map_append, List.sum_append, List.sum_append, sum_pt hf i]
    simp only [List.map_cons, List.map_nil, List.sum_cons, List.sum_nil, hf i]
    by_cases e : i = k
    · subst e
      rw [if_pos rfl, if_neg (Nat.lt_irrefl _), if_pos (Nat.lt_succ_self _)]
      omega
    · rw [if_neg e]
      by_cases l : k < i
      · rw [if_pos l, if_pos (by omega)]
        omega
      · rw [if_neg l, if_neg (by omega)]
        omega
theorem sum_zero : ∀ l : List Nat, (l.map fun _ => 0).sum = 0
  | [] => rfl
  | _ :: l => by rw [List.map_cons, List.sum_cons, sum_zero l]
theorem LL_le {i : Nat} : ∀ {ms : List (Int × List PyData)}, (ms.map (·.1)).Nodup → (∀ m ∈ ms, 0 ≤ m.1) → (LL ms (i + 1) : Int) = (addN ms i).sum
  | [], _, _ => by
    have : ∀ g, lk [] g = 0 := fun g => rfl
    unfold LL
    rw [show (List.map (lk []) (List.range (i + 1))) = (List.range (i + 1)).map fun _ => 0 from List.map_congr_left fun g _ => rfl, sum_zero]
    rfl
  | m :: ms, hn, h0 => by
    rw [List.map_cons, List.nodup_cons] at hn
    have ih := LL_le (i := i) (ms := ms) hn.2 fun x hx => h0 x (List.mem_cons_of_mem _ hx)
    have hm := h0 m (List.mem_cons_self ..)
    obtain ⟨k, hk⟩ : ∃ k : Nat, m.1 = k := ⟨m.1.toNat, by omega⟩
    have e : LL (m :: ms) (i + 1) = LL ms (i + 1) + if k < i + 1 then m.2.length else 0 := by
      refine sum_pt (f := lk ms) (h := lk (m :: ms)) (c := m.2.length) (k := k) (fun g => ?_) (i + 1)
      unfold lk
      rw [look_cons]
      by_cases eg : g = k
      · subst eg
        rw [if_pos hk, if_pos rfl, look_none (by rw [← hk]; exact hn.1)]
        rfl
      · rw [if_neg (by omega), if_neg eg]
    rw [e]
    unfold addN at ih ⊢
    rw [List.filter_cons]
    by_cases l : k < i + 1
    · rw [if_pos l, if_pos (by rw [decide_eq_true_eq]; omega), List.map_cons, List.sum_cons, ← ih]
      omega
    · rw [if_neg l, if_neg (by rw [decide_eq_true_eq]; omega), ← ih]
      omega
section
variable {n : Nat} {ms : List (Int × List PyData)} (hn : (ms.map (·.1)).Nodup) (h0 : ∀ m ∈ ms, 0 ≤ m.1)
include hn h0
theorem later_eq (i : Nat) : laterN ms i = ((i + LL ms (i + 1) : Nat) : Int) := by
  unfold laterN
  rw [← LL_le hn h0]
  omega
end
/-- .none, or an earlier row -/
def Bef (i : Nat) (d : PyData) : Prop := d = .none ∨ ∃ k : Nat, k < i ∧ d = .int k
def Aft (i : Nat) (d : PyData) : Prop := d = .none ∨ ∃ k : Nat, i < k ∧ d = .int k
theorem oldP_mem {n g : Nat} {ms : List (Int × List PyData)} {d : PyData} (h : d ∈ oldP n ms g) : d = .none ∨ (g < n ∧ d = .int g) := by
  unfold oldP at h
  rcases List.mem_append.1 h with h | h
  · exact .inl (List.eq_of_mem_replicate h)
  · by_cases hg : g < n
    · rw [if_pos hg] at h
      exact .inr ⟨hg, List.mem_singleton.1 h⟩
    · rw [if_neg hg] at h
      cases h
theorem olds_split {n i : Nat} {ms : List (Int × List PyData)} (hi : i < n) : ∃ A B, oldsL n ms = A ++ (List.replicate (lk ms i) .none ++ (.int (i : Nat) :: B)) ∧ A.length = LL ms i + i ∧ (∀ d ∈ A, Bef i d) ∧ ∀ d ∈ B, Aft i d := by
  refine ⟨(List.range i).flatMap (oldP n ms), ((List.range (n - i)).map fun g => i + 1 + g).flatMap (oldP n ms), ?_, old_pre i (by omega), fun d hd => ?_, fun d hd => ?_⟩
  · unfold oldsL
    rw [show n + 1 = i + 1 + (n - i) by omega, List.range_add, List.flatMap_append, flat_succ, List.append_assoc]
    congr 1
    rw [oldP, if_pos hi, List.append_assoc]
    rfl
  · obtain ⟨g, hg, hd⟩ := List.mem_flatMap.1 hd
    rcases oldP_mem hd with e | ⟨_, e⟩
    · exact .inl e
    · exact .inr ⟨g, List.mem_range.1 hg, e⟩
  · obtain ⟨g, hg, hd⟩ := List.mem_flatMap.1 hd
    obtain ⟨g', _, rfl⟩ := List.mem_map.1 hg
    rcases oldP_mem hd with e | ⟨_, e⟩
    · exact .inl e
    · exact .inr ⟨i + 1 + g', by omega, e⟩
theorem at_app {α : Type} {A B : List α} {j : Nat} (h : A.length ≤ j) : (A ++ B)[j]? = B[j - A.length]? := List.getElem?_append_right h
theorem olds_at {n i : Nat} {ms : List (Int × List PyData)} (hi : i < n) : (oldsL n ms)[i + LL ms (i + 1)]? = some (.int (i : Nat)) ∧ ∀ (m : Nat) (d : PyData), (oldsL n ms)[m]? = some d → d = .int (i : Nat) → m = i + LL ms (i + 1) := by
  obtain ⟨A, B, e, hl, hA, hB⟩ := olds_split (ms := ms) hi
  have hL := LL_succ (ms := ms) (i := i)
  rw [e]
  refine ⟨?_, fun m d hm hd => ?_⟩
  · rw [at_app (by omega), at_app (by rw [List.length_replicate]; omega), List.length_replicate, show i + LL ms (i + 1) - A.length - lk ms i = 0 by omega]
    rfl
  · subst hd
    by_cases h1 : m < A.length
    · rw [List.getElem?_append_left h1] at hm
      rcases hA _ (List.mem_of_getElem? hm) with z | ⟨k, hk, z⟩
      · cases z
      · cases z
        omega
    · rw [at_app (by omega)] at hm
      by_cases h2 : m - A.length < lk ms i
      · rw [List.getElem?_append_left (by rw [List.length_replicate]; exact h2)] at hm
        have := List.eq_of_mem_replicate (List.mem_of_getElem? hm)
        cases this
      · rw [at_app (by rw [List.length_replicate]; omega), List.length_replicate] at hm
        by_cases h3 : m - A.length - lk ms i = 0
        · omega
        · obtain ⟨t, ht⟩ : ∃ t, m - A.length - lk ms i = t + 1 := ⟨m - A.length - lk ms i - 1, by omega⟩
          rw [ht, List.getElem?_cons_succ] at hm
          rcases hB _ (List.mem_of_getElem? hm) with z | ⟨k, hk, z⟩
          · cases z
          · cases z
            omega
theorem olds_mem {n : Nat} {ms : List (Int × List PyData)} {d : PyData} (h : d ∈ oldsL n ms) : d = .none ∨ ∃ i : Nat, i < n ∧ d = .int i := by
  obtain ⟨g, _, hd⟩ := List.mem_flatMap.1 h
  rcases oldP_mem hd with e | ⟨hg, e⟩
  · exact .inl e
  · exact .inr ⟨g, hg, e⟩
end K25
end
section
set_option maxRecDepth 100000
set_option maxHeartbeats 4000000
namespace K25
open PySem PySem.Spec PyProof.Rows L2
/-! ### plain: the way of a page -/
theorem lastR_some {kf : Nat → Int} {k : Int} {i : Nat} : ∀ {n : Nat}, i < n → kf i = k → (∀ i', i' < n → kf i' = k → i' = i) → lastR kf n k = some i
  | n + 1, hi, hk, hu => by
    show (if k = kf n then some n else lastR kf n k) = some i
    by_cases h : k = kf n
    · rw [if_pos h, hu n (Nat.lt_succ_self _) h.symm]
    · rw [if_neg h]
      have ne : i ≠ n := fun e => h (by rw [← e, hk])
      exact lastR_some (by omega) hk fun i' h' => hu i' (by omega)
theorem lastR_none {kf : Nat → Int} {k : Int} : ∀ {n : Nat}, (∀ i, i < n → kf i ≠ k) → lastR kf n k = none
  | 0, _ => rfl
  | n + 1, h => by
    show (if k = kf n then some n else lastR kf n k) = none
    rw [if_neg fun e => h n (Nat.lt_succ_self _) e.symm]
    exact lastR_none fun i hi => h i (by omega)
theorem sum_mem {ms : List (Int × List PyData)} {m : Int × List PyData} (h : m ∈ ms) : m.2.length ≤ sizeW ms := by
  induction ms with
  | nil => cases h
  | cons a l ih =>
    have e : sizeW (a :: l) = a.2.length + sizeW l := by
      unfold sizeW
      rw [List.map_cons, List.sum_cons]
    rw [e]
    rcases List.mem_cons.1 h with rfl | h
    · omega
    · have := ih h
      omega
theorem sum_len {ms : List (Int × List PyData)} (h : ∀ m ∈ ms, m.2 ≠ []) : ms.length ≤ sizeW ms := by
  induction ms with
  | nil => exact Nat.zero_le _
  | cons a l ih =>
    have e : sizeW (a :: l) = a.2.length + sizeW l := by
      unfold sizeW
      rw [List.map_cons, List.sum_cons]
    have h1 := ih fun m hm => h m (List.mem_cons_of_mem _ hm)
    have h2 := List.length_pos_iff.2 (h a (List.mem_cons_self ..))
    rw [e, List.length_cons]
    omega
theorem grown_mem {es : List PyData} {ms : List (Int × List PyData)} {d : PyData} (h : d ∈ grownL es ms) : d ∈ es ∨ ∃ m ∈ ms, d ∈ m.2 := by
  obtain ⟨g, _, hd⟩ := List.mem_flatMap.1 h
  unfold partD at hd
  rcases List.mem_append.1 hd with hd | hd
  · unfold look at hd
    cases e : ms.find? (fun m => decide (m.1 = (g : Int))) with
    | none =>
      rw [e] at hd
      cases hd
    | some m =>
      rw [e] at hd
      exact .inr ⟨m, List.mem_of_find?_eq_some e, hd⟩
  · exact .inl (List.mem_of_mem_drop (List.mem_of_mem_take hd))
theorem take_flat {es : List PyData} : ∀ k, (List.range k).flatMap (fun g => (es.drop g).take 1) = es.take k
  | 0 => rfl
  | k + 1 => by
    have t : es.take (k + 1) = es.take k ++ es[k]?.toList := List.take_add_one
    rw [flat_succ, take_flat k, t]
    congr 1
    cases e : es[k]? with
    | none =>
      rw [List.getElem?_eq_none_iff] at e
      rw [List.drop_of_length_le e]
      rfl
    | some d =>
      obtain ⟨h, e⟩ := List.getElem?_eq_some_iff.1 e
      rw [List.drop_eq_getElem_cons h, e]
      rfl
theorem grown_nil {es : List PyData} : grownL es [] = es := by
  have : grownL es [] = (List.range (es.length + 1)).flatMap (fun g => (es.drop g).take 1) := rfl
  rw [this, take_flat, List.take_of_length_le (Nat.le_succ _)]
/-- a good text, a good way -/
structure G1 (es : List PyData) (ms : List (Int × List PyData)) (left : Nat) : Prop where
  n : es.length ≤ 300
  r : ∀ e ∈ es, rowOk e
  w : WayG es.length left ms
  l : left ≤ 300
theorem G1.nd {es : List PyData} {ms : List (Int × List PyData)} {left : Nat} (g : G1 es ms left) : (ms.map (·.1)).Nodup := g.w.up.imp fun h e => by omega
theorem G1.sz {es : List PyData} {ms : List (Int × List PyData)} {left : Nat} (g : G1 es ms left) : sizeW ms ≤ 300 := Nat.le_trans g.w.left g.l
theorem addN_all {ms : List (Int × List PyData)} {n : Int} (h : ∀ m ∈ ms, m.1 ≤ n) : (addN ms n).sum = sizeW ms := by
  have e : addN ms n = ms.map fun m => (m.2.length : Int) := by
    unfold addN
    rw [List.filter_eq_self.2 fun m hm => decide_eq_true (h m hm)]
  rw [e]
  clear e h
  induction ms with
  | nil => rfl
  | cons a l ih =>
    have e : sizeW (a :: l) = a.2.length + sizeW l := by
      unfold sizeW
      rw [List.map_cons, List.sum_cons]
    rw [e, List.map_cons, List.sum_cons, ih]
    omega
section
variable {es : List PyData} {ms : List (Int × List PyData)} {left : Nat} (g : G1 es ms left)
include g
theorem G1.h0 : ∀ m ∈ ms, 0 ≤ m.1 := fun m hm => (g.w.at_ m hm).1
theorem G1.all : LL ms (es.length + 1) = sizeW ms := by
  have := LL_le (i := es.length) g.nd g.h0
  rw [addN_all fun m hm => (g.w.at_ m hm).2.1] at this
  exact Int.ofNat.inj this
theorem G1.olen : (oldsL es.length ms).length = es.length + sizeW ms := by
  unfold oldsL
  rw [flat_succ, List.length_append, old_pre _ (Nat.le_refl _), oldP_len, if_neg (Nat.lt_irrefl _), ← g.all, LL_succ]
  omega
theorem G1.glen : (grownL es ms).length = es.length + sizeW ms := by
  rw [← g.olen]
  exact (old_flat (es.length + 1)).symm
theorem G1.rows : ∀ e ∈ grownL es ms, rowOk e := fun e he => by
  rcases grown_mem he with h | ⟨m, hm, h⟩
  · exact g.r e h
  · exact (g.w.at_ m hm).2.2.2 e h
theorem G1.later (i : Nat) : laterN ms i = ((i + LL ms (i + 1) : Nat) : Int) := later_eq g.nd g.h0 i
theorem G1.old {r : Nat} (hr : r < (grownL es ms).length) : (oldsL es.length ms)[r]? = some (oldD [.tuple es, .tuple (ms.map entD), .int r]) := by
  have e0 : oldD [.tuple es, .tuple (ms.map entD), .int r] = optD (lastR (fun j => laterN ms j) es.length r) := by
    show optD (lastR (fun j => laterN ((ms.map entD).map entM) j) es.length r) = _
    rw [ent_m]
  rw [e0]
  have hr' : r < (oldsL es.length ms).length := by rw [g.olen, ← g.glen]; exact hr
  have ge := List.getElem?_eq_getElem hr'
  rw [ge]
  congr 1
  have uni : ∀ i, i < es.length → laterN ms i = (r : Int) → (oldsL es.length ms)[r] = .int (i : Nat) := fun i hi e => by
    rw [g.later i] at e
    have e := Int.ofNat.inj e
    have h1 := (olds_at (ms := ms) hi).1
    rw [e, ge] at h1
    exact Option.some.inj h1
  rcases olds_mem (List.getElem_mem hr') with h | ⟨i, hi, h⟩
  · rw [lastR_none fun i hi e => by
      have := uni i hi e
      rw [h] at this
      cases this]
    exact h
  · have hk := (olds_at (ms := ms) hi).2 r _ ge h
    rw [lastR_some (i := i) hi (by rw [g.later i, hk]) fun i' hi' e => by
      have := uni i' hi' e
      rw [h] at this
      cases this
      rfl]
    exact h
end
end K25
end
section
set_option maxRecDepth 100000
set_option maxHeartbeats 4000000
namespace K25
open PySem PySem.Spec PyProof.Rows L2
section
variable {es : List PyData} {ms : List (Int × List PyData)} {left : Nat} (g : G1 es ms left)
include g
theorem G1.isWay : isWayD (.tuple (ms.map entD)) = true := by
  show ((ms.map entD).all isPairD && ((ms.map entD).all wayEntry && isGapsD (.tuple ((ms.map entD).map fstD)))) = true
  have ef : (ms.map entD).map fstD = ms.map fun m => .int m.1 := by
    rw [List.map_map]
    exact List.map_congr_left fun m _ => rfl
  rw [Bool.and_eq_true, Bool.and_eq_true, List.all_eq_true, List.all_eq_true, ef]
  refine ⟨fun d hd => ?_, fun d hd => ?_, ?_⟩
  · obtain ⟨m, _, rfl⟩ := List.mem_map.1 hd
    rfl
  · obtain ⟨m, hm, rfl⟩ := List.mem_map.1 hd
    obtain ⟨_, _, h1, h2⟩ := g.w.at_ m hm
    show (m.2.all isRowD && decide ((0 : Int) < (m.2.length : Int))) = true
    rw [Bool.and_eq_true, List.all_eq_true, decide_eq_true_eq]
    exact ⟨page_row h2, Int.ofNat_lt.2 (List.length_pos_iff.2 h1)⟩
  · show ((ms.map fun m => PyData.int m.1).all isNumD && (List.range (min (ms.map fun m => PyData.int m.1).length ((ms.map fun m => PyData.int m.1).length - 1))).all (fun i => ltD ((ms.map fun m => PyData.int m.1).getD i .none) ((ms.map fun m => PyData.int m.1).getD (i + 1) .none))) = true
    rw [Bool.and_eq_true, List.all_eq_true, List.all_eq_true]
    refine ⟨fun d hd => ?_, fun i hi => ?_⟩
    · obtain ⟨m, hm, rfl⟩ := List.mem_map.1 hd
      exact decide_eq_true (g.h0 m hm)
    · have hi := List.mem_range.1 hi
      rw [List.length_map] at hi
      have h1 : i < ms.length := by omega
      have h2 : i + 1 < ms.length := by omega
      rw [getD_of (d := .int ms[i].1) (by rw [List.getElem?_map, List.getElem?_eq_getElem h1]; rfl), getD_of (d := .int ms[i + 1].1) (by rw [List.getElem?_map, List.getElem?_eq_getElem h2]; rfl)]
      have := (List.pairwise_iff_getElem.1 g.w.up) i (i + 1) (by rw [List.length_map]; exact h1) (by rw [List.length_map]; exact h2) (Nat.lt_succ_self i)
      rw [List.getElem_map, List.getElem_map] at this
      exact decide_eq_true this
theorem G1.wayOk : wayOk es.length (.tuple (ms.map entD)) = true := by
  show (isWayD (.tuple (ms.map entD)) && lastOk es.length (ms.map entD)) = true
  rw [g.isWay, Bool.true_and]
  unfold lastOk
  cases e : (ms.map entD).getLast? with
  | none => rfl
  | some d =>
    obtain ⟨m, hm, rfl⟩ := List.mem_map.1 (List.mem_of_getLast? e)
    exact decide_eq_true (g.w.at_ m hm).2.1
theorem fine_int {n : Nat} {i : Int} (h : i.natAbs ≤ 1000) : fine n (.int i) = true := by
  have q : decide (i.natAbs.log2 < 1920) = true := decide_eq_true (Nat.lt_of_le_of_lt (Nat.log2_le_self _) (by omega))
  cases n <;> exact q
theorem G1.fent : ∀ d ∈ ms.map entD, fine 5 d = true := fun d hd => by
  obtain ⟨m, hm, rfl⟩ := List.mem_map.1 hd
  obtain ⟨h1, h2, _, h4⟩ := g.w.at_ m hm
  have hl := Nat.le_trans (sum_mem hm) g.sz
  have hn := g.n
  show (decide (([PyData.int m.1, .tuple m.2] : List PyData).length ≤ 4000) && ([PyData.int m.1, .tuple m.2] : List PyData).all (fine 4)) = true
  rw [Bool.and_eq_true, List.all_eq_true]
  refine ⟨by rfl, fun d hd => ?_⟩
  rcases List.mem_cons.1 hd with rfl | hd
  · exact fine_int g (by omega)
  · rw [List.mem_singleton.1 hd]
    show (decide (m.2.length ≤ 4000) && m.2.all (fine 3)) = true
    rw [Bool.and_eq_true, List.all_eq_true]
    exact ⟨decide_eq_true (by omega), page_fine h4⟩
theorem G1.mlen : ms.length ≤ 300 := Nat.le_trans (sum_len fun m hm => (g.w.at_ m hm).2.2.1) g.sz
theorem G1.twf : TWF es ms := by
  have hn := g.n
  have hs := g.sz
  have hm := g.mlen
  have hg := g.glen
  refine ⟨text_none (page_row g.r), (fine_tup (n := 3) (by decide) (page_fine g.r) (by omega)).1, ?_, (fine_tup (n := 5) (by decide) g.fent (by rw [List.length_map]; omega)).1, ent_ok ms, ?_, g.nd, by omega, by omega⟩
  · show erWant [.bool (K25.wayOk es.length (.tuple (ms.map entD))), .str "way", .int (-1)] = none
    rw [g.wayOk]
    rfl
  · rw [ent_m]
    exact ⟨by omega, fun x hx => by have := sum_mem hx; omega, by omega, g.nd⟩
theorem G1.mv {i : Nat} (hi : i < es.length) : erRow [.tuple es, .int i] = none ∧ ∃ j : Nat, laterN ms i = j ∧ j = i + LL ms (i + 1) ∧ (oldsL es.length ms)[j]? = some (.int i) ∧ ∀ (m : Nat) (z' : PyData), m < j → (oldsL es.length ms)[m]? = some z' → PyData.eqv z' (.int i) = false := by
  refine ⟨?_, i + LL ms (i + 1), g.later i, rfl, (olds_at hi).1, fun m z' hm hz => ?_⟩
  · show erWant [.bool (decide ((0 : Int) ≤ (i : Int)) && decide ((i : Int) < es.length)), .str "row", .int i] = none
    rw [decide_eq_true (by omega), decide_eq_true (by omega)]
    rfl
  · rcases olds_mem (List.mem_of_getElem? hz) with rfl | ⟨k, _, rfl⟩
    · simp [PyData.eqv]
    · rw [eqv_int, beq_eq_false_iff_ne]
      intro e
      have := (olds_at hi).2 m _ hz (by rw [e])
      omega
theorem G1.osh : SeqAt.shaped (.list (oldsL es.length ms)) = true := by
  have hn := g.n
  have hs := g.sz
  refine (fine_tup (n := 0) (by decide) (fun d hd => ?_) (by rw [g.olen]; omega)).2.shaped
  rcases olds_mem hd with rfl | ⟨k, hk, rfl⟩
  · rfl
  · exact fine_int g (by omega)
end
end K25
end
section
set_option maxRecDepth 100000
set_option maxHeartbeats 4000000
namespace K25
open PySem PySem.Spec PyProof.Rows L2
theorem fineI {n : Nat} {i : Int} (h : i.natAbs ≤ 1000) : fine n (.int i) = true := by
  have q : decide (i.natAbs.log2 < 1920) = true := decide_eq_true (Nat.lt_of_le_of_lt (Nat.log2_le_self _) (by omega))
  cases n <;> exact q
/-! ### plain: what is shown -/
/-- of this depth, shown in at most m signs -/
def Shn (n m : Nat) (d : PyData) : Prop := fine n d = true ∧ d.shown.length ≤ m
theorem Shn.ok {n m : Nat} {d : PyData} (h : Shn n m d) (h1 : n ≤ 40) (h2 : m ≤ 16000000) : ShOk d := ⟨⟨n, h1, h.1⟩, Nat.le_trans h.2 h2⟩
theorem shn_int {n : Nat} {i : Int} (h : i.natAbs ≤ 1000) : Shn n 100 (.int i) := ⟨fineI h, Nat.le_trans (PyData.shown_int_le (Nat.lt_of_le_of_lt h (by decide))) (by decide)⟩
theorem shn_tup {n m k : Nat} {ds : List PyData} (h : ∀ d ∈ ds, Shn n m d) (hk : ds.length ≤ k) (z : k ≤ 4000) : Shn (n + 1) (k * (m + 2) + 3) (.tuple ds) := by
  refine ⟨?_, Nat.le_trans (shown_tup fun d hd => (h d hd).2) ?_⟩
  · show (decide (ds.length ≤ 4000) && ds.all (fine n)) = true
    rw [Bool.and_eq_true, List.all_eq_true]
    exact ⟨decide_eq_true (by omega), fun d hd => (h d hd).1⟩
  · exact Nat.add_le_add_right (Nat.mul_le_mul_right _ hk) 3
theorem shn_lst {n m k : Nat} {ds : List PyData} (h : ∀ d ∈ ds, Shn n m d) (hk : ds.length ≤ k) (z : k ≤ 4000) : Shn (n + 1) (k * (m + 2) + 3) (.list ds) := by
  refine ⟨?_, Nat.le_trans (shown_lst fun d hd => (h d hd).2) ?_⟩
  · show (decide (ds.length ≤ 4000) && ds.all (fine n)) = true
    rw [Bool.and_eq_true, List.all_eq_true]
    exact ⟨decide_eq_true (by omega), fun d hd => (h d hd).1⟩
  · exact Nat.add_le_add_right (Nat.mul_le_mul_right _ hk) 3
theorem Shn.up {n m m' : Nat} {d : PyData} (h : Shn n m d) (l : m ≤ m') : Shn n m' d := ⟨h.1, Nat.le_trans h.2 l⟩
theorem shn_rows {es : List PyData} (h : ∀ e ∈ es, rowOk e) (hn : es.length ≤ 1000) : Shn 4 62003 (.tuple es) := (shn_tup (n := 3) (m := 60) (k := 1000) (fun d hd => ⟨(rowOk_all (h d hd)).2.1, (rowOk_all (h d hd)).2.2⟩) hn (by decide)).up (by decide)
theorem sh_use {w : Str} {d : PyData} (hw : Shn 4 100 (.str w)) (hd : Shn 4 100 d) : ShOk (useD w d) :=
  Shn.ok (n := 5) (m := 3 * (100 + 2) + 3) (shn_tup (n := 4) (m := 100) (fun e he => by
    rcases List.mem_cons.1 he with rfl | he
    · exact ⟨by decide +kernel, by decide +kernel⟩
    · rcases List.mem_cons.1 he with rfl | he
      · exact hw
      · rw [List.mem_singleton.1 he]
        exact hd) (Nat.le_refl _) (by decide)) (by decide) (by decide)
theorem shn_row : Shn 4 100 (.str "row") := ⟨by decide +kernel, by decide +kernel⟩
theorem shn_way : Shn 4 100 (.str "way") := ⟨by decide +kernel, by decide +kernel⟩
theorem shn_text : Shn 4 100 (.str "text") := ⟨by decide +kernel, by decide +kernel⟩
theorem shn_odd : ∀ d ∈ oddsL, Shn 4 100 d := by
  have h : (oddsL.all fun d => fine 4 d && decide (d.shown.length ≤ 100)) = true := by decide +kernel
  rw [List.all_eq_true] at h
  intro d hd
  have := h d hd
  rw [Bool.and_eq_true, decide_eq_true_eq] at this
  exact this
/-! ### plain: what refuses -/
theorem odd_ref {es : List PyData} {odd : PyData} (h : odd ∈ oddsL) (hn : es.length ≤ 1000) : erRow [.tuple es, odd] = some (.str "row", odd) := by
  have e : isRowOf [.tuple es, odd] = false := by
    unfold oddsL at h
    simp only [List.mem_cons, List.not_mem_nil, or_false] at h
    rcases h with rfl | rfl | rfl | rfl | rfl | rfl
    · rfl
    · rfl
    · rfl
    · rfl
    · rfl
    · show (decide ((0 : Int) ≤ 10 ^ 50) && decide ((10 : Int) ^ 50 < es.length)) = false
      rw [decide_eq_false (p := (10 : Int) ^ 50 < es.length) (by
        have : (1000 : Int) < 10 ^ 50 := by decide
        omega), Bool.and_false]
  show erWant [.bool (isRowOf [.tuple es, odd]), .str "row", odd] = _
  rw [e]
  rfl
theorem big_ref {es : List PyData} {i : Int} (h : (es.length : Int) ≤ i) : erRow [.tuple es, .int i] = some (.str "row", .int i) := by
  show erWant [.bool (decide (0 ≤ i) && decide (i < es.length)), .str "row", .int i] = _
  rw [decide_eq_false (p := i < es.length) (by omega), Bool.and_false]
  rfl
theorem way_bad {n : Nat} {d : PyData} (h : isWayD d = false) : wayOk n d = false := by
  unfold wayOk
  rw [h]
  rfl
theorem bad_way {n : Nat} {d : PyData} (hn : n ≤ 900) (h : d ∈ badW n) : wayOk n d = false ∧ Fine d := by
  have cl : ∀ d, isWayD d = false → fine 6 d = true → wayOk n d = false ∧ Fine d := fun d h1 h2 => ⟨way_bad h1, 6, by decide, h2⟩
  unfold badW badw0 badw1 badw2 badw3 badw4 at h
  simp only [List.mem_append, List.mem_cons, List.not_mem_nil, or_false, or_assoc] at h
  rcases h with rfl | rfl | rfl | rfl | rfl | rfl | rfl | rfl | rfl | rfl | rfl | rfl | rfl | rfl | rfl | rfl | rfl | rfl | rfl | rfl | rfl
  case inr.inr.inr.inr.inr.inr.inr.inr.inr.inr.inl =>
    refine ⟨?_, 6, by decide, ?_⟩
    · show (_ && decide (((n : Int) + 1) ≤ n)) = false
      rw [decide_eq_false (by omega), Bool.and_false]
    · have q : fine 4 (.int ((n : Int) + 1)) = true := fineI (by omega)
      show (decide (1 ≤ 4000) && ((decide (2 ≤ 4000) && (fine 4 (.int ((n : Int) + 1)) && (fine 4 ent1 && true))) && true)) = true
      have q2 : fine 4 ent1 = true := by decide +kernel
      rw [q, q2]
      rfl
  case inr.inr.inr.inr.inr.inr.inr.inr.inr.inr.inr.inr.inl =>
    refine ⟨way_bad ?_, 6, by decide, ?_⟩
    · have gp : isGapsD (.tuple [.int (n : Int), .int 0]) = false := by
        simp only [isGapsD]
        rw [show List.range (min ([PyData.int (n : Int), .int 0] : List PyData).length (([PyData.int (n : Int), .int 0] : List PyData).length - 1)) = [0] from rfl]
        have l : ltD (.int (n : Int)) (.int 0) = false := by
          simp only [ltD]
          exact decide_eq_false (by omega)
        rw [List.all_cons]
        show (_ && (ltD (.int (n : Int)) (.int 0) && _)) = false
        rw [l, Bool.false_and, Bool.and_false]
      simp only [isWayD]
      rw [show List.map fstD [PyData.tuple [.int (n : Int), ent1], .tuple [.int 0, ent1]] = [.int (n : Int), .int 0] from rfl, gp, Bool.and_false, Bool.and_false]
    · have q : fine 4 (.int (n : Int)) = true := fineI (by omega)
      show (decide (2 ≤ 4000) && ((decide (2 ≤ 4000) && (fine 4 (.int (n : Int)) && (fine 4 ent1 && true))) && ((decide (2 ≤ 4000) && (fine 4 (.int 0) && (fine 4 ent1 && true))) && true))) = true
      have q2 : fine 4 ent1 = true := by decide +kernel
      rw [q, q2]
      rfl
  all_goals exact cl _ (by decide +kernel) (by decide +kernel)
end K25
end
section
set_option maxRecDepth 100000
set_option maxHeartbeats 4000000
namespace K25
open PySem PySem.Spec PyProof.Rows L2
theorem bad_spot {es : List PyData} {t : PyData} {s : Int} (hz : es.length ≤ 1000) (hb : .tuple [t, .int s] ∈ badT es) : s.natAbs ≤ 1000 := by
  rcases List.mem_append.1 hb with hb | hb
  · unfold found0 at hb
    simp only [List.mem_cons, List.not_mem_nil, or_false] at hb
    rcases hb with e | e | e | e | e | e <;> cases e <;> decide
  · obtain ⟨e, he, eq⟩ := List.mem_map.1 hb
    cases eq
    omega
theorem shn_ints {n : Nat} {i : Int} (h : i.natAbs ≤ 1000) : Shn n 100 (.int i) := shn_int h
section
variable {es : List PyData} {ms : List (Int × List PyData)} {left : Nat} (g : G1 es ms left)
include g
theorem G1.gD : grownD [.tuple es, .tuple (ms.map entD)] = .tuple (grownL es ms) := by
  show PyData.tuple (grownL es ((ms.map entD).map entM)) = _
  rw [ent_m]
theorem G1.ref {t d odd : PyData} {s : Int} (hb : .tuple [t, .int s] ∈ badT es) (hd : d ∈ badW es.length) (ho : odd ∈ oddsL) : RefF es ms t s d odd := by
  have hn := g.n
  have hs := g.sz
  have hg := g.glen
  have T := g.twf
  obtain ⟨b1, b2⟩ := bad_way (by omega) hd
  obtain ⟨c1, c2⟩ := bad_text g.r (by omega) hb
  refine ⟨T.t0, T.f0, ?_, b1, b2, T.w2, T.f2, T.en, T.sm, odd_ref ho (by omega), big_ref (Int.le_refl _), ?_, ?_, c1, c2, sh_use shn_way (shn_int (by decide)), sh_use shn_row (shn_odd odd ho), sh_use shn_row (shn_int (by omega)), sh_use shn_row (shn_int (by omega)), sh_use shn_text (shn_int (bad_spot (by omega) hb))⟩
  · show erWant [.bool (K25.wayOk es.length d), .str "way", .int (-1)] = _
    rw [b1]
    rfl
  · rw [g.gD]
    exact odd_ref ho (by omega)
  · rw [g.gD]
    exact big_ref (by omega)
theorem G1.oldS {n : Nat} {r : Nat} (hr : r < (grownL es ms).length) : Shn n 100 (oldD [.tuple es, .tuple (ms.map entD), .int r]) := by
  have hn := g.n
  rcases olds_mem (List.mem_of_getElem? (g.old hr)) with h | ⟨i, hi, h⟩
  · rw [h]
    exact ⟨by cases n <;> rfl, by decide +kernel⟩
  · rw [h]
    exact shn_int (by omega)
theorem G1.rowOf {r : Nat} (hr : r < es.length) : erRow [.tuple es, .int r] = none := (g.mv hr).1
end
theorem end_ok : rowOk (.tuple [.str "end"]) := ⟨"e", ("x", "y"), ("num", "text"), by decide +kernel, by decide +kernel, by decide +kernel, by rfl⟩
theorem stop_ok : rowOk (.tuple [.str "stop"]) := ⟨"s", ("x", "y"), ("num", "text"), by decide +kernel, by decide +kernel, by decide +kernel, by rfl⟩
theorem size_app {a b : List (Int × List PyData)} : sizeW (a ++ b) = sizeW a + sizeW b := by
  unfold sizeW
  rw [List.map_append, List.sum_append]
theorem told_sh {n m : Nat} {d : PyData} (h : Shn n m d) (hm : 10 ≤ m) : Shn (n + 1) (2 * (m + 2) + 3) (toldD d) := shn_tup (fun e he => by
  rcases List.mem_cons.1 he with rfl | he
  · exact ⟨by
      have q : (PyData.strOk "told" && decide (("told" : Str).length ≤ 4000)) = true := by decide +kernel
      cases n <;> exact q, Nat.le_trans (by decide +kernel) hm⟩
  · rw [List.mem_singleton.1 he]
    exact h) (Nat.le_refl 2) (by decide)
theorem long_f {es : List PyData} {ms : List (Int × List PyData)} {gg : Int} {rs : List PyData} (hpg : PageOk es) (hes : es.length < 20) (hw : WayG es.length (58 - es.length) ms) (hf : WayG es.length 69 [(gg, rs)]) :
    ∃ j, LongF es (grownL es [(gg, rs)]) [(gg, rs)] ms j := by
  have hn := hpg.n
  have g1 : G1 es [(gg, rs)] 69 := ⟨by omega, hpg.r, hf, by decide⟩
  obtain ⟨fl, efl⟩ : ∃ fl, fl = grownL es [(gg, rs)] := ⟨_, rfl⟩
  have hlen := g1.glen
  have hrows := g1.rows
  rw [← efl] at hlen hrows ⊢
  have es1 : sizeW [(gg, rs)] = rs.length := Nat.add_zero _
  have hl69 : rs.length ≤ 69 := by rw [← es1]; exact hf.left
  have hrs : 0 < rs.length := List.length_pos_iff.2 (hf.at_ _ (List.mem_cons_self ..)).2.2.1
  rw [es1] at hlen
  have hms : sizeW ms ≤ 58 - es.length := hw.left
  have g2 : G1 fl (moreL fl ms) 300 := by
    refine ⟨by omega, hrows, ⟨?_, fun m hm => ?_, ?_⟩, by decide⟩
    · unfold moreL
      rw [List.map_append, List.pairwise_append]
      refine ⟨hw.up, List.pairwise_singleton _ _, fun a ha b hb => ?_⟩
      obtain ⟨m, hm, rfl⟩ := List.mem_map.1 ha
      have := (hw.at_ m hm).2.1
      rw [List.mem_singleton.1 hb]
      show m.1 < (fl.length : Int)
      omega
    · rcases List.mem_append.1 hm with hm | hm
      · obtain ⟨h1, h2, h3, h4⟩ := hw.at_ m hm
        exact ⟨h1, by omega, h3, h4⟩
      · rw [List.mem_singleton.1 hm]
        refine ⟨Int.natCast_nonneg _, Int.le_refl _, (fun e => by cases e), fun e he => ?_⟩
        rcases List.mem_cons.1 he with rfl | he
        · exact end_ok
        · rw [List.mem_singleton.1 he]
          exact stop_ok
    · show sizeW (moreL fl ms) ≤ 300
      unfold moreL
      rw [size_app]
      show _ + 2 ≤ 300
      omega
  have hgl := g2.glen
  have hsz := g2.sz
  have ei : (fl.length : Int) - 1 = ((fl.length - 1 : Nat) : Int) := by omega
  obtain ⟨r1, j, r2, _, r4, r5⟩ := g2.mv (i := fl.length - 1) (by omega)
  have hj : j < (oldsL fl.length (moreL fl ms)).length := (List.getElem?_eq_some_iff.1 r4).1
  rw [g2.olen] at hj
  refine ⟨j, g1.twf, efl, g2.twf, (shn_rows hrows (by omega)).ok (by decide) (by decide), by omega, by rw [ei]; exact r1, by rw [ei]; exact r2, g2.osh, by rw [ei]; exact r4, by rw [ei]; exact r5, by omega, fun r hr => ⟨?_, g2.old hr⟩, fun r hr => ?_⟩
  · show erWant [.bool (decide ((0 : Int) ≤ (r : Int)) && decide ((r : Int) < (grownL fl (moreL fl ms)).length)), .str "row", .int r] = none
    rw [decide_eq_true (by omega), decide_eq_true (by omega)]
    rfl
  · refine (shn_lst (n := 5) (m := 2 * (62003 + 2) + 3) (k := 3) (ds := [toldD (.tuple (grownL fl (moreL fl ms))), toldD (.int j), toldD (oldD [.tuple fl, .tuple ((moreL fl ms).map entD), .int r])]) (fun e he => ?_) (Nat.le_refl 3) (by decide)).ok (by decide) (by decide)
    rcases List.mem_cons.1 he with rfl | he
    · exact told_sh (shn_rows g2.rows (by omega)) (by decide)
    · rcases List.mem_cons.1 he with rfl | he
      · exact told_sh ((shn_int (n := 4) (i := (j : Int)) (by omega)).up (by decide)) (by decide)
      · rw [List.mem_singleton.1 he]
        exact told_sh ((g2.oldS hr).up (by decide)) (by decide)
theorem law_f {es : List PyData} {ms : List (Int × List PyData)} (hpg : PageOk es) (hw : WayG es.length (58 - es.length) ms) : LawF es ms := by
  have hn := hpg.n
  have g : G1 es ms (58 - es.length) := ⟨by omega, hpg.r, hw, by omega⟩
  have g0 : G1 es [] 0 := ⟨by omega, hpg.r, ⟨.nil, (fun m hm => by cases hm), Nat.le_refl 0⟩, by decide⟩
  have hg := g.glen
  have hs := g.sz
  refine ⟨g.twf, g0.twf, grown_nil, (shn_rows g.rows (by omega)).ok (by decide) (by decide), (shn_rows hpg.r (by omega)).ok (by decide) (by decide), g.osh, fun i hi => ?_, fun r hr => ⟨?_, g.old hr, (g.oldS (n := 4) hr).ok (by decide) (by decide)⟩, g.glen, fun h20 gg rs hf => long_f hpg h20 hw hf, fun t s d odd h1 h2 h3 => g.ref h1 h2 h3⟩
  · obtain ⟨h1, j, h2, _, h3, h4⟩ := g.mv hi
    have hj : j < (oldsL es.length ms).length := (List.getElem?_eq_some_iff.1 h3).1
    rw [g.olen] at hj
    exact ⟨h1, j, h2, h3, h4, (shn_int (n := 4) (i := (j : Int)) (by omega)).ok (by decide) (by decide)⟩
  · show erWant [.bool (decide ((0 : Int) ≤ (r : Int)) && decide ((r : Int) < (grownL es ms).length)), .str "row", .int r] = none
    rw [decide_eq_true (by omega), decide_eq_true (by omega)]
    rfl
end K25
end
section
set_option maxRecDepth 100000
set_option maxHeartbeats 4000000
namespace K25
open PySem PySem.Spec PyProof.Rows L2
/-! ### the end: the law called, with tables, where no repr is under way -/
section
variable {P : Program} {w : World} {K : PySem.W.Frag} {mg mb : Str → Option Value} {a fa : Addr} {cs : List (Addr × Addr)} {s : Shared} {vs : List Value} {ns : List Int}
def tabO : Obj := { cls := .none, data := .fields #[] }
def lstO (vs : List Value) : Obj := { cls := .type "list", data := .seq vs.toArray }
/-- what is tracked at the call: the tables, and the script if it is no constant -/
def endH (K : PySem.W.Frag) (a : Addr) (cs : List (Addr × Addr)) (vs : List Value) (ns : List Int) : Hp := fun b =>
  if b ∈ cs.map (·.2) then some (.tbl #[]) else if b = a ∧ (K.lookup a).isNone = true then some (.frz (lstO vs) (.lst (ns.map V.int))) else none
theorem endH_tab {b : Addr} (h : b ∈ cs.map (·.2)) : endH K a cs vs ns b = some (.tbl #[]) := if_pos h
theorem endH_some {b : Addr} {o : HO} (h : endH K a cs vs ns b = some o) : (b ∈ cs.map (·.2) ∧ o = .tbl #[]) ∨ (b = a ∧ (K.lookup a).isNone = true ∧ o = .frz (lstO vs) (.lst (ns.map V.int))) := by
  unfold endH at h
  by_cases h1 : b ∈ cs.map (·.2)
  · rw [if_pos h1] at h
    exact .inl ⟨h1, (Option.some.inj h).symm⟩
  · rw [if_neg h1] at h
    by_cases h2 : b = a ∧ (K.lookup a).isNone = true
    · rw [if_pos h2] at h
      exact .inr ⟨h2.1, h2.2, (Option.some.inj h).symm⟩
    · rw [if_neg h2] at h
      cases h
theorem end_call (KX : K.In s.heap) (hns : s.heap.Ns mainGlobals mg) (hb : s.heap.Ns builtinsNs mb) (hbb : ∀ x : Str, x ≠ "__name__" → mb x = bootBuiltins x) (hlim : s.heap.NoLimit) (hg : s.gens = #[])
    (hT : ∀ p ∈ cs, s.heap.get? p.2 = some tabO) (nT : ∀ p ∈ cs, K.lookup p.2 = none) (C : ∀ p ∈ cs, PySem.W.CodeHd s.heap p.1 p.2)
    (hbm : ∃ (bm : Addr) (ob : Obj), mg "__builtins__" = some (.ref bm) ∧ bm ≠ builtinsNs ∧ s.heap.get? bm = some ob ∧ ob.cls = .type "module" ∧ ob.dict = some builtinsNs ∧ ob.data = .plain)
    (ha : s.heap.get? a = some (lstO vs)) (hi : IntsAre vs ns) (hl : ns.length ≤ sizeLine)
    (F : ∀ (base : Heap) (H : Hp), K.In base → base.Ns mainGlobals mg → (∀ p ∈ cs, LamX.TabB base mg p.1 p.2) → (∀ p ∈ cs, H p.2 = some (.tbl #[])) → SqL K H a (ns.map V.int) → Env0 P w K mg base callerA [] s H →
      codeAny (model P w) callerA (.call (.ref fa) ⟨[.ref a], []⟩) (CR CX0 [] P w H s (fun v _ => v = .bl true) fun _ _ _ => False) s) :
    codeAny (model P w) callerA (.call (.ref fa) ⟨[.ref a], []⟩) (fun r s' => r = .ok (.ret (.bool true)) ∧ OldK s.heap s'.heap ∧ s'.os = s.os ∧ AllBare s'.gens) s := by
  have rv := vals_ints hi
  have len := hi.length
  have isT : ∀ b, b ∈ cs.map (·.2) → s.heap.get? b = some tabO := fun b m => by
    obtain ⟨p, hp, rfl⟩ := List.mem_map.mp m
    exact hT p hp
  have aT : a ∉ cs.map (·.2) := fun z => by
    have q := (isT a z).symm.trans ha
    have q2 : tabO.cls = (lstO vs).cls := congrArg Obj.cls (Option.some.inj q)
    cases q2
  obtain ⟨H, eH⟩ : ∃ H, H = endH K a cs vs ns := ⟨_, rfl⟩
  have tabs : ∀ p ∈ cs, H p.2 = some (.tbl #[]) := fun p hp => by rw [eH]; exact endH_tab (List.mem_map.mpr ⟨p, hp, rfl⟩)
  have sq : SqL K H a (ns.map V.int) := by
    cases hk : K.lookup a with
    | none => exact .inl (.inr ⟨lstO vs, by rw [eH]; unfold endH; rw [if_neg aT, if_pos ⟨rfl, by rw [hk]; rfl⟩]⟩)
    | some o =>
      have z := (KX a o hk).symm.trans ha
      cases z
      exact .inr ⟨_, vs.toArray, _, hk, rfl, rfl, rfl, by rw [List.size_toArray, len]; exact hl, by simpa using rv⟩
  have hok : HOk P w H s.heap := fun b u z => by
    rw [eH] at z
    rcases endH_some z with ⟨m, rfl⟩ | ⟨rfl, _, rfl⟩
    · exact isT b m
    · exact ⟨ha, by rw [List.length_map]; exact hl, vs, _, rv, ha⟩
  -- what is neither table nor script is not tracked
  have free : ∀ {b : Addr} {o : Obj}, s.heap.get? b = some o → (∀ us n, o.data ≠ .seq us n) → o.data ≠ .fields #[] → H b = none := fun {b o} e n1 n2 => by
    cases q : H b with
    | none => rfl
    | some u =>
      rw [eH] at q
      rcases endH_some q with ⟨m, _⟩ | ⟨rfl, _, _⟩
      · have z := e.symm.trans (isT b m)
        cases z
        exact absurd rfl n2
      · have z := e.symm.trans ha
        cases z
        exact absurd rfl (n1 _ _)
  have low : ∀ {b : Addr} {o : Obj}, s.heap.get? b = some o → H b = none → (hidT s.heap H).get? b = some o := fun e n => hidT_get e n
  have lowN : ∀ {b : Addr} {m : Str → Option Value}, s.heap.Ns b m → (hidT s.heap H).Ns b m := fun {b m} ⟨o, es, ep, e, d, r⟩ =>
    ⟨o, es, ep, low e (free e (fun us n z => by rw [d] at z; cases z) fun z => by rw [d] at z; cases z), d, r⟩
  have lowK : K.In (hidT s.heap H) := fun b o e => low (KX b o e) (by
    cases q : H b with
    | none => rfl
    | some u =>
      rw [eH] at q
      rcases endH_some q with ⟨m, _⟩ | ⟨rfl, n, _⟩
      · obtain ⟨p, hp, rfl⟩ := List.mem_map.mp m
        rw [nT p hp] at e
        cases e
      · rw [e] at n
        cases n)
  have md : L2.Mod K mg (hidT s.heap H) := by
    obtain ⟨mc, l1, l2⟩ := hlim
    exact ⟨lowK, lowN hns, ⟨mb, lowN hb, hbb⟩, mc, lowN l1, l2⟩
  have TB : ∀ p ∈ cs, LamX.TabB (hidT s.heap H) mg p.1 p.2 := fun p hp => by
    have tp := hT p hp
    refine ⟨?_, ?_, fun z => ?_⟩
    · obtain ⟨o, us, file, tf, flags, tg, inF, text, tt, c1, c2, c3, c4, c5, c6, c7, c8, c9, c10⟩ := C p hp
      refine ⟨o, us, file, tf, flags, tg, inF, text, tt, low c1 (free c1 (fun us n z => ?_) fun z => ?_), c2, c3, c4, c5, c6, c7, c8, c9, c10⟩
      · rw [c3] at z
        cases z
      · rw [c3] at z
        cases z
        simp at c4
    · obtain ⟨bm, ob, m1, m2, m3, m4, m5, m6⟩ := hbm
      have n1 : bm ≠ mainGlobals := fun q => by
        obtain ⟨o, es, ep, e, hd, _⟩ := hns
        rw [q] at m3
        have z := m3.symm.trans e
        cases z
        rw [hd] at m6
        cases m6
      have n2 : bm ≠ p.2 := fun q => by
        rw [q] at m3
        have z := m3.symm.trans tp
        cases z
        cases m6
      refine ⟨bm, ob, m1, m2, n1, n2, low m3 (free m3 (fun us n z => ?_) fun z => ?_), m4, m5, m6⟩
      · rw [m6] at z
        cases z
      · rw [m6] at z
        cases z
    · obtain ⟨o, es, ep, e, hd, _⟩ := hns
      rw [z] at e
      have q := tp.symm.trans e
      cases q
      cases hd
  have e0 : Env0 P w K mg (hidT s.heap H) callerA [] s H := ⟨rfl, md, fun b o e => of_hidT e, Nat.le_of_eq (hidT_size _ _), trivial, fun b hb => (nomatch (show b ∈ ([] : List Addr) from hb)), hok, .of_eq hg⟩
  refine codeAny_mono (F _ H lowK (lowN hns) TB tabs sq e0) fun r s' h => ?_
  cases r with
  | error e => exact (show False from h).elim
  | ok fl =>
    cases fl with
    | next => exact h.elim
    | brk => exact h.elim
    | cont => exact h.elim
    | ret u =>
      obtain ⟨v, H', os, bare, un, hok', ru, q⟩ := h
      subst q
      obtain rfl : u = Value.bool true := ru
      have noFr : ∀ b : Addr, b ∉ frs ([] : List Env) := fun b z => nomatch (show b ∈ ([] : List Addr) from z)
      have same : ∀ b o, b ∉ cs.map (·.2) → s.heap.get? b = some o → s'.heap.get? b = some o := fun b o nb e => by
        cases q : H b with
        | none => exact un.keep b o e q (noFr b) (by simp)
        | some u =>
          have q' := q
          rw [eH] at q'
          rcases endH_some q' with ⟨m, _⟩ | ⟨rfl, _, rfl⟩
          · exact absurd m nb
          · obtain ⟨k1, _⟩ := hok' b _ (un.frzs b _ _ q)
            rw [← ha.symm.trans e |> Option.some.inj]
            exact k1
      have tabs' : ∀ p ∈ cs, ∃ more : Array Value, s'.heap.get? p.2 = some { cls := .none, data := .fields more } := fun p hp => by
        obtain ⟨more, z⟩ := un.tbls p.2 #[] (tabs p hp)
        exact ⟨_, hok' p.2 _ z⟩
      refine ⟨rfl, ⟨fun b o e => ?_, fun b o e => ?_⟩, os, bare⟩
      · by_cases hb : b ∈ cs.map (·.2)
        · obtain ⟨p, hp, rfl⟩ := List.mem_map.mp hb
          obtain ⟨more, hm⟩ := tabs' p hp
          have z := (hT p hp).symm.trans e
          cases z
          exact .inr (.inl ⟨((C p hp).tab (hT p hp)).isCodeTable, rfl, #[], more, rfl, by rw [Array.empty_append]; exact hm⟩)
        · exact .inl (same b o hb e)
      · by_cases hb : b ∈ cs.map (·.2)
        · obtain ⟨p, hp, rfl⟩ := List.mem_map.mp hb
          obtain ⟨more, hm⟩ := tabs' p hp
          exact ⟨_, hm⟩
        · exact ⟨o, same b o hb e⟩
end
end K25
end
section
set_option maxRecDepth 100000
set_option maxHeartbeats 4000000
namespace K25
open PySem PySem.Spec PyProof.Rows L2
theorem defat_mk {K : PySem.W.Frag} {h : Heap} {mg : Str → Option Value} {x : Str} {st : Stmt} {f : Addr} {oc kV doc pm cdv ct : Value} {od an : Option Addr} {osl : Array (Option Value)} (X : K.In h) (G : h.Ns mainGlobals mg) (a : PySem.W.nsIn K mainGlobals x = some (some (.ref f)))
    (l : K.lookup f = some ⟨oc, od, .func (PySem.W.fnOf x x (defArgs st) (defBody st) (defScope st) .none kV doc pm an cdv ct), osl⟩) (c : PySem.W.codeIn K cdv x = true) (k : PySem.W.keepIn K (.ref f) = true) : DefAt K mg x st :=
  ⟨f, _, fun_mk (st := st) l c k, PySem.W.mg_of X G a⟩
/-- the tables of the two makers of lambdas -/
structure TabF (K : PySem.W.Frag) (q : Program) (c1 P1 c2 P2 : Addr) : Prop where
  t1 : PySem.W.tabIn K "_law_long_right" = some (c1, P1)
  t2 : PySem.W.tabIn K "_law_refused_right" = some (c2, P2)
  ne : P1 ≠ P2
  n1 : K.lookup P1 = none
  n2 : K.lookup P2 = none
  r1 : ((recsOf q).find? (fun e => e.name == ("_law_long_right" : Str))).isSome = true
  r2 : ((recsOf q).find? (fun e => e.name == ("_law_refused_right" : Str))).isSome = true
theorem ltab_of {K : PySem.W.Frag} {h : Heap} {mg : Str → Option Value} {x : Str} {c P : Addr} (X : K.In h) (G : h.Ns mainGlobals mg) (t : PySem.W.tabIn K x = some (c, P)) : LTab K mg x c := fun f oc od fd osl hm hl => PySem.W.law_code X G t hm (X _ _ hl) rfl
theorem walk {l : PySem.W.OpenLaw} {q : Program} {loose : List Str} {XP : (Str → Option Value) → Heap → Prop} {YP : World → Heap → Prop} {d : DefRec} {K : Params → PySem.W.Frag} (hn : l.most = some 63) (hdf : d.params.defaults = []) (hname : d.name = "law")
    (hY : ∀ (w : World) (h : Heap), YP w h → (K w.params).In h)
    (F : ∀ (w : World) (mg : Str → Option Value) (h : Heap), (K w.params).In h → h.Ns mainGlobals mg → ∃ C fI cc SE, Tq l.prog (K w.params) mg C fI cc SE ∧ DefAt (K w.params) mg "law" s_law)
    (TF : ∀ w : World, ∃ c1 P1 c2 P2, TabF (K w.params) q c1 P1 c2 P2) :
    PySem.W.WalkO q loose XP YP l.row.toRowW d [] (fun f vs => PySem.call f vs) := by
  refine Att.attach_callB hn hdf fun w s₀ s₁ mg mb fa o pm cd doc a vs ns G Y ho hd hcd hmg hobj hints hlen hbits hg => ?_
  have KX := hY w _ Y
  obtain ⟨C, fI, cc, SE, q0, D⟩ := F w mg _ KX G.T.g
  obtain ⟨c1, P1, c2, P2, tf⟩ := TF w
  obtain ⟨d1, hd1⟩ := Option.isSome_iff_exists.mp tf.r1
  obtain ⟨d2, hd2⟩ := Option.isSome_iff_exists.mp tf.r2
  have k1 := PySem.W.tab_of G.T KX hd1 tf.t1
  have k2 := PySem.W.tab_of G.T KX hd2 tf.t2
  have both : ∀ {Φ : Addr × Addr → Prop}, Φ (c1, P1) → Φ (c2, P2) → ∀ p ∈ [(c1, P1), (c2, P2)], Φ p := fun {Φ} h1 h2 p hp => by
    rcases List.mem_cons.mp hp with rfl | hp
    · exact h1
    · rw [List.mem_singleton.mp hp]
      exact h2
  refine end_call (P := l.prog) (w := w) (cs := [(c1, P1), (c2, P2)]) KX G.T.g G.T.b G.T.builtins G.T.nolimit hg (both k1.2 k2.2) (both tf.n1 tf.n2) (both k1.1 k2.1) G.T.bmain hobj hints (Nat.le_trans hlen (by decide)) fun base H KB GB TB tb sq e0 => ?_
  have T : Tt l.prog (K w.params) mg base C fI cc SE c1 P1 c2 P2 := ⟨q0, ltab_of KX G.T.g tf.t1, ltab_of KX G.T.g tf.t2, TB _ (List.mem_cons_self ..), TB _ (List.mem_cons_of_mem _ (List.mem_cons_self ..)), tf.ne⟩
  obtain ⟨f, fd, ps, R, hm, kp, b⟩ := (cl_law (w := w) T D fun es ms => law_f).ex
  rw [hname] at hmg
  have ef := hmg.symm.trans hm
  cases ef
  have sp : spLaw (K w.params) (tabsL P1 P2) [.ref a] H (fun v _ => v = .bl true) (fun _ _ _ => False) := by
    refine ⟨a, ns, rfl, sq, hlen, fun p hp => ?_, fun B => rfl⟩
    unfold tabsL at hp
    rcases List.mem_cons.mp hp with rfl | hp
    · exact LamX.TabS.nil (tb _ (List.mem_cons_self ..))
    · rw [List.mem_singleton.mp hp]
      exact LamX.TabS.nil (tb _ (List.mem_cons_of_mem _ (List.mem_cons_self ..)))
  have hlp : ([Value.ref a] : List Value).length = ps.length := R.len _ _ _ _ sp
  have bb := b s₁ [Value.ref a] KX (by rw [List.append_nil]; exact hlp)
  rw [List.append_nil] at bb
  exact R.run callerA [] s₁ H ⟨[.ref a], []⟩ [.ref a] [.ref a] _ _ rfl ⟨rfl, by decide, by decide⟩ e0 bb (.cons rfl .nil) sp
end K25
end
section
set_option maxRecDepth 100000
set_option maxHeartbeats 4000000
namespace K25
open PySem PySem.Spec PyProof.Rows L2
theorem tab_mk {K : PySem.W.Frag} {x : Str} {f c P : Addr} {oc e : Value} {od dd : Option Addr} {osl sl : Array (Option Value)} {fd : FuncData} {vs : Array Value} (a : PySem.W.nsIn K mainGlobals x = some (some (.ref f))) (l : K.lookup f = some ⟨oc, od, .func fd, osl⟩) (hc : fd.code = .ref c)
    (lc : K.lookup c = some ⟨e, dd, .fields vs, sl⟩) (hp : (vs[11]? : Option Value) = some (.ref P)) : PySem.W.tabIn K x = some (c, P) := by
  unfold PySem.W.tabIn
  rw [a]
  dsimp only
  rw [l]
  dsimp only
  rw [hc]
  dsimp only
  rw [lc]
  dsimp only
  rw [hp]
theorem str_mk {K : PySem.W.Frag} {h : Heap} {mg : Str → Option Value} {x z : Str} {t : Tok} (X : K.In h) (G : h.Ns mainGlobals mg) (a : PySem.W.nsIn K mainGlobals x = some (some (.str z t))) : ∃ t, mg x = some (.str z t) := ⟨t, PySem.W.mg_of X G a⟩
theorem int_mk {K : PySem.W.Frag} {h : Heap} {mg : Str → Option Value} {x : Str} {i : Int} {t : Tok} (X : K.In h) (G : h.Ns mainGlobals mg) (a : PySem.W.nsIn K mainGlobals x = some (some (.int i t))) : ∃ t, mg x = some (.int i t) := ⟨t, PySem.W.mg_of X G a⟩
theorem want_mk {K : PySem.W.Frag} {h : Heap} {mg : Str → Option Value} {f T : Addr} {oc doc pm cdv ct : Value} {od an : Option Addr} {osl : Array (Option Value)} {o : Obj} (X : K.In h) (G : h.Ns mainGlobals mg) (a : PySem.W.nsIn K mainGlobals "want" = some (some (.ref f)))
    (l : K.lookup f = some ⟨oc, od, .func (PySem.W.fnOf "want" "want" (defArgs s_want) (defBody s_want) (defScope s_want) (.ref T) .none doc pm an cdv ct), osl⟩) (c : PySem.W.codeIn K cdv "want" = true) (k : PySem.W.keepIn K (.ref f) = true)
    (lt : K.lookup T = some o) (ht : ∃ t n, o.data = .seq #[.int (-1) t] n) : ∃ f fd, FunD K "want" "want" (defArgs s_want) (defBody s_want) (defScope s_want) [.int (-1)] [] f fd ∧ mg "want" = some (.ref f) := by
  obtain ⟨t, n, ht⟩ := ht
  exact ⟨f, _, ⟨⟨oc, od, .ref T, .none, doc, pm, an, cdv, ct, osl, rfl, l, c, .inr ⟨by simp, T, o, [.int (-1) t], n, rfl, lt, ht, .cons ⟨t, rfl⟩ .nil⟩, .inl rfl⟩, k⟩, PySem.W.mg_of X G a⟩
theorem nu_mk {P : Program} {K : PySem.W.Frag} {h : Heap} {mg : Str → Option Value} {C fI cc N cda : Addr} {nm q : Str} {bs : List Value} {bm : List Value} {sn : List Str} {sub : List Value} {ab : Bool} {col : Option Bool} {dd cld od an cdd : Option Addr} {m0 m1 m2 m3 m5 : Option Value} {cl oc doc pm ct ccl : Value} {csl osl ccs : Array (Option Value)} {vs : Array Value} {file : Str} {tf : Tok}
    (X : K.In h) (G : h.Ns mainGlobals mg) (aC : PySem.W.nsIn K mainGlobals "NotUsable" = some (some (.ref C)))
    (xC : K.lookup C = some (PySem.excClassObj nm q C N bs bm true sn sub ab col dd m0 m1 m2 m3 m5 "ValueError.__new__")) (hbm : PySem.HandSPX.refsVE bm = true)
    (sa : PySem.W.findIn K (.ref C) "__setattr__" = some (some (.builtin "object.__setattr__"))) (noW : PySem.W.findIn K (.ref C) "word" = some none) (noA : PySem.W.findIn K (.ref C) "at" = some none)
    (iC : PySem.W.findIn K (.ref C) "__init__" = some (some (.ref fI))) (tC : PySem.W.typeIn K (.ref fI) = some (.type "function")) (kC : PySem.W.keepIn K (.ref C) = true)
    (exC : PySem.W.subIn K (.ref C) (.type "BaseException") = some true) (veC : PySem.W.subIn K (.ref C) (.type "ValueError") = some true) (tyC : PySem.W.typeIn K (.ref C) = some (.type "type"))
    (up : PySem.W.ks_superIn K C C "__init__" = some (some (.builtin "ValueError.__init__"))) (me : PySem.W.mroIn K C (.ref C) = some true) (opq : PySem.W.nsIn K cStatics "thirdparty.any" = some none) (noS : PySem.W.nsIn K mainGlobals "super" = some none)
    (lI : K.lookup fI = some ⟨oc, od, .func (PySem.W.ksFn "__init__" "NotUsable.__init__" (defArgs s_nuInit) (defBody s_nuInit) (defScope s_nuInit) .none .none doc pm an (.ref cda) ct cc), osl⟩)
    (lc : K.lookup cc = some ⟨cl, cld, .cell (some (.ref C)), csl⟩) (cI : PySem.W.codeIn K (.ref cda) "NotUsable.__init__" = true) (ld : K.lookup cda = some ⟨ccl, cdd, .fields vs, ccs⟩) (hv : vs[2]? = some (.str file tf)) (hf : ((P.main.file : Str) == file) = true)
    (top : (P.main.scope.names.lookup ("super" : Str)).isSome = false) : K25X.NuTxt P K mg C fI cc :=
  { gC := PySem.W.mg_of X G aC, cls := ⟨nm, q, N, bs, bm, sn, sub, ab, col, dd, m0, m1, m2, m3, m5, xC, hbm⟩, sa := sa, noW := noW, noA := noA, iC := iC, tC := tC, kC := kC, exC := exC, veC := veC, tyC := tyC, up := up, me := me, opq := opq, noSup := PySem.W.mg_none_of X G noS, cell := ⟨cl, cld, csl, lc⟩,
    fn := ⟨oc, od, doc, pm, an, cda, ct, osl, ccl, cdd, vs, ccs, file, tf, lI, cI, ld, hv, hf⟩, top := top }
abbrev DefAtX {K : PySem.W.Frag} {h : Heap} (_ : K.In h) (mg : Str → Option Value) (x : Str) (st : Stmt) : Prop := DefAt K mg x st
abbrev WantX {K : PySem.W.Frag} {h : Heap} (_ : K.In h) (mg : Str → Option Value) : Prop := ∃ f fd, FunD K "want" "want" (defArgs s_want) (defBody s_want) (defScope s_want) [.int (-1)] [] f fd ∧ mg "want" = some (.ref f)
/-- what is known of the two exception classes -/
def NuQ (P : Program) (K : PySem.W.Frag) (mg : Str → Option Value) : Prop := ∃ C fI cc SE, K25X.NuTxt P K mg C fI cc ∧ mg "SurelyError" = some (.ref SE) ∧ PySem.W.exmOne K (.ref C) (.ref SE) = some true ∧ XfC K C ∧ ExcC K C ∧ PySem.W.kitOne K (.ref C) (.ref C) = some true
abbrev NuQX {K : PySem.W.Frag} {h : Heap} (_ : K.In h) (P : Program) (mg : Str → Option Value) : Prop := NuQ P K mg
theorem nuq_mk {P : Program} {K : PySem.W.Frag} {h : Heap} {mg : Str → Option Value} {C fI cc SE N cda : Addr} {nm q : Str} {bs : List Value} {bm : List Value} {sn : List Str} {sub : List Value} {ab : Bool} {col : Option Bool} {dd cld od an cdd : Option Addr} {m0 m1 m2 m3 m5 : Option Value} {cl oc doc pm ct ccl : Value} {csl osl ccs : Array (Option Value)} {vs : Array Value} {file : Str} {tf : Tok}
    (X : K.In h) (G : h.Ns mainGlobals mg) (aC : PySem.W.nsIn K mainGlobals "NotUsable" = some (some (.ref C)))
    (xC : K.lookup C = some (PySem.excClassObj nm q C N bs bm true sn sub ab col dd m0 m1 m2 m3 m5 "ValueError.__new__")) (hbm : PySem.HandSPX.refsVE bm = true)
    (sa : PySem.W.findIn K (.ref C) "__setattr__" = some (some (.builtin "object.__setattr__"))) (noW : PySem.W.findIn K (.ref C) "word" = some none) (noA : PySem.W.findIn K (.ref C) "at" = some none)
    (iC : PySem.W.findIn K (.ref C) "__init__" = some (some (.ref fI))) (tC : PySem.W.typeIn K (.ref fI) = some (.type "function")) (kC : PySem.W.keepIn K (.ref C) = true)
    (exC : PySem.W.subIn K (.ref C) (.type "BaseException") = some true) (veC : PySem.W.subIn K (.ref C) (.type "ValueError") = some true) (tyC : PySem.W.typeIn K (.ref C) = some (.type "type"))
    (up : PySem.W.ks_superIn K C C "__init__" = some (some (.builtin "ValueError.__init__"))) (me : PySem.W.mroIn K C (.ref C) = some true) (opq : PySem.W.nsIn K cStatics "thirdparty.any" = some none) (noS : PySem.W.nsIn K mainGlobals "super" = some none)
    (lI : K.lookup fI = some ⟨oc, od, .func (PySem.W.ksFn "__init__" "NotUsable.__init__" (defArgs s_nuInit) (defBody s_nuInit) (defScope s_nuInit) .none .none doc pm an (.ref cda) ct cc), osl⟩)
    (lc : K.lookup cc = some ⟨cl, cld, .cell (some (.ref C)), csl⟩) (cI : PySem.W.codeIn K (.ref cda) "NotUsable.__init__" = true) (ld : K.lookup cda = some ⟨ccl, cdd, .fields vs, ccs⟩) (hv : vs[2]? = some (.str file tf)) (hf : ((P.main.file : Str) == file) = true)
    (top : (P.main.scope.names.lookup ("super" : Str)).isSome = false)
    (gS : PySem.W.nsIn K mainGlobals "SurelyError" = some (some (.ref SE))) (ex : PySem.W.exmOne K (.ref C) (.ref SE) = some true)
    (x1 : PySem.W.findIn K (.ref C) "__getattribute__" = some (some (.builtin "BaseException.__getattribute__"))) (x2 : PySem.W.findIn K (.ref C) "__getattr__" = some none) (x4 : PySem.W.hasDictIn K C = true)
    (y5 : PySem.W.findIn K (.ref C) "__class__" = some (some (.builtin "object.__class__"))) (y6 : PySem.W.specialIn K (.builtin "object.__class__") "__get__" = some (some (.builtin "getset_descriptor.__get__"))) (y7 : PySem.W.takesIn K (.builtin "object.__class__") = some true)
    (y8 : PySem.W.mroIn K C (.type "object") = some true) (kit : PySem.W.kitOne K (.ref C) (.ref C) = some true) : NuQ P K mg :=
  ⟨C, fI, cc, SE, nu_mk X G aC xC hbm sa noW noA iC tC kC exC veC tyC up me opq noS lI lc cI ld hv hf top, PySem.W.mg_of X G gS, ex, ⟨x1, x2, exC, x4⟩, ⟨x1, x2, exC, x4, y5, y6, y7, y8⟩, kit⟩
theorem tabf_mk {K : PySem.W.Frag} {p : Program} {f1 c1 P1 f2 c2 P2 : Addr} {oc e oc2 e2 : Value} {od dd od2 dd2 : Option Addr} {osl sl osl2 sl2 : Array (Option Value)} {fd fd2 : FuncData} {vs vs2 : Array Value}
    (a1 : PySem.W.nsIn K mainGlobals "_law_long_right" = some (some (.ref f1))) (l1 : K.lookup f1 = some ⟨oc, od, .func fd, osl⟩) (h1 : fd.code = .ref c1) (m1 : K.lookup c1 = some ⟨e, dd, .fields vs, sl⟩) (p1 : (vs[11]? : Option Value) = some (.ref P1))
    (a2 : PySem.W.nsIn K mainGlobals "_law_refused_right" = some (some (.ref f2))) (l2 : K.lookup f2 = some ⟨oc2, od2, .func fd2, osl2⟩) (h2 : fd2.code = .ref c2) (m2 : K.lookup c2 = some ⟨e2, dd2, .fields vs2, sl2⟩) (p2 : (vs2[11]? : Option Value) = some (.ref P2))
    (ne : P1 ≠ P2) (n1 : K.lookup P1 = none) (n2 : K.lookup P2 = none) (r1 : ((recsOf p).find? (fun e => e.name == ("_law_long_right" : Str))).isSome = true) (r2 : ((recsOf p).find? (fun e => e.name == ("_law_refused_right" : Str))).isSome = true) : ∃ c1 P1 c2 P2, TabF K p c1 P1 c2 P2 :=
  ⟨c1, P1, c2, P2, tab_mk a1 l1 h1 m1 p1, tab_mk a2 l2 h2 m2 p2, ne, n1, n2, r1, r2⟩
end K25
end
open PySem PySem.W PyProof.Rows in
set_option maxRecDepth 100000 in
set_option maxHeartbeats 0 in
theorem PySem.Challenge.cw_surelywrong_k25_whole_grown_texts_holds : PySem.Challenge.rw_surelywrong_k25_whole_grown_texts.Holds := by
  w_on; o_law; k_head; (case hw => w_witness2)
  k_fill
  refine K25.walk (l := PySem.Challenge.rw_surelywrong_k25_whole_grown_texts) rfl rfl rfl (fun w h Y => PySem.W.km_in_of Y) ?F ?TF
  case F =>
    intro w mg h KX G
    have n_isinstance : mg "isinstance" = none := by
      refine' PySem.W.mg_none_of KX G ?a
      (case a => k_is)
    have n_len : mg "len" = none := by
      refine' PySem.W.mg_none_of KX G ?a
      (case a => k_is)
    have n_all : mg "all" = none := by
      refine' PySem.W.mg_none_of KX G ?a
      (case a => k_is)
    have n_zip : mg "zip" = none := by
      refine' PySem.W.mg_none_of KX G ?a
      (case a => k_is)
    have n_int : mg "int" = none := by
      refine' PySem.W.mg_none_of KX G ?a
      (case a => k_is)
    have n_bool : mg "bool" = none := by
      refine' PySem.W.mg_none_of KX G ?a
      (case a => k_is)
    have n_str : mg "str" = none := by
      refine' PySem.W.mg_none_of KX G ?a
      (case a => k_is)
    have n_tuple : mg "tuple" = none := by
      refine' PySem.W.mg_none_of KX G ?a
      (case a => k_is)
    have n_enumerate : mg "enumerate" = none := by
      refine' PySem.W.mg_none_of KX G ?a
      (case a => k_is)
    have n_dict : mg "dict" = none := by
      refine' PySem.W.mg_none_of KX G ?a
      (case a => k_is)
    have n_range : mg "range" = none := by
      refine' PySem.W.mg_none_of KX G ?a
      (case a => k_is)
    have n_sum : mg "sum" = none := by
      refine' PySem.W.mg_none_of KX G ?a
      (case a => k_is)
    have n_list : mg "list" = none := by
      refine' PySem.W.mg_none_of KX G ?a
      (case a => k_is)
    have n_repr : mg "repr" = none := by
      refine' PySem.W.mg_none_of KX G ?a
      (case a => k_is)
    have n_max : mg "max" = none := by
      refine' PySem.W.mg_none_of KX G ?a
      (case a => k_is)
    have n_sorted : mg "sorted" = none := by
      refine' PySem.W.mg_none_of KX G ?a
      (case a => k_is)
    have n_set : mg "set" = none := by
      refine' PySem.W.mg_none_of KX G ?a
      (case a => k_is)
    have c1 : ∃ t, mg "LETTERS" = some (.str K25.letters t) := by
      refine' K25.str_mk KX G ?a
      (case a => k_is)
    have c2 : ∃ t, mg "MOST_LETTERS" = some (.int 8 t) := by
      refine' K25.int_mk KX G ?a
      (case a => k_is)
    have d_is_integer : K25.DefAtX KX mg "is_integer" K25.s_is_integer := by
      refine' K25.defat_mk KX G ?a ?l ?c ?k
      (case a => k_is)
      (case l => k_is)
      (case c => k_is)
      (case k => k_is)
    have d_is_number : K25.DefAtX KX mg "is_number" K25.s_is_number := by
      refine' K25.defat_mk KX G ?a ?l ?c ?k
      (case a => k_is)
      (case l => k_is)
      (case c => k_is)
      (case k => k_is)
    have d_is_name : K25.DefAtX KX mg "is_name" K25.s_is_name := by
      refine' K25.defat_mk KX G ?a ?l ?c ?k
      (case a => k_is)
      (case l => k_is)
      (case c => k_is)
      (case k => k_is)
    have d_is_kind : K25.DefAtX KX mg "is_kind" K25.s_is_kind := by
      refine' K25.defat_mk KX G ?a ?l ?c ?k
      (case a => k_is)
      (case l => k_is)
      (case c => k_is)
      (case k => k_is)
    have d_is_pair : K25.DefAtX KX mg "is_pair" K25.s_is_pair := by
      refine' K25.defat_mk KX G ?a ?l ?c ?k
      (case a => k_is)
      (case l => k_is)
      (case c => k_is)
      (case k => k_is)
    have d_is_sort : K25.DefAtX KX mg "is_sort" K25.s_is_sort := by
      refine' K25.defat_mk KX G ?a ?l ?c ?k
      (case a => k_is)
      (case l => k_is)
      (case c => k_is)
      (case k => k_is)
    have d_is_row : K25.DefAtX KX mg "is_row" K25.s_is_row := by
      refine' K25.defat_mk KX G ?a ?l ?c ?k
      (case a => k_is)
      (case l => k_is)
      (case c => k_is)
      (case k => k_is)
    have d_is_text : K25.DefAtX KX mg "is_text" K25.s_is_text := by
      refine' K25.defat_mk KX G ?a ?l ?c ?k
      (case a => k_is)
      (case l => k_is)
      (case c => k_is)
      (case k => k_is)
    have d_is_gaps : K25.DefAtX KX mg "is_gaps" K25.s_is_gaps := by
      refine' K25.defat_mk KX G ?a ?l ?c ?k
      (case a => k_is)
      (case l => k_is)
      (case c => k_is)
      (case k => k_is)
    have d_is_way : K25.DefAtX KX mg "is_way" K25.s_is_way := by
      refine' K25.defat_mk KX G ?a ?l ?c ?k
      (case a => k_is)
      (case l => k_is)
      (case c => k_is)
      (case k => k_is)
    have d_want_rows : K25.DefAtX KX mg "want_rows" K25.s_want_rows := by
      refine' K25.defat_mk KX G ?a ?l ?c ?k
      (case a => k_is)
      (case l => k_is)
      (case c => k_is)
      (case k => k_is)
    have d_want_text : K25.DefAtX KX mg "want_text" K25.s_want_text := by
      refine' K25.defat_mk KX G ?a ?l ?c ?k
      (case a => k_is)
      (case l => k_is)
      (case c => k_is)
      (case k => k_is)
    have d_is_row_of : K25.DefAtX KX mg "is_row_of" K25.s_is_row_of := by
      refine' K25.defat_mk KX G ?a ?l ?c ?k
      (case a => k_is)
      (case l => k_is)
      (case c => k_is)
      (case k => k_is)
    have d_want_row : K25.DefAtX KX mg "want_row" K25.s_want_row := by
      refine' K25.defat_mk KX G ?a ?l ?c ?k
      (case a => k_is)
      (case l => k_is)
      (case c => k_is)
      (case k => k_is)
    have d_want_way : K25.DefAtX KX mg "want_way" K25.s_want_way := by
      refine' K25.defat_mk KX G ?a ?l ?c ?k
      (case a => k_is)
      (case l => k_is)
      (case c => k_is)
      (case k => k_is)
    have d_grown_rows : K25.DefAtX KX mg "grown_rows" K25.s_grown_rows := by
      refine' K25.defat_mk KX G ?a ?l ?c ?k
      (case a => k_is)
      (case l => k_is)
      (case c => k_is)
      (case k => k_is)
    have d_later_row : K25.DefAtX KX mg "later_row" K25.s_later_row := by
      refine' K25.defat_mk KX G ?a ?l ?c ?k
      (case a => k_is)
      (case l => k_is)
      (case c => k_is)
      (case k => k_is)
    have d_later_rows : K25.DefAtX KX mg "later_rows" K25.s_later_rows := by
      refine' K25.defat_mk KX G ?a ?l ?c ?k
      (case a => k_is)
      (case l => k_is)
      (case c => k_is)
      (case k => k_is)
    have d_grown : K25.DefAtX KX mg "grown" K25.s_grown := by
      refine' K25.defat_mk KX G ?a ?l ?c ?k
      (case a => k_is)
      (case l => k_is)
      (case c => k_is)
      (case k => k_is)
    have d_moved : K25.DefAtX KX mg "moved" K25.s_moved := by
      refine' K25.defat_mk KX G ?a ?l ?c ?k
      (case a => k_is)
      (case l => k_is)
      (case c => k_is)
      (case k => k_is)
    have d_old_row : K25.DefAtX KX mg "old_row" K25.s_old_row := by
      refine' K25.defat_mk KX G ?a ?l ?c ?k
      (case a => k_is)
      (case l => k_is)
      (case c => k_is)
      (case k => k_is)
    have e_feed : K25.DefAtX KX mg "_law_feed" K25.s__law_feed := by
      refine' K25.defat_mk KX G ?a ?l ?c ?k
      (case a => k_is)
      (case l => k_is)
      (case c => k_is)
      (case k => k_is)
    have e_draw : K25.DefAtX KX mg "_law_draw" K25.s__law_draw := by
      refine' K25.defat_mk KX G ?a ?l ?c ?k
      (case a => k_is)
      (case l => k_is)
      (case c => k_is)
      (case k => k_is)
    have e_any : K25.DefAtX KX mg "_law_any" K25.s__law_any := by
      refine' K25.defat_mk KX G ?a ?l ?c ?k
      (case a => k_is)
      (case l => k_is)
      (case c => k_is)
      (case k => k_is)
    have e_scenes : K25.DefAtX KX mg "_law_scenes" K25.s__law_scenes := by
      refine' K25.defat_mk KX G ?a ?l ?c ?k
      (case a => k_is)
      (case l => k_is)
      (case c => k_is)
      (case k => k_is)
    have e_row : K25.DefAtX KX mg "_law_row" K25.s__law_row := by
      refine' K25.defat_mk KX G ?a ?l ?c ?k
      (case a => k_is)
      (case l => k_is)
      (case c => k_is)
      (case k => k_is)
    have e_menu : K25.DefAtX KX mg "_law_menu" K25.s__law_menu := by
      refine' K25.defat_mk KX G ?a ?l ?c ?k
      (case a => k_is)
      (case l => k_is)
      (case c => k_is)
      (case k => k_is)
    have e_text : K25.DefAtX KX mg "_law_text" K25.s__law_text := by
      refine' K25.defat_mk KX G ?a ?l ?c ?k
      (case a => k_is)
      (case l => k_is)
      (case c => k_is)
      (case k => k_is)
    have e_way : K25.DefAtX KX mg "_law_way" K25.s__law_way := by
      refine' K25.defat_mk KX G ?a ?l ?c ?k
      (case a => k_is)
      (case l => k_is)
      (case c => k_is)
      (case k => k_is)
    have e_grown : K25.DefAtX KX mg "_law_grown" K25.s__law_grown := by
      refine' K25.defat_mk KX G ?a ?l ?c ?k
      (case a => k_is)
      (case l => k_is)
      (case c => k_is)
      (case k => k_is)
    have e_heard : K25.DefAtX KX mg "_law_heard" K25.s__law_heard := by
      refine' K25.defat_mk KX G ?a ?l ?c ?k
      (case a => k_is)
      (case l => k_is)
      (case c => k_is)
      (case k => k_is)
    have e_same : K25.DefAtX KX mg "_law_same" K25.s__law_same := by
      refine' K25.defat_mk KX G ?a ?l ?c ?k
      (case a => k_is)
      (case l => k_is)
      (case c => k_is)
      (case k => k_is)
    have e_bad_texts : K25.DefAtX KX mg "_law_bad_texts" K25.s__law_bad_texts := by
      refine' K25.defat_mk KX G ?a ?l ?c ?k
      (case a => k_is)
      (case l => k_is)
      (case c => k_is)
      (case k => k_is)
    have e_bad_ways : K25.DefAtX KX mg "_law_bad_ways" K25.s__law_bad_ways := by
      refine' K25.defat_mk KX G ?a ?l ?c ?k
      (case a => k_is)
      (case l => k_is)
      (case c => k_is)
      (case k => k_is)
    have e_long : K25.DefAtX KX mg "_law_long" K25.s__law_long := by
      refine' K25.defat_mk KX G ?a ?l ?c ?k
      (case a => k_is)
      (case l => k_is)
      (case c => k_is)
      (case k => k_is)
    have e_long_right : K25.DefAtX KX mg "_law_long_right" K25.s__law_long_right := by
      refine' K25.defat_mk KX G ?a ?l ?c ?k
      (case a => k_is)
      (case l => k_is)
      (case c => k_is)
      (case k => k_is)
    have e_refused_right : K25.DefAtX KX mg "_law_refused_right" K25.s__law_refused_right := by
      refine' K25.defat_mk KX G ?a ?l ?c ?k
      (case a => k_is)
      (case l => k_is)
      (case c => k_is)
      (case k => k_is)
    have d_law : K25.DefAtX KX mg "law" K25.s_law := by
      refine' K25.defat_mk KX G ?a ?l ?c ?k
      (case a => k_is)
      (case l => k_is)
      (case c => k_is)
      (case k => k_is)
    have d_want : K25.WantX KX mg := by
      refine' K25.want_mk KX G ?a ?l ?c ?k ?t ?h
      (case a => k_is)
      (case l => k_is)
      (case c => k_is)
      (case k => k_is)
      (case t => k_is)
      (case h => exact ⟨_, _, rfl⟩)
    have nu : K25.NuQX KX PySem.Challenge.rw_surelywrong_k25_whole_grown_texts.prog mg := by
      refine' K25.nuq_mk KX G ?aC ?xC ?hbm ?sa ?noW ?noA ?iC ?tC ?kC ?exC ?veC ?tyC ?up ?me ?opq ?noS ?lI ?lc ?cI ?ld ?hv ?hf ?top ?gS ?ex ?x1 ?x2 ?x4 ?y5 ?y6 ?y7 ?y8 ?kit
      (case aC => (first | k_is | ks_is | kit_is | kts_exm | rfl | kernel_rfl | decide +kernel))
      (case xC => (first | k_is | ks_is | kit_is | kts_exm | rfl | kernel_rfl | decide +kernel))
      (case hbm => decide +kernel)
      (case sa => (first | k_is | ks_is | kit_is | kts_exm | rfl | kernel_rfl | decide +kernel))
      (case noW => (first | k_is | ks_is | kit_is | kts_exm | rfl | kernel_rfl | decide +kernel))
      (case noA => (first | k_is | ks_is | kit_is | kts_exm | rfl | kernel_rfl | decide +kernel))
      (case iC => (first | k_is | ks_is | kit_is | kts_exm | rfl | kernel_rfl | decide +kernel))
      (case tC => (first | k_is | ks_is | kit_is | kts_exm | rfl | kernel_rfl | decide +kernel))
      (case kC => (first | k_is | ks_is | kit_is | kts_exm | rfl | kernel_rfl | decide +kernel))
      (case exC => (first | k_is | ks_is | kit_is | kts_exm | rfl | kernel_rfl | decide +kernel))
      (case veC => (first | k_is | ks_is | kit_is | kts_exm | rfl | kernel_rfl | decide +kernel))
      (case tyC => (first | k_is | ks_is | kit_is | kts_exm | rfl | kernel_rfl | decide +kernel))
      (case up => (first | k_is | ks_is | kit_is | kts_exm | rfl | kernel_rfl | decide +kernel))
      (case me => (first | k_is | ks_is | kit_is | kts_exm | rfl | kernel_rfl | decide +kernel))
      (case opq => (first | k_is | ks_is | kit_is | kts_exm | rfl | kernel_rfl | decide +kernel))
      (case noS => (first | k_is | ks_is | kit_is | kts_exm | rfl | kernel_rfl | decide +kernel))
      (case lI => (first | k_is | ks_is | kit_is | kts_exm | rfl | kernel_rfl | decide +kernel))
      (case lc => (first | k_is | ks_is | kit_is | kts_exm | rfl | kernel_rfl | decide +kernel))
      (case cI => (first | k_is | ks_is | kit_is | kts_exm | rfl | kernel_rfl | decide +kernel))
      (case ld => (first | k_is | ks_is | kit_is | kts_exm | rfl | kernel_rfl | decide +kernel))
      (case hv => rfl)
      (case hf => (first | rfl | kernel_rfl | decide +kernel))
      (case top => (first | rfl | kernel_rfl | decide +kernel))
      (case gS => (first | k_is | ks_is | kit_is | kts_exm | rfl | kernel_rfl | decide +kernel))
      (case ex => (first | k_is | ks_is | kit_is | kts_exm | rfl | kernel_rfl | decide +kernel))
      (case x1 => (first | k_is | ks_is | kit_is | kts_exm | rfl | kernel_rfl | decide +kernel))
      (case x2 => (first | k_is | ks_is | kit_is | kts_exm | rfl | kernel_rfl | decide +kernel))
      (case x4 => (first | k_is | ks_is | kit_is | kts_exm | rfl | kernel_rfl | decide +kernel))
      (case y5 => (first | k_is | ks_is | kit_is | kts_exm | rfl | kernel_rfl | decide +kernel))
      (case y6 => (first | k_is | ks_is | kit_is | kts_exm | rfl | kernel_rfl | decide +kernel))
      (case y7 => (first | k_is | ks_is | kit_is | kts_exm | rfl | kernel_rfl | decide +kernel))
      (case y8 => (first | k_is | ks_is | kit_is | kts_exm | rfl | kernel_rfl | decide +kernel))
      (case kit => (first | k_is | ks_is | kit_is | kts_exm | rfl | kernel_rfl | decide +kernel))
    obtain ⟨C, fI, cc, SE, nu, g1, g2, g3, g4, g5⟩ := nu
    exact ⟨C, fI, cc, SE, ⟨⟨⟨⟨⟨n_isinstance, n_len, n_all, n_zip, n_int, n_bool, n_str, n_tuple, c1, c2, d_is_integer, d_is_number, d_is_name, d_is_kind, d_is_pair, d_is_sort, d_is_row, d_is_text, d_is_gaps, d_is_way⟩, nu, n_enumerate, d_want, d_want_rows, d_want_text, d_is_row_of, d_want_row, d_want_way⟩, n_dict, n_range, n_sum, d_grown_rows, d_later_row, d_later_rows, d_grown, d_moved, d_old_row⟩, n_list, n_repr, n_max, n_sorted, n_set, e_feed, e_draw, e_any, e_scenes, e_row, e_menu, e_text, e_way, e_grown, e_heard, e_same, e_bad_texts, e_bad_ways, e_long, e_long_right, e_refused_right⟩, g1, g2, g3, g4, g5⟩, d_law⟩
  case TF =>
    intro w
    refine' K25.tabf_mk ?a1 ?l1 ?h1 ?m1 ?p1 ?a2 ?l2 ?h2 ?m2 ?p2 ?ne ?n1 ?n2 ?r1 ?r2
    (case a1 => k_is)
    (case l1 => k_is)
    (case h1 => rfl)
    (case m1 => k_is)
    (case p1 => rfl)
    (case a2 => k_is)
    (case l2 => k_is)
    (case h2 => rfl)
    (case m2 => k_is)
    (case p2 => rfl)
    (case ne => decide)
    (case n1 => (first | rfl | kernel_rfl))
    (case n2 => (first | rfl | kernel_rfl))
    (case r1 => (first | rfl | kernel_rfl | decide +kernel))
    (case r2 => (first | rfl | kernel_rfl | decide +kernel))
