import PyProof.Rows.All
import Wide.All
import OpenK.AllK
import Wide.FinOn
import HandS.ForMost
import HandS.Steps
import HandS.Style
import HandS.Star
import HandS.Wide
import HandS.IsInst
import HandS.Zip
import HandS.Codes
import HandS.SetFor
import HandS.Strs
import HandS.Zip0
import HandS.SortRule
import HandS.SortInts
import HandS.TupAny
import HandS.DictComp
import KE.GoesEnum
import KE.KDictZip
import HandS.Walk
import PySem.PyData
import PyProof.Lay0
import KE.KBits
import PySem.Challenge.RW_buswindows_k31_whole_fewer_and_smaller
set_option Elab.async false
set_option linter.all false
set_option maxRecDepth 100000
set_option maxHeartbeats 8000000
/-! heaps that grow, data of tuples, readings step by step -/
namespace Bw
open PySem PySem.Spec PyProof.Rows L2

/-! ### heaps: what stood stands, but what M names may have changed; tuples never change -/
structure Ext (M : List Addr) (H H' : Hp) : Prop where
  tup : ∀ a xs, H a = some (.tup xs) → H' a = some (.tup xs)
  oth : ∀ a o, H a = some o → a ∉ M → H' a = some o
  dom : ∀ a, H' a = none → H a = none
theorem Ext.refl {M : List Addr} {H : Hp} : Ext M H H := ⟨fun _ _ h => h, fun _ _ h _ => h, fun _ h => h⟩
theorem Ext.comp {M M1 : List Addr} {H H1 H2 : Hp} (e : Ext M H H1) (f : Ext M1 H1 H2) (h : ∀ a ∈ M1, a ∈ M ∨ H a = none) : Ext M H H2 :=
  ⟨fun a xs q => f.tup a xs (e.tup a xs q), fun a o q n => f.oth a o (e.oth a o q n) (fun z => by
    rcases h a z with k | k
    · exact n k
    · rw [k] at q; cases q), fun a q => e.dom a (f.dom a q)⟩
theorem Ext.trans {M : List Addr} {H H1 H2 : Hp} (e : Ext M H H1) (f : Ext M H1 H2) : Ext M H H2 := e.comp f fun _ h => .inl h
theorem Ext.then0 {M : List Addr} {H H1 H2 : Hp} (e : Ext M H H1) (f : Ext [] H1 H2) : Ext M H H2 := e.comp f fun _ h => nomatch h
theorem Ext.mono {M M' : List Addr} {H H1 : Hp} (e : Ext M H H1) (h : ∀ a ∈ M, a ∈ M') : Ext M' H H1 := ⟨e.tup, fun a o q n => e.oth a o q fun z => n (h a z), e.dom⟩
theorem Ext.mono0 {M : List Addr} {H H1 : Hp} (e : Ext [] H H1) : Ext M H H1 := e.mono fun _ z => nomatch z
theorem Ext.c1 {M : List Addr} {a : Addr} {H H1 H2 : Hp} (e : Ext M H H1) (f : Ext [a] H1 H2) (h : H a = none) : Ext M H H2 := e.comp f fun x hx => .inr (by rw [List.mem_singleton.mp hx]; exact h)
theorem Ext.cm {M : List Addr} {a : Addr} {H H1 H2 : Hp} (e : Ext M H H1) (f : Ext [a] H1 H2) (h : a ∈ M) : Ext M H H2 := e.comp f fun x hx => .inl (by rw [List.mem_singleton.mp hx]; exact h)
theorem Ext.new {H : Hp} {p : Addr} {o : HO} {M : List Addr} (h : H p = none) : Ext M H (upd H p o) :=
  ⟨fun a xs q => (by rw [upd_ne (ne_of_none q h)]; exact q), fun a u q _ => (by rw [upd_ne (ne_of_none q h)]; exact q), fun a q => by
    by_cases e : a = p
    · rw [e]; exact h
    · rw [upd_ne e] at q; exact q⟩
theorem Ext.mut {H : Hp} {p : Addr} {o : HO} (h : ∀ xs, H p ≠ some (.tup xs)) (hd : H p ≠ none) : Ext [p] H (upd H p o) :=
  ⟨fun a xs q => (by
    have n : a ≠ p := fun e => h xs (by rw [← e]; exact q)
    rw [upd_ne n]; exact q), fun a u q n => (by
    have n : a ≠ p := fun e => n (by rw [e]; exact List.mem_cons_self)
    rw [upd_ne n]; exact q), fun a q => by
    by_cases e : a = p
    · rw [e, upd_same] at q; cases q
    · rw [upd_ne e] at q; exact q⟩
theorem Ext.mutL {H : Hp} {p : Addr} {xs : List V} {o : HO} (h : H p = some (.lst xs)) : Ext [p] H (upd H p o) := Ext.mut (fun ys q => by rw [h] at q; cases q) (by rw [h]; intro z; cases z)
theorem Ext.mutD {H : Hp} {p : Addr} {kvs : List (Key × V)} {o : HO} (h : H p = some (.dK kvs)) : Ext [p] H (upd H p o) := Ext.mut (fun ys q => by rw [h] at q; cases q) (by rw [h]; intro z; cases z)
theorem Ext.free {M : List Addr} {H H' : Hp} (e : Ext M H H') {p : Addr} (h : H' p = none) : H p = none := e.dom p h
theorem Ext.at {M : List Addr} {H H' : Hp} (e : Ext M H H') {p : Addr} {o : HO} (h : H p = some o) (n : p ∉ M) : H' p = some o := e.oth p o h n
theorem Ext.at0 {H H' : Hp} (e : Ext [] H H') {p : Addr} {o : HO} (h : H p = some o) : H' p = some o := e.oth p o h (fun z => nomatch z)
theorem Ext.tupC {a : Addr} {M : List Addr} {H H' : Hp} (e : Ext (a :: M) H H') {p : Addr} {xs : List V} (h : H p = some (.tup xs)) : H' p = some (.tup xs) := e.tup p xs h
theorem Ext.atC {a : Addr} {M : List Addr} {H H' : Hp} (e : Ext (a :: M) H H') {p : Addr} {o : HO} (h : H p = some o) (n : p ∉ a :: M) : H' p = some o := e.oth p o h n
theorem Ext.transC {a : Addr} {M : List Addr} {H H1 H2 : Hp} (e : Ext (a :: M) H H1) (f : Ext (a :: M) H1 H2) : Ext (a :: M) H H2 := e.trans f
theorem dom_step {M : List Addr} {H H1 H2 : Hp} (e : Ext M H1 H2) (h : ∀ a, H1 a = none → H a = none) : ∀ a, H2 a = none → H a = none := fun a q => h a (e.dom a q)
theorem fr_of {H H' : Hp} {a : Addr} (h : H' a = none) (d : ∀ a, H' a = none → H a = none) : H a = none := d a h
theorem Ext.same {H H' : Hp} (e : Ext [] H H') : Same H H' := fun b o h => e.at0 h
theorem ne_some {H : Hp} {a b : Addr} {o : HO} (h : H a = some o) (h' : H b = none) : a ≠ b := ne_of_none h h'

/-! ### data: none, bools, ints, texts, tuples of such -/
mutual
inductive Dt (H : Hp) : V → PyData → Prop
  | non : Dt H .non .none
  | bl (b : Bool) : Dt H (.bl b) (.bool b)
  | int (i : Int) : Dt H (.int i) (.int i)
  | str (x : Str) : Dt H (.str x) (.str x)
  | tup {a : Addr} {xs : List V} {ds : List PyData} : H a = some (.tup xs) → DtAll H xs ds → Dt H (.ref a) (.tuple ds)
inductive DtAll (H : Hp) : List V → List PyData → Prop
  | nil : DtAll H [] []
  | cons {v : V} {vs : List V} {d : PyData} {ds : List PyData} : Dt H v d → DtAll H vs ds → DtAll H (v :: vs) (d :: ds)
end
section
variable {H H' : Hp} {M : List Addr} {K : PySem.W.Frag}
mutual
theorem Dt.ext (e : Ext M H H') : ∀ {d : PyData} {v : V}, Dt H v d → Dt H' v d
  | .none, _, h => by cases h; exact .non
  | .bool _, _, h => by cases h; exact .bl _
  | .int _, _, h => by cases h; exact .int _
  | .str _, _, h => by cases h; exact .str _
  | .list _, _, h => by cases h
  | .tuple ds, _, h => by
    cases h with
    | tup h1 h2 => exact .tup (e.tup _ _ h1) (DtAll.ext e h2)
  | .dict _, _, h => by cases h
theorem DtAll.ext (e : Ext M H H') : ∀ {ds : List PyData} {vs : List V}, DtAll H vs ds → DtAll H' vs ds
  | [], _, h => by cases h; exact .nil
  | d :: ds, _, h => by
    cases h with
    | cons h1 h2 => exact .cons (Dt.ext e h1) (DtAll.ext e h2)
end
mutual
theorem Dt.dp : ∀ {d : PyData} {v : V}, Dt H v d → Dp K H v d
  | .none, _, h => by cases h; exact .non
  | .bool _, _, h => by cases h; exact .bl _
  | .int _, _, h => by cases h; exact .int _
  | .str _, _, h => by cases h; exact .str _
  | .list _, _, h => by cases h
  | .tuple ds, _, h => by
    cases h with
    | tup h1 h2 => exact .tup (SqT.of h1) (DtAll.dp h2)
  | .dict _, _, h => by cases h
theorem DtAll.dp : ∀ {ds : List PyData} {vs : List V}, DtAll H vs ds → DpAll K H vs ds
  | [], _, h => by cases h; exact .nil
  | d :: ds, _, h => by
    cases h with
    | cons h1 h2 => exact .cons (Dt.dp h1) (DtAll.dp h2)
end
theorem Dt.non_eq {v : V} (h : Dt H v .none) : v = .non := by cases h; rfl
theorem Dt.bl_eq {v : V} {b : Bool} (h : Dt H v (.bool b)) : v = .bl b := by cases h; rfl
theorem Dt.int_eq {v : V} {i : Int} (h : Dt H v (.int i)) : v = .int i := by cases h; rfl
theorem Dt.str_eq {v : V} {x : Str} (h : Dt H v (.str x)) : v = .str x := by cases h; rfl
theorem Dt.tupE {v : V} {ds : List PyData} (h : Dt H v (.tuple ds)) : ∃ a xs, v = .ref a ∧ H a = some (.tup xs) ∧ DtAll H xs ds := by
  cases h with
  | tup h1 h2 => exact ⟨_, _, rfl, h1, h2⟩
theorem DtAll.len : ∀ {ds : List PyData} {vs : List V}, DtAll H vs ds → vs.length = ds.length
  | [], _, h => by cases h; rfl
  | d :: ds, _, h => by
    cases h with
    | cons h1 h2 => rw [List.length_cons, List.length_cons, DtAll.len h2]
theorem DtAll.get : ∀ {ds : List PyData} {vs : List V} {i : Nat} {d : PyData}, DtAll H vs ds → ds[i]? = some d → ∃ v, vs[i]? = some v ∧ Dt H v d
  | [], _, _, _, h, e => by simp at e
  | d :: ds, _, 0, d', h, e => by
    cases h with
    | cons h1 h2 =>
      have e' : d = d' := Option.some.inj e
      exact ⟨_, rfl, e' ▸ h1⟩
  | d :: ds, _, i + 1, d', h, e => by
    cases h with
    | cons h1 h2 =>
      obtain ⟨v, q1, q2⟩ := DtAll.get (i := i) h2 (by simpa using e)
      exact ⟨v, by simpa using q1, q2⟩
theorem DtAll.getV : ∀ {ds : List PyData} {vs : List V} {i : Nat} {v : V}, DtAll H vs ds → vs[i]? = some v → ∃ d, ds[i]? = some d ∧ Dt H v d
  | [], _, _, _, h, e => by cases h; simp at e
  | d :: ds, _, 0, v', h, e => by
    cases h with
    | cons h1 h2 =>
      have e' := Option.some.inj e
      exact ⟨_, rfl, e' ▸ h1⟩
  | d :: ds, _, i + 1, v', h, e => by
    cases h with
    | cons h1 h2 =>
      obtain ⟨v, q1, q2⟩ := DtAll.getV (i := i) h2 (by simpa using e)
      exact ⟨v, by simpa using q1, q2⟩
theorem DtAll.append : ∀ {ds es : List PyData} {vs ws : List V}, DtAll H vs ds → DtAll H ws es → DtAll H (vs ++ ws) (ds ++ es)
  | [], _, _, _, h, k => by cases h; exact k
  | d :: ds, _, _, _, h, k => by
    cases h with
    | cons h1 h2 => exact .cons h1 (DtAll.append h2 k)
theorem DtAll.one {v : V} {d : PyData} (h : Dt H v d) : DtAll H [v] [d] := .cons h .nil
theorem DtAll.two {v w : V} {d e : PyData} (h : Dt H v d) (k : Dt H w e) : DtAll H [v, w] [d, e] := .cons h (.cons k .nil)
theorem DtAll.ints : ∀ {ns : List Int}, DtAll H (ns.map V.int) (ns.map PyData.int)
  | [] => .nil
  | n :: r => .cons (.int n) DtAll.ints
theorem DtAll.ints_eq : ∀ {ns : List Int} {vs : List V}, DtAll H vs (ns.map PyData.int) → vs = ns.map V.int
  | [], _, h => by cases h; rfl
  | n :: r, _, h => by
    cases h with
    | cons h1 h2 => rw [h1.int_eq, DtAll.ints_eq h2]; rfl
end
/-- the item at a place of data -/
theorem atI_of {α : Type} {xs : List α} {i : Int} {j : Nat} {v : α} (e : i = (j : Int)) (h : xs[j]? = some v) : atI xs i = some v := by
  rw [e]; exact atI_nat h

/-! ### readings, one step each -/
section
variable {K : PySem.W.Frag} {w : World} {X : Cx} {σ σ' : L2.St} {H : Hp} {Q : VK} {QB : Bool → Hp → Prop} {QA : List V → Hp → Prop} {v x y : V} {i j : Int} {n : Nat} {b c : Bool} {g : Int → Int → V} {C : Int → Int → Prop} {r : R2} {ta tb tc te : TE} {tt tu : TT} {tA : TA} {ts tz : TS} {nx : L2.St → Hp → Prop} {rt : VK} {bk ct : L2.St → Hp → Prop} {D : Ends}
theorem s_var (h : σ[n]? = some (some v)) (q : Q v H) : tVar n σ H Q := ⟨v, h, q⟩
theorem s_c (q : Q v H) : tC v σ H Q := q
theorem s_op (q : ta σ H fun x H1 => tb σ H1 fun y H2 => r x y H2 Q) : tOp r ta tb σ H Q := q
theorem s_un {u : V → Hp → VK → Prop} (q : ta σ H fun x H1 => u x H1 Q) : tUn u ta σ H Q := q
theorem s_U {f : Int → V} (q : Q (f i) H) : rU f (.int i) H Q := ⟨i, rfl, q⟩
theorem s_I0 (q : Q (g i j) H) : rI0 g (.int i) (.int j) H Q := ⟨i, j, rfl, rfl, q⟩
theorem s_I (h : C i j) (q : Q (g i j) H) : rI C g (.int i) (.int j) H Q := ⟨i, j, rfl, rfl, h, q⟩
theorem dec_congr {p q : Prop} [Decidable p] [Decidable q] (h : p ↔ q) : decide p = decide q := by
  by_cases a : p
  · rw [decide_eq_true a, decide_eq_true (h.mp a)]
  · rw [decide_eq_false a, decide_eq_false fun z => a (h.mpr z)]
theorem s_eqI (q : Q (.bl (decide (i = j))) H) : rEq (.int i) (.int j) H Q := ⟨rfl, by rw [dec_congr (show V.int i = V.int j ↔ i = j from ⟨fun z => V.int.inj z, fun z => by rw [z]⟩)]; exact q⟩
theorem s_eqS {s t : Str} (q : Q (.bl (decide (s = t))) H) : rEq (.str s) (.str t) H Q := ⟨rfl, by rw [dec_congr (show V.str s = V.str t ↔ s = t from ⟨fun z => V.str.inj z, fun z => by rw [z]⟩)]; exact q⟩
theorem s_eqB (q : Q (.bl (decide (b = c))) H) : rEq (.bl b) (.bl c) H Q := ⟨rfl, by rw [dec_congr (show V.bl b = V.bl c ↔ b = c from ⟨fun z => V.bl.inj z, fun z => by rw [z]⟩)]; exact q⟩
theorem s_neI (q : Q (.bl (!decide (i = j))) H) : rNe (.int i) (.int j) H Q := ⟨rfl, by rw [dec_congr (show V.int i = V.int j ↔ i = j from ⟨fun z => V.int.inj z, fun z => by rw [z]⟩)]; exact q⟩
theorem s_neS {s t : Str} (q : Q (.bl (!decide (s = t))) H) : rNe (.str s) (.str t) H Q := ⟨rfl, by rw [dec_congr (show V.str s = V.str t ↔ s = t from ⟨fun z => V.str.inj z, fun z => by rw [z]⟩)]; exact q⟩
theorem s_neB (q : Q (.bl (!decide (b = c))) H) : rNe (.bl b) (.bl c) H Q := ⟨rfl, by rw [dec_congr (show V.bl b = V.bl c ↔ b = c from ⟨fun z => V.bl.inj z, fun z => by rw [z]⟩)]; exact q⟩
theorem s_isN (q : Q (.bl (decide (x = .non))) H) : rIsN x .non H Q := ⟨rfl, q⟩
theorem s_notN (q : Q (.bl (!decide (x = .non))) H) : rNotN x .non H Q := ⟨rfl, q⟩
theorem s_isN1 (q : Q (.bl true) H) : rIsN .non .non H Q := ⟨rfl, q⟩
theorem s_isN0 {a : Addr} (q : Q (.bl false) H) : rIsN (.ref a) .non H Q := ⟨rfl, q⟩
theorem s_notN1 (q : Q (.bl false) H) : rNotN .non .non H Q := ⟨rfl, q⟩
theorem s_notN0 {a : Addr} (q : Q (.bl true) H) : rNotN (.ref a) .non H Q := ⟨rfl, q⟩
theorem s_isBl (q : Q (.bl (decide (b = c))) H) : rIsB (.bl b) (.bl c) H Q := ⟨b, c, rfl, rfl, q⟩
theorem s_notBl (q : Q (.bl (!decide (b = c))) H) : rNotB (.bl b) (.bl c) H Q := ⟨b, c, rfl, rfl, q⟩
theorem s_test (q : ta σ H fun x H' => ∃ k, x = .bl k ∧ QB k H') : tTest ta σ H QB := q
theorem s_B (q : ta σ H fun x H' => ∃ k, x = .bl k ∧ QB k H') : tB ta σ H QB := q
theorem s_bl {F : Bool → Prop} (q : F b) : ∃ k, V.bl b = .bl k ∧ F k := ⟨b, rfl, q⟩
theorem s_and (q : tt σ H fun c H1 => if c = true then tu σ H1 QB else QB false H1) : tAnd tt tu σ H QB := q
theorem s_or (q : tt σ H fun c H1 => if c = true then QB true H1 else tu σ H1 QB) : tOr tt tu σ H QB := q
theorem s_not (q : tt σ H fun c H1 => QB (!c) H1) : tNot tt σ H QB := q
theorem s_andV (q : ta σ H fun x H1 => ∃ c, x = .bl c ∧ if c = true then tb σ H1 Q else Q (.bl false) H1) : tAndV ta tb σ H Q := q
theorem s_orV (q : ta σ H fun x H1 => ∃ c, x = .bl c ∧ if c = true then Q (.bl true) H1 else tb σ H1 Q) : tOrV ta tb σ H Q := q
theorem s_notV (q : ta σ H fun x H1 => ∃ c, x = .bl c ∧ Q (.bl (!c)) H1) : tNotV ta σ H Q := q
theorem s_ifE (q : tt σ H fun c H1 => if c = true then ta σ H1 Q else tb σ H1 Q) : tIf tt ta tb σ H Q := q
theorem s_chain {r' : R2} (q : ta σ H fun x H1 => tb σ H1 fun y H2 => r x y H2 fun z H3 => ∃ k, z = .bl k ∧ (if k = true then tc σ H3 fun w' H4 => r' y w' H4 Q else Q (.bl false) H3)) : tChain r r' ta tb tc σ H Q := q
theorem s_next (q : nx σ H) : tNext ⟨nx, rt, bk, ct⟩ σ H := q
theorem s_seq (q : ts ⟨tz ⟨nx, rt, bk, ct⟩, rt, bk, ct⟩ σ H) : tSeq ts tz ⟨nx, rt, bk, ct⟩ σ H := q
theorem s_drop (q : te σ H fun _ H1 => nx σ H1) : tDrop te ⟨nx, rt, bk, ct⟩ σ H := q
theorem s_ret (q : te σ H rt) : tRet te ⟨nx, rt, bk, ct⟩ σ H := q
theorem s_retN (q : rt .non H) : tRetN ⟨nx, rt, bk, ct⟩ σ H := q
theorem s_ifS (q : tt σ H fun b H1 => if b = true then ts ⟨nx, rt, bk, ct⟩ σ H1 else tz ⟨nx, rt, bk, ct⟩ σ H1) : tIfS tt ts tz ⟨nx, rt, bk, ct⟩ σ H := q
theorem s_asg {gt : TG} (q : te σ H fun x H1 => gt x σ H1 nx) : tAsg te gt ⟨nx, rt, bk, ct⟩ σ H := q
theorem s_name (h : σ.set n (some v) = σ') (q : nx σ' H) : gName n v σ H nx := by unfold gName; rw [h]; exact q
theorem s_par {F : V → V → Prop} (q : F x y) : ∃ v w, [x, y] = [v, w] ∧ F v w := ⟨x, y, rfl, q⟩
theorem s_nx {σ0 : L2.St} (h : σ0 = σ') (q : nx σ' H) : Ends.nx ⟨nx, rt, bk, ct⟩ σ0 H := by rw [h]; exact q
theorem s_parS {m : Nat} (q : tA σ H fun vs H1 => ∃ v w, vs = [v, w] ∧ Ends.nx ⟨nx, rt, bk, ct⟩ ((σ.set n (some v)).set m (some w)) H1) : tPar n m tA ⟨nx, rt, bk, ct⟩ σ H := q
theorem s_gnil (q : nx σ H) : gNil [] σ H nx := ⟨rfl, q⟩
theorem s_gcons {gt : TG} {gs : TGs} {vs : List V} (q : gt v σ H fun σ' H' => gs vs σ' H' nx) : gCons gt gs (v :: vs) σ H nx := ⟨v, vs, rfl, q⟩
theorem s_gtup {a : Addr} {xs : List V} {gs : TGs} (h : H a = some (.tup xs)) (hl : xs.length = n) (q : gs xs σ H nx) : gTup K n gs (.ref a) σ H nx := ⟨a, xs, rfl, SqT.of h, hl, q⟩
theorem s_gtupD {ds : List PyData} {gs : TGs} (h : Dt H v (.tuple ds)) (hl : ds.length = n) (q : ∀ xs, DtAll H xs ds → gs xs σ H nx) : gTup K n gs v σ H nx := by
  obtain ⟨a, xs, rfl, ha, hs⟩ := h.tupE
  exact ⟨a, xs, rfl, SqT.of ha, by rw [hs.len]; exact hl, q xs hs⟩
theorem s_gsub {t1 t2 : TE} {t : TSet} (q : t1 σ H fun o H1 => t2 σ H1 fun i H2 => t o i v H2 fun H3 => nx σ H3) : gSub t1 t2 t v σ H nx := q
theorem s_call {sp : Sp} {E : XK} (q : tA σ H fun vs H1 => sp (vs ++ []) H1 Q E) : tCall sp [] E tA σ H Q := q
theorem s_cb {rc : List V → Hp → VK → Prop} (q : tA σ H fun vs H1 => rc vs H1 Q) : tCB rc tA σ H Q := q
theorem s_nil (q : QA [] H) : tNil σ H QA := q
theorem s_cons (q : te σ H fun x H1 => tA σ H1 fun xs H2 => QA (x :: xs) H2) : tCons te tA σ H QA := q
def NewX (n : Nat) (o : HO) (H : Hp) (Q : VK) : Prop := n ≤ sizeLine ∧ ∀ p, H p = none → Q (.ref p) (upd H p o)
theorem s_tupT (q : tA σ H fun xs H1 => NewX xs.length (.tup xs) H1 Q) : tTup tA σ H Q := q
theorem s_lstT (q : tA σ H fun xs H1 => NewX xs.length (.lst xs) H1 Q) : tLst tA σ H Q := q
theorem s_new {o : HO} (q : ∀ p H', H p = none → Ext [] H H' → H' p = some o → Q (.ref p) H') : ∀ p, H p = none → Q (.ref p) (upd H p o) := fun p h => q p _ h (Ext.new h) upd_same
theorem s_newX {o : HO} {n : Nat} (hl : n ≤ sizeLine) (q : ∀ p H', H p = none → Ext [] H H' → H' p = some o → Q (.ref p) H') : NewX n o H Q := ⟨hl, s_new q⟩
theorem s_sl {rs : V → Option Int → Option Int → Hp → VK → Prop} {t1 t2 : TO} (q : te σ H fun x H1 => t1 σ H1 fun l H2 => t2 σ H2 fun u H3 => rs x l u H3 Q) : tSl rs te t1 t2 σ H Q := q
theorem s_nopart {QO : Option Int → Hp → Prop} (q : QO none H) : tNoPart σ H QO := q
theorem s_part {QO : Option Int → Hp → Prop} (q : te σ H fun x H1 => ∃ i, x = .int i ∧ QO (some i) H1) : tPart te σ H QO := q
theorem s_int {F : Int → Prop} (q : F i) : ∃ j, V.int i = .int j ∧ F j := ⟨i, rfl, q⟩
theorem s_bm {T : String} {rm : V → List V → Hp → VK → Prop} (q : te σ H fun x H1 => tyV K T x H1 ∧ tA σ H1 fun xs H2 => rm x xs H2 Q) : tBM K T rm te tA σ H Q := q
theorem s_tyL {a : Addr} {xs : List V} {P : Prop} (h : H a = some (.lst xs)) (q : P) : tyV K "list" (.ref a) H ∧ P := ⟨.inl ⟨rfl, _, SqL.of h⟩, q⟩
/-! subscripts -/
theorem s_ixL {a : Addr} {xs : List V} (h : H a = some (.lst xs)) (e : atI xs i = some v) (q : Q v H) : rIxL K (.ref a) (.int i) H Q := ⟨a, xs, i, v, rfl, rfl, SqL.of h, e, q⟩
theorem s_ixT {a : Addr} {xs : List V} (h : H a = some (.tup xs)) (e : atI xs i = some v) (q : Q v H) : rIxT K (.ref a) (.int i) H Q := ⟨a, xs, i, v, rfl, rfl, SqT.of h, e, q⟩
theorem ixN_lt {m : Nat} {k : Nat} (h : ixN m i = some k) : k < m := (ixN_seq h).2.1
theorem s_ixD {ds : List PyData} {d : PyData} (h : Dt H x (.tuple ds)) (e : atI ds i = some d) (q : ∀ v, Dt H v d → Q v H) : rIxT K x (.int i) H Q := by
  obtain ⟨a, xs, rfl, ha, hs⟩ := h.tupE
  unfold atI at e
  cases hk : ixN ds.length i with
  | none => rw [hk] at e; cases e
  | some k =>
    rw [hk] at e
    obtain ⟨v, hv, hd⟩ := hs.get (show ds[k]? = some d from e)
    refine ⟨a, xs, i, v, rfl, rfl, SqT.of ha, ?_, q v hd⟩
    unfold atI
    rw [hs.len, hk]
    exact hv
theorem s_ixDs {ds : List PyData} {s : Str} (h : Dt H x (.tuple ds)) (e : atI ds i = some (.str s)) (q : Q (.str s) H) : rIxT K x (.int i) H Q := s_ixD h e fun v hv => by rw [hv.str_eq]; exact q
theorem s_ixDi {ds : List PyData} {k : Int} (h : Dt H x (.tuple ds)) (e : atI ds i = some (.int k)) (q : Q (.int k) H) : rIxT K x (.int i) H Q := s_ixD h e fun v hv => by rw [hv.int_eq]; exact q
theorem s_dget {td ty : TE} (q : td σ H fun x H1 => ty σ H1 fun y H2 => ∃ a v, x = .ref a ∧ DGet H2 a y (some v) ∧ Q v H2) : tDGet td ty σ H Q := q
theorem s_dgetK {F : V → Prop} {a : Addr} {kvs : List (Key × V)} {k : Key} (h : H a = some (.dK kvs)) (hy : y = kV k) (e : valV kvs k = some v) (q : F v) : ∃ a' v', V.ref a = .ref a' ∧ DGet H a' y (some v') ∧ F v' := ⟨a, v, rfl, by rw [← e, hy]; exact DGet.k h, q⟩
theorem s_dputS {td ty tv : TE} (q : tv σ H fun v H1 => td σ H1 fun x H2 => ty σ H2 fun y H3 => ∃ a H4, x = .ref a ∧ DPut H3 a y v H4 ∧ nx σ H4) : sDPut td ty tv ⟨nx, rt, bk, ct⟩ σ H := q
theorem s_dputK {F : Hp → Prop} {a : Addr} {kvs : List (Key × V)} {k : Key} (h : H a = some (.dK kvs)) (hy : y = kV k) (hl : kvs.length < sizeLine) (q : ∀ H', Ext [a] H H' → H' a = some (.dK (putK kvs k v)) → F H') : ∃ a' H4, V.ref a = .ref a' ∧ DPut H a' y v H4 ∧ F H4 :=
  ⟨a, _, rfl, by rw [hy]; exact DPut.k h hl, q _ (Ext.mutD h) upd_same⟩
/-! built-ins -/
theorem s_sumL {a : Addr} {ns : List Int} (h : H a = some (.lst (ns.map V.int))) (q : Q (.int ns.sum) H) : rSum K [.ref a] H Q := ⟨a, ns, rfl, SqL.of h, q⟩
theorem s_allL {a : Addr} {bs : List Bool} (h : H a = some (.lst (bs.map V.bl))) (q : Q (.bl (bs.all id)) H) : rAll K [.ref a] H Q := ⟨a, bs, rfl, SqL.of h, q⟩
theorem s_anyL {a : Addr} {bs : List Bool} (h : H a = some (.lst (bs.map V.bl))) (q : Q (.bl (bs.any id)) H) : rAny K [.ref a] H Q := ⟨a, bs, rfl, SqL.of h, q⟩
theorem s_append {a : Addr} {xs : List V} (h : H a = some (.lst xs)) (hl : xs.length < sizeLine) (q : ∀ H', Ext [a] H H' → H' a = some (.lst (xs ++ [v])) → Q .non H') : rAppend (.ref a) [v] H Q := ⟨a, xs, v, rfl, rfl, h, hl, q _ (Ext.mutL h) upd_same⟩
theorem s_extend {a p : Addr} {xs zs : List V} (h : H a = some (.lst xs)) (hp : H p = some (.lst zs)) (hl : xs.length + zs.length ≤ sizeLine) (q : ∀ H', Ext [a] H H' → H' a = some (.lst (xs ++ zs)) → Q .non H') : rExtend (.ref a) [.ref p] H Q := ⟨a, p, xs, zs, rfl, rfl, h, hp, hl, q _ (Ext.mutL h) upd_same⟩
end
/-! isinstance -/
theorem isi_of {K : PySem.W.Frag} {H : Hp} {x : V} {a b : String} {r : Bool} {Q : VK} (t : TyX K H x (.type a)) (h : kitB a b = some r) (q : Q (.bl r) H) : rIsi K [x, .ty b] H Q := ⟨x, .ty b, .type a, .type b, r, rfl, .ty b, t, kit_ty h, q⟩
end Bw

/-! rules that the layer has not: set(tuple of ints) as a value, enumerate over a tuple, zip of a list and a tuple, zip to one name -/
namespace Bw
open PySem PySem.Spec PyProof.Rows L2

/-! ### set(t), t a tuple of ints -/
def rSetT (K : PySem.W.Frag) (w : World) : List V → Hp → VK → Prop := fun vs H Q => ∃ (p : Addr) (ns : List Int), vs = [.ref p] ∧ SqT K H p (ns.map V.int) ∧ ns.length ≤ 1000 ∧
  ∀ (q : Addr) (c : Nat), c ≤ ns.length → H q = none → Q (.ref q) (upd H q (SetO w q (fun j => decide (j ∈ ns)) c))
theorem cr_setT {X : Cx} (hc : X.calm = true) : CallR X (.type "set") (rSetT X.K X.w) := by
  intro pins s σ H vs us Q I r h
  obtain ⟨p, ns, rfl, hs, hz, q⟩ := h
  rw [Vals.ref1 r]
  obtain ⟨its, rv, ht, _⟩ := I.tuple hs
  refine call_set_tupI ns (I.ok.hd hc) (show s.heap.IsTuple p its.toArray from ht) (ints_of_vals rv) (by unfold scanBound; omega) fun h' tk c R hle hk => ?_
  exact ⟨.ref _, upd H s.heap.objs.size (SetO X.w s.heap.objs.size (fun j => decide (j ∈ ns)) c), I.laid (t' := tk) hk (Nat.le_refl _) (setO_new R), rfl, q _ c hle (I.hok.fresh (Nat.le_refl _))⟩

/-! ### enumerate(t), t a tuple -/
set_option maxHeartbeats 1000000 in
theorem meets_enum_one {v : Value} {o : Obj} {H : Heap → Prop} (B : Begins v o H) :
    Meets (Builtin.«enumerate.__new__» ⟨[.type "enumerate", v], []⟩) (fun _ R s => H s.heap ∧ R (.ok (.ret (.ref (s.heap.push o).objs.size)))
      { s with heap := (s.heap.push o).push { cls := .type "enumerate", data := .fields #[.none, .bool false, .ref s.heap.objs.size, rawInt 0, .none, .none] } }) :=
  .of_wp fun prog w A R s h => by
    obtain ⟨hp, g, d, tk, os⟩ := s
    obtain ⟨h1, h⟩ := h
    have hsub := sub_enumerate
    have q1 : ∀ {A' : Around} {E : Value → Shared → Prop} {Q : Value → Shared → Prop}, Q (.ref hp.objs.size) ⟨hp.push o, g, d, tk, os⟩ → wpAny (model prog w) A' (pyIter v) Q E ⟨hp, g, d, tk, os⟩ := fun q => B.iter prog w _ _ ⟨hp, g, d, tk, os⟩ _ h1 q
    wp_walk using q1
    refine wpAny_stack_any fun st => wpAny_pure ?_
    split
    · rename_i c _ _ _ _ _
      cases (c == Value.type "enumerate") <;> (wp_walk using q1) <;> exact ⟨_, rfl, h⟩
    · wp_walk using q1
      exact ⟨_, rfl, h⟩
theorem call_enum_one {prog : Program} {w : World} {A : Around} {E : Value → Shared → Prop} {s : Shared} {v : Value} {o : Obj} {H : Heap → Prop} {Q : Value → Shared → Prop} (B : Begins v o H) (h1 : H s.heap)
    (h : ∀ h', IsEnum h' (s.heap.objs.size + 1) s.heap.objs.size 0 .none → h'.get? s.heap.objs.size = some o → (∀ b u, s.heap.get? b = some u → h'.get? b = some u) → Q (.ref (s.heap.objs.size + 1)) { s with heap := h' }) :
    wpAny (model prog w) A (call (.type "enumerate") [v]) Q E s := by
  refine callType_new F.called_enumerate (by decide) (F.typeCall_enumerate_1 _) (F.newCall_enumerate_1 _) (fun obj => F.args_object_init_2 obj _) F.entry_enumerate_new (meets_enum_one B) ⟨h1, ?_⟩
  have hz : (s.heap.push o).objs.size = s.heap.objs.size + 1 := Heap.size_push ..
  show _ ∧ _
  rw [hz]
  have he : IsEnum ((s.heap.push o).push { cls := .type "enumerate", data := .fields #[.none, .bool false, .ref s.heap.objs.size, rawInt 0, .none, .none] }) (s.heap.objs.size + 1) s.heap.objs.size 0 .none := by
    have q := Heap.get?_push_size (s.heap.push o) (o := { cls := .type "enumerate", data := .fields #[.none, .bool false, .ref s.heap.objs.size, rawInt 0, .none, .none] }) rfl
    rw [hz] at q
    exact q
  exact ⟨⟨_, he, rfl⟩, h _ he (Heap.get?_push_of_some _ (Heap.get?_push_size _ B.free)) fun b u x => Heap.get?_push_of_some _ (Heap.get?_push_of_some _ x)⟩
/-- the tuple at a, each item in a new pair with its place -/
def IteT (K : PySem.W.Frag) (a : Addr) (xs : List V) : It :=
  ⟨fun i H => SqT K H a xs ∧ i < xs.length, fun i H v H' => ∃ T x, v = .ref T ∧ H T = none ∧ H' = upd H T (.tup [.int (i : Nat), x]) ∧ xs[i]? = some x, fun i H => SqT K H a xs ∧ xs.length ≤ i⟩
theorem turn_enumT {P : Program} {w : World} {K : PySem.W.Frag} {elts : List Expr} {kk : Nat} {tpos : Pos} (a e it : Addr) (xs : List V) :
    Turn P w K (.Tuple elts kk tpos) (IteT K a xs) [e, it] e (fun i h => (∃ old, IsEnum h e it ((i : Nat) : Int) old) ∧ h.IsTupleIter it a i ∧ e ≠ it ∧ i ≤ xs.length) where
  mem := by simp
  obj := fun i h st b hb => by
    obtain ⟨⟨old, he⟩, ⟨o, ho, hc, hd⟩, _⟩ := st
    rcases (show b = e ∨ b = it by simpa using hb) with z | z
    · rw [z]; exact ⟨_, he, fun v q => nomatch q⟩
    · rw [z]; exact ⟨o, ho, fun v q => by rw [hd] at q; cases q⟩
  keep := fun i h h' st k => let ⟨⟨old, he⟩, hi, hne⟩ := st; ⟨⟨old, k e (by simp) _ he⟩, hi.at fun o q => k it (by simp) o q, hne⟩
  item := by
    intro X hP hw hK hc i pins s σ H E I hf st hg
    subst hP hw hK
    obtain ⟨⟨old, he⟩, hit, hne, hle⟩ := st
    obtain ⟨hq, hx⟩ := hg
    obtain ⟨its, rv, p, hz⟩ := I.tuple hq
    have hl := rv.length
    have hel : e < s.heap.objs.size := Heap.lt_size he
    have hil : it < s.heap.objs.size := by obtain ⟨_, q, _⟩ := hit; exact Heap.lt_size q
    have hai : a ≠ it := fun z => by
      obtain ⟨o1, q1, c1, _⟩ := hit
      obtain ⟨o2, q2, c2, _⟩ := p
      rw [← z, q2] at q1
      cases q1
      rw [c2] at c1
      injection c1 with c1
      exact absurd c1 (by decide)
    have hae : e ≠ a := fun z => by
      obtain ⟨o2, q2, c2, _⟩ := p
      rw [← z, he] at q2
      cases q2
      injection c2 with c2
      exact absurd c2 (by decide)
    have D := Draws.tuple (prog := X.prog) (w := X.w) (A := X.A.in1) (show X.A.handled = none from I.ok.hd hc) it a hai its.toArray
    refine wpAny_pyNext_enum_itemD D he ⟨hit, p⟩ (by simp; omega) hne (by simp [hne, hae]) fun x h' tk hxv ho hit' hT hsz hk => ?_
    have hxi : its[i]? = some x := by simpa using hxv
    have hxs : xs[i]? = some xs[i] := List.getElem?_eq_getElem hx
    obtain ⟨u, hu, ru⟩ := rv.get hxs
    rw [hxi] at hu
    cases hu
    refine ⟨_, rfl, wpAny_letOwnedTupleGo_enum (s := { s with heap := h', toks := tk + 1 }) ho fun h'' he' sb => ?_⟩
    have hT2 : h''.get? s.heap.objs.size = some { cls := .type "tuple", data := .seq #[.int i tk, x] } := (sb.2 _ (Nat.ne_of_gt hel)).trans hT
    have new : ObjOk X.prog X.w (upd H s.heap.objs.size (.tup [.int (i : Nat), xs[i]])) h'' s.heap.objs.size (.tup [.int (i : Nat), xs[i]]) :=
      ⟨by show 2 ≤ sizeLine; decide, [.int i tk, x], .cons ⟨_, rfl⟩ (.cons ru .nil), ⟨_, hT2, rfl, _, rfl⟩⟩
    have I1 : Inv X pins σ (upd H s.heap.objs.size (.tup [.int (i : Nat), xs[i]])) { s with heap := h'', toks := tk + 1 } :=
      I.turnedNew (ch := [e, it]) (fun b ob hb q => (sb.2 b (fun z => hb (by simp [z]))).trans (hk b ob (fun z => hb (by simp [z])) (fun z => hb (by simp [z])) q)) hf (Nat.le_refl _) new
    refine ⟨.ref s.heap.objs.size, _, I1, rfl, ⟨_, xs[i], rfl, I.hok.fresh (Nat.le_refl _), rfl, hxs⟩, ⟨⟨x, ?_⟩, hit'.1.at fun o q => (sb.2 it (Ne.symm hne)).trans q, hne, hx⟩, fun b hb => ?_⟩
    · rw [show ((i + 1 : Nat) : Int) = (i : Int) + 1 by omega]
      exact he'
    · have hb' : b < s.heap.objs.size := by
        rcases (show b = e ∨ b = it by simpa using hb) with z | z
        · rw [z]; exact hel
        · rw [z]; exact hil
      rw [upd_ne (Nat.ne_of_lt hb')]
      exact (hf b hb).1
  done := by
    intro X hP hw hK hc i pins s σ H E I hf st hg
    subst hP hw hK
    obtain ⟨⟨old, he⟩, hit, hne, hle⟩ := st
    obtain ⟨hq, hx⟩ := hg
    obtain ⟨its, rv, p, hz⟩ := I.tuple hq
    obtain ⟨f0, f1, f2, f3, f4, f5⟩ := hf it (by simp)
    have hl := rv.length
    have hai : a ≠ it := fun z => by
      obtain ⟨o1, q1, c1, _⟩ := hit
      obtain ⟨o2, q2, c2, _⟩ := p
      rw [← z, q2] at q1
      cases q1
      rw [c2] at c1
      injection c1 with c1
      exact absurd c1 (by decide)
    have D := Draws.tuple (prog := X.prog) (w := X.w) (A := X.A.in1) (show X.A.handled = none from I.ok.hd hc) it a hai its.toArray
    have ei : i = its.toArray.size := by simp; omega
    exact wpAny_pyNext_enum_endD D he ⟨by rw [← ei]; exact hit, p⟩ fun h' eb => ⟨rfl, I.turned (t' := s.toks) (fun b o hb q => eb b o hb q) f0 f1 f3 f4 f5⟩
  self := fun A i s Q E st h => let ⟨⟨_, he⟩, _⟩ := st; wpAny_pyIter_enum he h
def iEnumT (K : PySem.W.Frag) (ta : TA) : TI := fun σ H R => ta σ H fun vs H1 => ∃ a xs, vs = [.ref a] ∧ SqT K H1 a xs ∧ R (IteT K a xs) H1
theorem pi_enumT {X : Cx} {e : Expr} {ta : TA} {p pos tpos : Pos} {elts : List Expr} {kk : Nat} (hg : Gl X "enumerate") (hm : X.mg "enumerate" = none) (ha : PA X [e] ta) (hs : starEach [e] X.env = [(false, eval e X.env)] := by rfl) :
    PI X (.Tuple elts kk tpos) (.Call (.Name "enumerate" p) [e] [] pos) (iEnumT X.K ta) := by
  refine ⟨fun pins s σ H R I h => ?_⟩
  refine Call_ (ld_blt I hg hm boot_enumerate (callWith_type1 (thn (ha.run pos pins s σ H _ I h) fun us s1 ⟨vs, H1, I1, r1, q1⟩ => ?_) hs rfl))
  obtain ⟨a, xs, ex, hq, q⟩ := q1
  subst ex
  rw [Vals.ref1 r1]
  obtain ⟨its, rv, p', hz⟩ := I1.tuple hq
  refine call_enum_one (begins_tuple a its.toArray) p' fun h' he hit hk => wpAny_pyIter_enum he ?_
  have I2 : Inv X pins σ H1 { s1 with heap := h' } := I1.kept (t' := s1.toks) hk
  refine ⟨s1.heap.objs.size + 1, [s1.heap.objs.size + 1, s1.heap.objs.size], _, _, H1, rfl, I2, turn_enumT a (s1.heap.objs.size + 1) s1.heap.objs.size xs, ⟨⟨.none, he⟩, ⟨_, hit, rfl, rfl⟩, Nat.succ_ne_self _, Nat.zero_le _⟩, fun b hb => ?_, q⟩
  have hle : s1.heap.objs.size ≤ b := by
    rcases (show b = s1.heap.objs.size + 1 ∨ b = s1.heap.objs.size by simpa using hb) with z | z
    · rw [z]; exact Nat.le_add_right _ _
    · rw [z]; exact Nat.le_refl _
  exact I1.fpOk hle (I1.hok.fresh hle)

/-! ### zip(xs, t): a list and a tuple -/
def ItzM (K : PySem.W.Frag) (a b : Addr) (xs ys : List V) : It :=
  ⟨fun i H => SqL K H a xs ∧ SqT K H b ys ∧ i < xs.length ∧ i < ys.length, fun i H v H' => ∃ T x y, v = .ref T ∧ H T = none ∧ H' = upd H T (.tup [x, y]) ∧ xs[i]? = some x ∧ ys[i]? = some y,
    fun i H => SqL K H a xs ∧ SqT K H b ys ∧ (xs.length = i ∨ ys.length = i) ∧ i ≤ xs.length ∧ i ≤ ys.length⟩
theorem turn_zipM {P : Program} {w : World} {K : PySem.W.Frag} {elts : List Expr} {kk : Nat} {tpos : Pos} {a b z TI TO i1 i2 : Addr} (xs ys : List V) (D : ZipSep2 z TI TO i1 i2 [i1, a] [i2, b]) :
    Turn P w K (.Tuple elts kk tpos) (ItzM K a b xs ys) [z, TI, TO, i1, i2] z (fun i h => IsZip h z TI TO .none ∧ IsTupOf2 h TI (.ref i1) (.ref i2) ∧ (∃ x y, IsTupOf2 h TO x y) ∧ h.IsListIter i1 a i ∧ h.IsTupleIter i2 b i) where
  mem := by simp
  obj := fun i h st c hc => by
    obtain ⟨hz, hTI, ⟨x, y, hTO⟩, ⟨o1, e1, _, d1⟩, ⟨o2, e2, _, d2⟩⟩ := st
    rcases (show c = z ∨ c = TI ∨ c = TO ∨ c = i1 ∨ c = i2 by simpa using hc) with q | q | q | q | q
    · rw [q]; exact ⟨_, hz, fun v q => nomatch q⟩
    · rw [q]; exact ⟨_, hTI, fun v q => nomatch q⟩
    · rw [q]; exact ⟨_, hTO, fun v q => nomatch q⟩
    · rw [q]; exact ⟨o1, e1, fun v q => by rw [d1] at q; cases q⟩
    · rw [q]; exact ⟨o2, e2, fun v q => by rw [d2] at q; cases q⟩
  keep := fun i h h' st k => by
    obtain ⟨hz, hTI, ⟨x, y, hTO⟩, h1, h2⟩ := st
    exact ⟨k z (by simp) _ hz, k TI (by simp) _ hTI, ⟨x, y, k TO (by simp) _ hTO⟩, h1.at fun o q => k i1 (by simp) o q, h2.at fun o q => k i2 (by simp) o q⟩
  item := by
    intro X hP hw hK hc i pins s σ H E I hf st hg
    subst hP hw hK
    obtain ⟨hz, hTI, ⟨x0, y0, hTO⟩, h1, h2⟩ := st
    obtain ⟨hqx, hqy, hlx, hly⟩ := hg
    obtain ⟨its, rv, p, _⟩ := I.list hqx
    obtain ⟨its2, rv2, p2, _⟩ := I.tuple hqy
    have l1 := rv.length
    have l2 := rv2.length
    have hzl : z < s.heap.objs.size := Heap.lt_size hz
    have hai : a ≠ i1 := fun q => by
      obtain ⟨o1, q1, c1, _⟩ := h1
      obtain ⟨o2, q2, c2, _⟩ := p.isList
      rw [← q, q2] at q1
      cases q1
      rw [c2] at c1
      injection c1 with c1
      exact absurd c1 (by decide)
    have hbi : b ≠ i2 := fun q => by
      obtain ⟨o1, q1, c1, _⟩ := h2
      obtain ⟨o2, q2, c2, _⟩ := p2
      rw [← q, q2] at q1
      cases q1
      rw [c2] at c1
      injection c1 with c1
      exact absurd c1 (by decide)
    have D1 := Draws.list (prog := X.prog) (w := X.w) (A := X.A.in1) (show X.A.handled = none from I.ok.hd hc) i1 a hai its.toArray
    have D2 := Draws.tuple (prog := X.prog) (w := X.w) (A := X.A.in1) (show X.A.handled = none from I.ok.hd hc) i2 b hbi its2.toArray
    refine wpAny_pyNext_zipD2_item D D1 D2 hz hTI hTO ⟨h1, p.isList⟩ ⟨h2, p2⟩ (by simp; omega) (by simp; omega) fun u u2 h' tk hu hu2 z' TO' h1' h2' hT hsz hk => ?_
    have gx : xs[i]? = some xs[i] := List.getElem?_eq_getElem hlx
    have gy : ys[i]? = some ys[i] := List.getElem?_eq_getElem hly
    obtain ⟨u', hu', ru⟩ := rv.get gx
    obtain ⟨u2', hu2', ru2⟩ := rv2.get gy
    have e1 : u' = u := Option.some.inj (hu'.symm.trans (by simpa using hu))
    have e2 : u2' = u2 := Option.some.inj (hu2'.symm.trans (by simpa using hu2))
    subst e1 e2
    refine ⟨_, rfl, wpAny_letOwnedTupleGo_zip (s := { s with heap := h', toks := tk }) z' fun h'' z'' sb => ?_⟩
    have hT2 : h''.get? s.heap.objs.size = some { cls := .type "tuple", data := .seq #[u', u2'] } := (sb.2 _ (Nat.ne_of_gt hzl)).trans hT
    have new : ObjOk X.prog X.w (upd H s.heap.objs.size (.tup [xs[i], ys[i]])) h'' s.heap.objs.size (.tup [xs[i], ys[i]]) :=
      ⟨by show 2 ≤ sizeLine; decide, [u', u2'], .cons ru (.cons ru2 .nil), ⟨_, hT2, rfl, _, rfl⟩⟩
    have I1 : Inv X pins σ (upd H s.heap.objs.size (.tup [xs[i], ys[i]])) { s with heap := h'', toks := tk } :=
      I.turnedNew (ch := [z, TI, TO, i1, i2]) (fun c o hb q => (sb.2 c (fun q' => hb (by simp [q']))).trans (hk c o (fun q' => hb (by simp [q'])) (fun q' => hb (by simp [q'])) (fun q' => hb (by simp [q'])) (fun q' => hb (by simp [q'])) q)) hf (Nat.le_refl _) new
    refine ⟨.ref s.heap.objs.size, _, I1, rfl, ⟨_, _, _, rfl, I.hok.fresh (Nat.le_refl _), rfl, gx, gy⟩, ⟨z'', ?_, ⟨u', u2', ?_⟩, ?_, ?_⟩, fun c hcm => ?_⟩
    · exact (sb.2 _ D.TIz).trans (hk _ _ D.TIz D.TITO D.TIi1 D.TIi2 hTI)
    · exact (sb.2 _ D.TOz).trans TO'
    · exact h1'.1.at fun o q => (sb.2 _ D.zi1.symm).trans q
    · exact h2'.1.at fun o q => (sb.2 _ D.zi2.symm).trans q
    · have hlt : c < s.heap.objs.size := by
        rcases (show c = z ∨ c = TI ∨ c = TO ∨ c = i1 ∨ c = i2 by simpa using hcm) with q | q | q | q | q
        · rw [q]; exact hzl
        · rw [q]; exact Heap.lt_size hTI
        · rw [q]; exact Heap.lt_size hTO
        · rw [q]; obtain ⟨_, e1, _⟩ := h1; exact Heap.lt_size e1
        · rw [q]; obtain ⟨_, e2, _⟩ := h2; exact Heap.lt_size e2
      rw [upd_ne (Nat.ne_of_lt hlt)]
      exact (hf c hcm).1
  done := by
    intro X hP hw hK hc i pins s σ H E I hf st hg
    subst hP hw hK
    obtain ⟨hz, hTI, ⟨x0, y0, hTO⟩, h1, h2⟩ := st
    obtain ⟨hqx, hqy, hend, hlx, hly⟩ := hg
    obtain ⟨its, rv, p, _⟩ := I.list hqx
    obtain ⟨its2, rv2, p2, _⟩ := I.tuple hqy
    have l1 := rv.length
    have l2 := rv2.length
    have hai : a ≠ i1 := fun q => by
      obtain ⟨o1, q1, c1, _⟩ := h1
      obtain ⟨o2, q2, c2, _⟩ := p.isList
      rw [← q, q2] at q1
      cases q1
      rw [c2] at c1
      injection c1 with c1
      exact absurd c1 (by decide)
    have hbi : b ≠ i2 := fun q => by
      obtain ⟨o1, q1, c1, _⟩ := h2
      obtain ⟨o2, q2, c2, _⟩ := p2
      rw [← q, q2] at q1
      cases q1
      rw [c2] at c1
      injection c1 with c1
      exact absurd c1 (by decide)
    have D1 := Draws.list (prog := X.prog) (w := X.w) (A := X.A.in1) (show X.A.handled = none from I.ok.hd hc) i1 a hai its.toArray
    have D2 := Draws.tuple (prog := X.prog) (w := X.w) (A := X.A.in1) (show X.A.handled = none from I.ok.hd hc) i2 b hbi its2.toArray
    exact wpAny_pyNext_zipD2_end D D1 D2 hz hTI hTO ⟨h1, p.isList⟩ ⟨h2, p2⟩ (by simp; omega) (by simp; omega) (by simp; omega) fun h' tk hk => ⟨rfl, I.turnedL (t' := tk) (ch := [z, TI, TO, i1, i2]) (fun c o hb q =>
      hk c o (fun q' => hb (by simp [q'])) (fun q' => hb (by simp [q'])) (fun q' => hb (by simp [q'])) (fun q' => hb (by simp [q'])) q) hf⟩
  self := fun A i s Q E st h => wpAny_pyIter_zip st.1 h
/-- zip of a list with a tuple, or of two lists -/
def iZipM (K : PySem.W.Frag) (ta : TA) : TI := fun σ H R => ta σ H fun vs H1 => ∃ a b xs ys, vs = [.ref a, .ref b] ∧ ((SqL K H1 a xs ∧ SqL K H1 b ys ∧ R (Itz K a b) H1) ∨ (SqL K H1 a xs ∧ SqT K H1 b ys ∧ R (ItzM K a b xs ys) H1))
theorem pi_zipM {X : Cx} {e e2 : Expr} {ta : TA} {p pos tpos : Pos} {elts : List Expr} {kk : Nat} (hg : Gl X "zip") (hm : X.mg "zip" = none) (ha : PA X [e, e2] ta)
    (hs : starEach [e, e2] X.env = (false, eval e X.env) :: starEach [e2] X.env := by rfl) (hpl : (backTo pos (starEach [e2] X.env)).any (·.1) = false := by rfl) :
    PI X (.Tuple elts kk tpos) (.Call (.Name "zip" p) [e, e2] [] pos) (iZipM X.K ta) := by
  refine ⟨fun pins s σ H R I h => ?_⟩
  refine Call_ (ld_blt I hg hm boot_zip (callWith_type1 (thn (ha.run pos pins s σ H _ I h) fun us s1 ⟨vs, H1, I1, r1, q1⟩ => ?_) hs hpl))
  obtain ⟨a, b, xs, ys, ex, q1⟩ := q1
  subst ex
  obtain ⟨rfl⟩ : us = [.ref a, .ref b] := by
    cases r1 with
    | cons r rr =>
      cases rr with
      | cons r' rr =>
        cases rr
        cases r
        cases r'
        rfl
  have fresh5 : ∀ c, c ∈ [s1.heap.objs.size + 4, s1.heap.objs.size + 2, s1.heap.objs.size + 3, s1.heap.objs.size, s1.heap.objs.size + 1] → FpOk X pins H1 c := fun c hcm => by
    have hle : s1.heap.objs.size ≤ c := by
      rcases (show c = s1.heap.objs.size + 4 ∨ c = s1.heap.objs.size + 2 ∨ c = s1.heap.objs.size + 3 ∨ c = s1.heap.objs.size ∨ c = s1.heap.objs.size + 1 by simpa using hcm) with z | z | z | z | z <;> rw [z] <;>
        first | exact Nat.le_add_right _ _ | exact Nat.le_refl _
    exact I1.fpOk hle (I1.hok.fresh hle)
  rcases q1 with ⟨hqx, hqy, q⟩ | ⟨hqx, hqy, q⟩
  · obtain ⟨its, rv, p1, _⟩ := I1.list hqx
    obtain ⟨its2, rv2, p2, _⟩ := I1.list hqy
    refine call_zip_2 p1.isList p2.isList fun h' hz hTI hTO h1 h2 hsz hk => wpAny_pyIter_zip hz ?_
    have I2 : Inv X pins σ H1 { s1 with heap := h' } := I1.kept (t' := s1.toks) hk
    exact ⟨s1.heap.objs.size + 4, [s1.heap.objs.size + 4, s1.heap.objs.size + 2, s1.heap.objs.size + 3, s1.heap.objs.size, s1.heap.objs.size + 1], _, _, H1, rfl, I2, turn_zip (PySem.W.ktu_apart s1.heap.objs.size a b p1.lt p2.lt), ⟨hz, hTI, ⟨_, _, hTO⟩, h1, h2⟩, fresh5, q⟩
  · obtain ⟨its, rv, p1, _⟩ := I1.list hqx
    obtain ⟨its2, rv2, p2, _⟩ := I1.tuple hqy
    have la : a < s1.heap.objs.size := p1.lt
    have lb : b < s1.heap.objs.size := p2.lt
    refine zip_begins2 (begins_list a its.toArray) (begins_tuple b its2.toArray) p1.isList p2 fun h' hz hTI hTO h1 h2 hsz hk => wpAny_pyIter_zip hz ?_
    have I2 : Inv X pins σ H1 { s1 with heap := h' } := I1.kept (t' := s1.toks) hk
    exact ⟨s1.heap.objs.size + 4, [s1.heap.objs.size + 4, s1.heap.objs.size + 2, s1.heap.objs.size + 3, s1.heap.objs.size, s1.heap.objs.size + 1], _, _, H1, rfl, I2,
      turn_zipM xs ys (zip_sep2 (fp1 := [a]) (fp2 := [b]) (fun c hcm => by rw [List.mem_singleton.mp hcm]; exact la) (fun c hcm => by rw [List.mem_singleton.mp hcm]; exact lb)), ⟨hz, hTI, ⟨_, _, hTO⟩, ⟨_, h1, rfl, rfl⟩, ⟨_, h2, rfl, rfl⟩⟩, fresh5, q⟩
end Bw

/-! zip of two lists to one name: [p for p in zip(xs, ys) if ..] -/
namespace Bw
open PySem PySem.Spec PyProof.Rows L2

/-- a zip object, whatever its first two fields hold -/
abbrev ZipF (h : Heap) (z TI TO : Addr) (v : Value) (f : Bool) : Prop :=
  h.get? z = some { cls := .type "zip", dict := none, data := .fields #[v, .bool f, .bool false, .ref TI, .ref TO], slots := #[] }
section
variable {prog : Program} {w : World} {A : Around} {E : Value → Shared → Prop} {s : Shared} {z TI TO T i1 i2 l1 l2 : Addr} {f : Bool}
theorem not_alive {a : Addr} {Q : Option Obj → Shared → Prop} (ho : s.heap.get? a = none) (h : Q none s) : wpAny (model prog w) A (loadIfAlive a) Q E s := by
  have h' : Q (s.heap.get? a) s := by rw [ho]; exact h
  exact fun _ _ _ => h'
/-- the tuple that was given out is gone -/
theorem free_gone {Q : Bool → Shared → Prop} (hz : ZipF s.heap z TI TO (rawInt T) f) (hT : s.heap.get? T = none) (h : Q true s) : wpAny (model prog w) A (Builtin.SmallTypes.ownedTupleIsFree (.ref z)) Q E s := by
  unfold Builtin.SmallTypes.ownedTupleIsFree
  refine wpAny_bind (wpAny_field hz rfl (x := rawInt T) rfl ?_)
  show wpAny _ _ (loadIfAlive ((T : Int).toNat) >>= _) _ _ _
  rw [Int.toNat_natCast]
  refine wpAny_bind (not_alive hT ?_)
  simp only [Option.isNone_none, if_true]
  exact wpAny_pure h
theorem gone_item {k : Nat} {xs ys : Array Value} {x y a b : Value} {Q : Value → Shared → Prop} (D : ZipApart z TI TO i1 i2 l1 l2) (hz : ZipF s.heap z TI TO (rawInt T) f) (hT : s.heap.get? T = none)
    (hTI : IsPair s.heap TI (.ref i1) (.ref i2)) (hTO : IsPair s.heap TO a b) (h1 : s.heap.IsListIter i1 l1 k) (h2 : s.heap.IsListIter i2 l2 k) (hl1 : s.heap.IsList l1 xs) (hl2 : s.heap.IsList l2 ys) (hx : xs[k]? = some x) (hy : ys[k]? = some y)
    (hQ : ∀ h', ZipF h' z TI TO (rawInt s.heap.objs.size) false → (∃ a b, IsPair h' TO a b) → h'.IsListIter i1 l1 (k + 1) → h'.IsListIter i2 l2 (k + 1) → IsPair h' s.heap.objs.size x y →
      (∀ c o, c ≠ z → c ≠ TO → c ≠ i1 → c ≠ i2 → s.heap.get? c = some o → h'.get? c = some o) → Q (.ref s.heap.objs.size) { s with heap := h' }) :
    wpAny (model prog w) A (Builtin.«zip.__next__» ⟨[.ref z], []⟩) (fun fin s' => ∃ v, fin = .done (.ret v) ∧ Q v s') E s := by
  show wpAny _ _ (field (.ref z) 2 >>= _) _ _ _
  refine wpAny_bind (wpAny_field hz rfl (x := .bool false) rfl ?_)
  show wpAny _ _ (field (.ref z) 3 >>= _) _ _ _
  refine wpAny_bind (wpAny_field hz rfl (x := .ref TI) rfl (wpAny_bind (wpAny_seqItems hTI rfl ?_)))
  show wpAny _ _ (Builtin.SmallTypes.ownedTupleIsFree (.ref z) >>= _) _ _ _
  refine wpAny_bind (free_gone hz hT ?_)
  simp only [if_true]
  refine wpAny_bind (wpAny_rule (wpAny_bind (wpAny_field hz rfl (x := .ref TO) rfl (wpAny_bind (wpAny_setField_rec hz (by simp) fun g1 z1 s1 => ?_)))))
  replace z1 : ZipF g1 z TI TO .ellipsis f := z1
  refine wpAny_bind ?_
  simp only [List.zipIdx_cons, List.zipIdx_nil, List.forIn_cons, List.forIn_nil]
  refine wpAny_bind (wpAny_bind (wpAny_onRaise ?_))
  show wpAny _ _ (Builtin.SmallTypes.nextOf (.ref i1) >>= _) _ _ _
  refine wpAny_bind (wpAny_nextOf_list_item (h1.extBut s1.extBut D.i1z) (hl1.extBut s1.extBut D.l1z) hx fun g2 it2 s2 => wpAny_pure ?_)
  have t2 : IsPair g2 TO a b := s2.extBut _ _ D.TOi1 (s1.extBut _ _ D.TOz hTO)
  refine wpAny_bind (wpAny_seqItems t2 rfl (wpAny_bind (wpAny_updateSeq_pair t2 fun g3 t3 s3 => ?_)))
  replace t3 : IsPair g3 TO x b := t3
  refine wpAny_bind (wpAny_letGo (wpAny_pure (wpAny_bind (wpAny_bind (wpAny_onRaise ?_)))))
  show wpAny _ _ (Builtin.SmallTypes.nextOf (.ref i2) >>= _) _ _ _
  refine wpAny_bind (wpAny_nextOf_list_item (((h2.extBut s1.extBut D.i2z).extBut s2.extBut D.i12.symm).extBut s3.extBut D.TOi2.symm) (((hl2.extBut s1.extBut D.l2z).extBut s2.extBut D.l2i1).extBut s3.extBut D.l2TO) hy fun g4 it4 s4 => wpAny_pure ?_)
  have t4 : IsPair g4 TO x b := s4.extBut _ _ D.TOi2 t3
  refine wpAny_bind (wpAny_seqItems t4 rfl (wpAny_bind (wpAny_updateSeq_pair t4 fun g5 t5 s5 => ?_)))
  replace t5 : IsPair g5 TO x y := t5
  refine wpAny_bind (wpAny_letGo (wpAny_pure (wpAny_pure (wpAny_bind (wpAny_seqItems t5 rfl (wpAny_bind (wpAny_newTuple ?_)))))))
  have hsz : g5.objs.size = s.heap.objs.size := by rw [s5.1, s4.1, s3.1, s2.1, s1.1]
  have z5 : ZipF g5 z TI TO .ellipsis f := s5.extBut _ _ D.TOz.symm (s4.extBut _ _ D.i2z.symm (s3.extBut _ _ D.TOz.symm (s2.extBut _ _ D.i1z.symm z1)))
  have k5 : ∀ c o, c ≠ z → c ≠ TO → c ≠ i1 → c ≠ i2 → s.heap.get? c = some o → g5.get? c = some o := fun c o c1 c2 c3 c4 e => s5.extBut _ _ c2 (s4.extBut _ _ c4 (s3.extBut _ _ c2 (s2.extBut _ _ c3 (s1.extBut _ _ c1 e))))
  have j1 : g5.IsListIter i1 l1 (k + 1) := ((it2.extBut s3.extBut D.TOi1.symm).extBut s4.extBut D.i12).extBut s5.extBut D.TOi1.symm
  have j2 : g5.IsListIter i2 l2 (k + 1) := it4.extBut s5.extBut D.TOi2.symm
  have lz : z < g5.objs.size := Heap.lt_size z5
  show wpAny _ _ (Builtin.SmallTypes.ownedTupleHandOut (.ref z) (.ref g5.objs.size) >>= _) _ _ _
  refine wpAny_bind ?_
  unfold Builtin.SmallTypes.ownedTupleHandOut
  have z6 : ZipF (g5.push { cls := .type "tuple", data := .seq #[x, y] }) z TI TO .ellipsis f := Heap.get?_push_of_some _ z5
  refine wpAny_bind (wpAny_setField_rec z6 (by simp) fun g7 z7 s7 => ?_)
  replace z7 : ZipF g7 z TI TO (rawInt g5.objs.size) f := z7
  refine wpAny_setField_rec z7 (by simp) fun g8 z8 s8 => ?_
  replace z8 : ZipF g8 z TI TO (rawInt g5.objs.size) false := z8
  have up : ∀ c o, c ≠ z → g5.get? c = some o → g8.get? c = some o := fun c o c1 e => s8.extBut _ _ c1 (s7.extBut _ _ c1 (Heap.get?_push_of_some _ e))
  have t8 : IsPair g8 g5.objs.size x y := s8.extBut _ _ (Nat.ne_of_gt lz) (s7.extBut _ _ (Nat.ne_of_gt lz) (Heap.get?_push_size _ rfl))
  rw [hsz] at z8 t8
  refine wpAny_pure ⟨_, rfl, ?_⟩
  show Q (.ref g5.objs.size) _
  rw [hsz]
  exact hQ g8 z8 ⟨_, _, up _ _ D.TOz t5⟩ (j1.at fun o e => up _ o D.i1z e) (j2.at fun o e => up _ o D.i2z e) t8 fun c o c1 c2 c3 c4 e => up c o c1 (k5 c o c1 c2 c3 c4 e)
theorem gone_end {k : Nat} {xs ys : Array Value} {a b : Value} {Q : Fin → Shared → Prop} (hh : A.handled = none) (D : ZipApart z TI TO i1 i2 l1 l2) (hz : ZipF s.heap z TI TO (rawInt T) f) (hT : s.heap.get? T = none)
    (hTI : IsPair s.heap TI (.ref i1) (.ref i2)) (hTO : IsPair s.heap TO a b) (h1 : s.heap.IsListIter i1 l1 k) (h2 : s.heap.IsListIter i2 l2 k) (hl1 : s.heap.IsList l1 xs) (hl2 : s.heap.IsList l2 ys) (hend : xs[k]? = none ∨ ys[k]? = none)
    (hE : ∀ h' e, (∀ c o, c ≠ z → c ≠ TO → c ≠ i1 → c ≠ i2 → s.heap.get? c = some o → h'.get? c = some o) → (∃ o, h'.get? e = some o ∧ o.cls = .type "StopIteration") → E (.ref e) { s with heap := h' }) :
    wpAny (model prog w) A (Builtin.«zip.__next__» ⟨[.ref z], []⟩) Q E s := by
  show wpAny _ _ (field (.ref z) 2 >>= _) _ _ _
  refine wpAny_bind (wpAny_field hz rfl (x := .bool false) rfl ?_)
  show wpAny _ _ (field (.ref z) 3 >>= _) _ _ _
  refine wpAny_bind (wpAny_field hz rfl (x := .ref TI) rfl (wpAny_bind (wpAny_seqItems hTI rfl ?_)))
  show wpAny _ _ (Builtin.SmallTypes.ownedTupleIsFree (.ref z) >>= _) _ _ _
  refine wpAny_bind (free_gone hz hT ?_)
  simp only [if_true]
  refine wpAny_bind (wpAny_rule (wpAny_bind (wpAny_field hz rfl (x := .ref TO) rfl (wpAny_bind (wpAny_setField_rec hz (by simp) fun g1 z1 s1 => ?_)))))
  replace z1 : ZipF g1 z TI TO .ellipsis f := z1
  refine wpAny_bind ?_
  simp only [List.zipIdx_cons, List.zipIdx_nil, List.forIn_cons, List.forIn_nil]
  refine wpAny_bind (wpAny_bind (wpAny_onRaise ?_))
  show wpAny _ _ (Builtin.SmallTypes.nextOf (.ref i1) >>= _) _ _ _
  cases hx : xs[k]? with
  | none =>
    refine wpAny_bind (wpAny_nextOf_list_end hh (h1.extBut s1.extBut D.i1z) (hl1.extBut s1.extBut D.l1z) hx fun g2 e s2 he => ?_)
    obtain ⟨oe, hoe, hce⟩ := he
    have z2 : ZipF g2 z TI TO .ellipsis f := s2 _ _ D.i1z.symm z1
    have hez : e ≠ z := fun x => by subst x; rw [z2] at hoe; cases hoe; simp at hce
    exact wpAny_setField_rec z2 (by simp) fun g3 _ s3 => hE g3 e (fun c o c1 _ c3 _ x => s3.extBut _ _ c1 (s2 _ _ c3 (s1.extBut _ _ c1 x))) ⟨oe, s3.extBut _ _ hez hoe, hce⟩
  | some x =>
    have hy : ys[k]? = none := by
      rcases hend with h | h
      · rw [hx] at h; cases h
      · exact h
    refine wpAny_bind (wpAny_nextOf_list_item (h1.extBut s1.extBut D.i1z) (hl1.extBut s1.extBut D.l1z) hx fun g2 it2 s2 => wpAny_pure ?_)
    have t2 : IsPair g2 TO a b := s2.extBut _ _ D.TOi1 (s1.extBut _ _ D.TOz hTO)
    refine wpAny_bind (wpAny_seqItems t2 rfl (wpAny_bind (wpAny_updateSeq_pair t2 fun g3 t3 s3 => ?_)))
    refine wpAny_bind (wpAny_letGo (wpAny_pure (wpAny_bind (wpAny_bind (wpAny_onRaise ?_)))))
    show wpAny _ _ (Builtin.SmallTypes.nextOf (.ref i2) >>= _) _ _ _
    refine wpAny_bind (wpAny_nextOf_list_end hh (((h2.extBut s1.extBut D.i2z).extBut s2.extBut D.i12.symm).extBut s3.extBut D.TOi2.symm) (((hl2.extBut s1.extBut D.l2z).extBut s2.extBut D.l2i1).extBut s3.extBut D.l2TO) hy fun g4 e s4 he => ?_)
    obtain ⟨oe, hoe, hce⟩ := he
    have z4 : ZipF g4 z TI TO .ellipsis f := s4 _ _ D.i2z.symm (s3.extBut _ _ D.TOz.symm (s2.extBut _ _ D.i1z.symm z1))
    have hez : e ≠ z := fun x => by subst x; rw [z4] at hoe; cases hoe; simp at hce
    exact wpAny_setField_rec z4 (by simp) fun g5 _ s5 => hE g5 e (fun c o c1 c2 c3 c4 x => s5.extBut _ _ c1 (s4 _ _ c4 (s3.extBut _ _ c2 (s2.extBut _ _ c3 (s1.extBut _ _ c1 x))))) ⟨oe, s5.extBut _ _ hez hoe, hce⟩
theorem next_gone_item {k : Nat} {xs ys : Array Value} {x y a b : Value} {Q : Option Value → Shared → Prop} (D : ZipApart z TI TO i1 i2 l1 l2) (hz : ZipF s.heap z TI TO (rawInt T) f) (hT : s.heap.get? T = none)
    (hTI : IsPair s.heap TI (.ref i1) (.ref i2)) (hTO : IsPair s.heap TO a b) (h1 : s.heap.IsListIter i1 l1 k) (h2 : s.heap.IsListIter i2 l2 k) (hl1 : s.heap.IsList l1 xs) (hl2 : s.heap.IsList l2 ys) (hx : xs[k]? = some x) (hy : ys[k]? = some y)
    (hQ : ∀ h', ZipF h' z TI TO (rawInt s.heap.objs.size) false → (∃ a b, IsPair h' TO a b) → h'.IsListIter i1 l1 (k + 1) → h'.IsListIter i2 l2 (k + 1) → IsPair h' s.heap.objs.size x y →
      (∀ c o, c ≠ z → c ≠ TO → c ≠ i1 → c ≠ i2 → s.heap.get? c = some o → h'.get? c = some o) → Q (some (.ref s.heap.objs.size)) { s with heap := h' }) :
    wpAny (model prog w) A (pyNext (.ref z)) Q E s := by
  have hTy : s.TypeIs (.ref z) "zip" := ⟨_, hz, rfl⟩
  unfold pyNext
  exact wpAny_bind (wpAny_attempt (wpAny_callSpecial?_slot (name := Str.ofString "__next__") hTy F.slot_zip_next (wpAny_call_entry F.slot_zip_next hTy F.entry_zip_next
    (gone_item D hz hT hTI hTO h1 h2 hl1 hl2 hx hy fun h' a1 a2 a3 a4 a5 a6 => wpAny_pure (hQ h' a1 a2 a3 a4 a5 a6)) (F.args_zip_next_1 _))))
theorem next_gone_end {k : Nat} {xs ys : Array Value} {a b : Value} {Q : Option Value → Shared → Prop} (hh : A.handled = none) (D : ZipApart z TI TO i1 i2 l1 l2) (hz : ZipF s.heap z TI TO (rawInt T) f) (hT : s.heap.get? T = none)
    (hTI : IsPair s.heap TI (.ref i1) (.ref i2)) (hTO : IsPair s.heap TO a b) (h1 : s.heap.IsListIter i1 l1 k) (h2 : s.heap.IsListIter i2 l2 k) (hl1 : s.heap.IsList l1 xs) (hl2 : s.heap.IsList l2 ys) (hend : xs[k]? = none ∨ ys[k]? = none)
    (hQ : ∀ h', (∀ c o, c ≠ z → c ≠ TO → c ≠ i1 → c ≠ i2 → s.heap.get? c = some o → h'.get? c = some o) → Q none { s with heap := h' }) : wpAny (model prog w) A (pyNext (.ref z)) Q E s := by
  have hTy : s.TypeIs (.ref z) "zip" := ⟨_, hz, rfl⟩
  unfold pyNext
  refine wpAny_bind (wpAny_attempt (wpAny_callSpecial?_slot (name := Str.ofString "__next__") hTy F.slot_zip_next (wpAny_call_entry F.slot_zip_next hTy F.entry_zip_next
    (gone_end hh D hz hT hTI hTO h1 h2 hl1 hl2 hend fun h' e hk he => ?_) (F.args_zip_next_1 _))))
  obtain ⟨o, ho, hc⟩ := he
  exact wpAny_bind (wpAny_isInstance (T := "StopIteration") (b := true) ⟨o, ho, hc⟩ isSubtype_stop (wpAny_pure (hQ _ hk)))
end
theorem zip_self {prog : Program} {w : World} {A : Around} {E : Value → Shared → Prop} {s : Shared} {z TI TO : Addr} {v : Value} {f : Bool} {Q : Value → Shared → Prop} (hz : ZipF s.heap z TI TO v f) (h : Q (.ref z) s) : wpAny (model prog w) A (pyIter (.ref z)) Q E s := by
  have hT : s.TypeIs (.ref z) "zip" := ⟨_, hz, rfl⟩
  refine wpAny_pyIter_slot hT F.slot_zip_iter (wpAny_call_entry F.slot_zip_iter hT F.entry_zip_iter ?_ (F.args_zip_iter_1 _))
  show wpAny _ _ (ret (.ref z)) _ _ s
  exact wpAny_pure ⟨_, rfl, "zip", _, hT, F.slot_zip_next.lookup, h⟩
/-- where the zip stands: nothing given out, or a tuple that may still be there -/
def ZipAny (h : Heap) (z TI TO : Addr) : Prop := IsZip h z TI TO .none ∨ ∃ (T : Addr) (f : Bool), ZipF h z TI TO (rawInt T) f
theorem turn_zipN {P : Program} {w : World} {K : PySem.W.Frag} {nm : Str} {tpos : Pos} {a b z TI TO i1 i2 : Addr} (D : ZipApart z TI TO i1 i2 a b) :
    Turn P w K (.Name nm tpos) (Itz K a b) [z, TI, TO, i1, i2] z (fun i h => ZipAny h z TI TO ∧ IsPair h TI (.ref i1) (.ref i2) ∧ (∃ x y, IsPair h TO x y) ∧ h.IsListIter i1 a i ∧ h.IsListIter i2 b i) where
  mem := by simp
  obj := fun i h st c hc => by
    obtain ⟨hz, hTI, ⟨x, y, hTO⟩, ⟨o1, e1, _, d1⟩, ⟨o2, e2, _, d2⟩⟩ := st
    rcases (show c = z ∨ c = TI ∨ c = TO ∨ c = i1 ∨ c = i2 by simpa using hc) with q | q | q | q | q
    · rw [q]
      rcases hz with hz | ⟨T, f, hz⟩
      · exact ⟨_, hz, fun v q => nomatch q⟩
      · exact ⟨_, hz, fun v q => nomatch q⟩
    · rw [q]; exact ⟨_, hTI, fun v q => nomatch q⟩
    · rw [q]; exact ⟨_, hTO, fun v q => nomatch q⟩
    · rw [q]; exact ⟨o1, e1, fun v q => by rw [d1] at q; cases q⟩
    · rw [q]; exact ⟨o2, e2, fun v q => by rw [d2] at q; cases q⟩
  keep := fun i h h' st k => by
    obtain ⟨hz, hTI, ⟨x, y, hTO⟩, h1, h2⟩ := st
    refine ⟨?_, k TI (by simp) _ hTI, ⟨x, y, k TO (by simp) _ hTO⟩, h1.at fun o q => k i1 (by simp) o q, h2.at fun o q => k i2 (by simp) o q⟩
    rcases hz with hz | ⟨T, f, hz⟩
    · exact .inl (k z (by simp) _ hz)
    · exact .inr ⟨T, f, k z (by simp) _ hz⟩
  item := by
    intro X hP hw hK hc i pins s σ H E I hf st hg
    subst hP hw hK
    obtain ⟨hz, hTI, ⟨x0, y0, hTO⟩, h1, h2⟩ := st
    obtain ⟨xs, ys, x, y, hqx, hqy, hx, hy⟩ := hg
    obtain ⟨its, rv, p, _⟩ := I.list hqx
    obtain ⟨its2, rv2, p2, _⟩ := I.list hqy
    obtain ⟨u, hu, ru⟩ := rv.get hx
    obtain ⟨u2, hu2, ru2⟩ := rv2.get hy
    have hux : its.toArray[i]? = some u := by simpa using hu
    have huy : its2.toArray[i]? = some u2 := by simpa using hu2
    have hlt : ∀ c ∈ [z, TI, TO, i1, i2], c < s.heap.objs.size := fun c hcm => by
      rcases (show c = z ∨ c = TI ∨ c = TO ∨ c = i1 ∨ c = i2 by simpa using hcm) with q | q | q | q | q
      · rw [q]
        rcases hz with hz | ⟨T, f, hz⟩ <;> exact Heap.lt_size hz
      · rw [q]; exact Heap.lt_size hTI
      · rw [q]; exact Heap.lt_size hTO
      · rw [q]; obtain ⟨_, e1, _⟩ := h1; exact Heap.lt_size e1
      · rw [q]; obtain ⟨_, e2, _⟩ := h2; exact Heap.lt_size e2
    -- what a new pair gives
    have fin : ∀ h', (∃ (T : Addr) (f : Bool), ZipF h' z TI TO (rawInt T) f) → (∃ a b, IsPair h' TO a b) → h'.IsListIter i1 a (i + 1) → h'.IsListIter i2 b (i + 1) → IsPair h' s.heap.objs.size u u2 →
        (∀ c o, c ≠ z → c ≠ TO → c ≠ i1 → c ≠ i2 → s.heap.get? c = some o → h'.get? c = some o) →
        ∃ v, some (Value.ref s.heap.objs.size) = some v ∧ wpAny (model X.prog X.w) X.A (letOwnedTupleGo (.Name nm tpos) (.ref z) v) (fun _ s2 => ∃ x H', L2.Inv X pins σ H' s2 ∧ RelV x v ∧ (Itz X.K a b).yld i H x H' ∧
          (ZipAny s2.heap z TI TO ∧ IsPair s2.heap TI (.ref i1) (.ref i2) ∧ (∃ x y, IsPair s2.heap TO x y) ∧ s2.heap.IsListIter i1 a (i + 1) ∧ s2.heap.IsListIter i2 b (i + 1)) ∧ ∀ b ∈ [z, TI, TO, i1, i2], H' b = none) E { s with heap := h' } := by
      intro h' a1 a2 a3 a4 a5 hk
      have new : ObjOk X.prog X.w (upd H s.heap.objs.size (.tup [x, y])) h' s.heap.objs.size (.tup [x, y]) :=
        ⟨by show 2 ≤ sizeLine; decide, [u, u2], .cons ru (.cons ru2 .nil), ⟨_, a5, rfl, _, rfl⟩⟩
      have I1 : L2.Inv X pins σ (upd H s.heap.objs.size (.tup [x, y])) { s with heap := h' } :=
        I.turnedNew (t' := s.toks) (ch := [z, TI, TO, i1, i2]) (fun c o hb q => hk c o (fun q' => hb (by simp [q'])) (fun q' => hb (by simp [q'])) (fun q' => hb (by simp [q'])) (fun q' => hb (by simp [q'])) q) hf (Nat.le_refl _) new
      refine ⟨_, rfl, ?_⟩
      show wpAny _ _ (pure ()) _ _ _
      refine wpAny_pure ⟨.ref s.heap.objs.size, _, I1, rfl, ⟨_, x, y, rfl, I.hok.fresh (Nat.le_refl _), rfl, fun l hl => by rw [I.list_inj hl hqx]; exact hx, fun l hl => by rw [I.list_inj hl hqy]; exact hy⟩,
        ⟨.inr a1, hk _ _ D.TIz D.TITO D.TIi1 D.TIi2 hTI, a2, a3, a4⟩, fun c hcm => ?_⟩
      rw [upd_ne (Nat.ne_of_lt (hlt c hcm))]
      exact (hf c hcm).1
    rcases hz with hz | ⟨T, f, hz⟩
    · exact wpAny_pyNext_zip_item D hz hTI hTO h1 h2 p.isList p2.isList hux huy fun h' a1 a2 a3 a4 a5 a6 a7 => fin h' ⟨_, _, a1⟩ ⟨_, _, a2⟩ a3 a4 a5 a7
    · cases hT : s.heap.get? T with
      | none => exact next_gone_item D hz hT hTI hTO h1 h2 p.isList p2.isList hux huy fun h' a1 a2 a3 a4 a5 a6 => fin h' ⟨_, _, a1⟩ a2 a3 a4 a5 a6
      | some oT => exact wpAny_pyNext_zip_item_held D hz hT hTI h1 h2 p.isList p2.isList hux huy fun h' a1 a3 a4 a5 a6 a7 => fin h' ⟨_, _, a1⟩ ⟨_, _, a7 _ _ D.TOz D.TOi1 D.TOi2 hTO⟩ a3 a4 a5 fun c o c1 _ c3 c4 e => a7 c o c1 c3 c4 e
  done := by
    intro X hP hw hK hc i pins s σ H E I hf st hg
    subst hP hw hK
    obtain ⟨hz, hTI, ⟨x0, y0, hTO⟩, h1, h2⟩ := st
    obtain ⟨xs, ys, hqx, hqy, hend⟩ := hg
    obtain ⟨its, rv, p, _⟩ := I.list hqx
    obtain ⟨its2, rv2, p2, _⟩ := I.list hqy
    have l1 := rv.length
    have l2 := rv2.length
    have he : its.toArray[i]? = none ∨ its2.toArray[i]? = none := by
      rcases hend with q | q
      · exact .inl (by simp; omega)
      · exact .inr (by simp; omega)
    have fin : ∀ h', (∀ c o, c ≠ z → c ≠ TO → c ≠ i1 → c ≠ i2 → s.heap.get? c = some o → h'.get? c = some o) → (none : Option Value) = none ∧ L2.Inv X pins σ H { s with heap := h' } := fun h' hk =>
      ⟨rfl, I.turnedL (t' := s.toks) (ch := [z, TI, TO, i1, i2]) (fun c o hb q => hk c o (fun q' => hb (by simp [q'])) (fun q' => hb (by simp [q'])) (fun q' => hb (by simp [q'])) (fun q' => hb (by simp [q'])) q) hf⟩
    rcases hz with hz | ⟨T, f, hz⟩
    · exact wpAny_pyNext_zip_end (I.ok.hd hc) D hz hTI hTO h1 h2 p.isList p2.isList he fin
    · cases hT : s.heap.get? T with
      | none => exact next_gone_end (I.ok.hd hc) D hz hT hTI hTO h1 h2 p.isList p2.isList he fin
      | some oT => exact wpAny_pyNext_zip_end_held (I.ok.hd hc) D hz hT hTI h1 h2 p.isList p2.isList he fun h' hk => fin h' fun c o c1 _ c3 c4 e => hk c o c1 c3 c4 e
  self := fun A i s Q E st h => by
    rcases st.1 with hz | ⟨T, f, hz⟩
    · exact wpAny_pyIter_zip hz h
    · exact zip_self hz h
/-- for p in zip(xs, ys), two lists -/
theorem pi_zipN {X : Cx} {e e2 : Expr} {ta : TA} {p pos tpos : Pos} {nm : Str} (hg : Gl X "zip") (hm : X.mg "zip" = none) (ha : PA X [e, e2] ta)
    (hs : starEach [e, e2] X.env = (false, eval e X.env) :: starEach [e2] X.env := by rfl) (hpl : (backTo pos (starEach [e2] X.env)).any (·.1) = false := by rfl) :
    PI X (.Name nm tpos) (.Call (.Name "zip" p) [e, e2] [] pos) (iZip X.K ta) := by
  refine ⟨fun pins s σ H R I h => ?_⟩
  refine Call_ (ld_blt I hg hm boot_zip (callWith_type1 (thn (ha.run pos pins s σ H _ I h) fun us s1 ⟨vs, H1, I1, r1, q1⟩ => ?_) hs hpl))
  obtain ⟨a, b, xs, ys, ex, hqx, hqy, q⟩ := q1
  subst ex
  obtain ⟨rfl⟩ : us = [.ref a, .ref b] := by
    cases r1 with
    | cons r rr =>
      cases rr with
      | cons r' rr =>
        cases rr
        cases r
        cases r'
        rfl
  obtain ⟨its, rv, p1, _⟩ := I1.list hqx
  obtain ⟨its2, rv2, p2, _⟩ := I1.list hqy
  refine call_zip_2 p1.isList p2.isList fun h' hz hTI hTO h1 h2 hsz hk => wpAny_pyIter_zip hz ?_
  have I2 : L2.Inv X pins σ H1 { s1 with heap := h' } := I1.kept (t' := s1.toks) hk
  refine ⟨s1.heap.objs.size + 4, [s1.heap.objs.size + 4, s1.heap.objs.size + 2, s1.heap.objs.size + 3, s1.heap.objs.size, s1.heap.objs.size + 1], _, _, H1, rfl, I2, turn_zipN (PySem.W.ktu_apart s1.heap.objs.size a b p1.lt p2.lt), ⟨.inl hz, hTI, ⟨_, _, hTO⟩, h1, h2⟩, fun c hcm => ?_, q⟩
  have hle : s1.heap.objs.size ≤ c := by
    rcases (show c = s1.heap.objs.size + 4 ∨ c = s1.heap.objs.size + 2 ∨ c = s1.heap.objs.size + 3 ∨ c = s1.heap.objs.size ∨ c = s1.heap.objs.size + 1 by simpa using hcm) with z | z | z | z | z <;> rw [z] <;>
      first | exact Nat.le_add_right _ _ | exact Nat.le_refl _
  exact I1.fpOk hle (I1.hok.fresh hle)
end Bw

namespace Bw
open PySem PySem.Spec PyProof.Rows L2
open C8 (Cal pe_c pe_gc)
/-- the text by places -/
def top (i : Nat) : Stmt := PySem.Challenge.pw_buswindows_k31_whole_fewer_and_smaller.main.body.getD i (.Pass ⟨0, 0, 0, 0⟩)
/-- what the module's names hold: built-ins, and the four constants -/
structure Bi (mg : Str → Option Value) (kd : Addr) : Prop where
  len : mg "len" = none
  tuple : mg "tuple" = none
  list : mg "list" = none
  sum : mg "sum" = none
  sorted : mg "sorted" = none
  set : mg "set" = none
  all : mg "all" = none
  any : mg "any" = none
  isinstance : mg "isinstance" = none
  int : mg "int" = none
  bool : mg "bool" = none
  str : mg "str" = none
  min : mg "min" = none
  max : mg "max" = none
  abs : mg "abs" = none
  range : mg "range" = none
  zip : mg "zip" = none
  enumerate : mg "enumerate" = none
  SPACE : ∃ u, mg "SPACE" = some u ∧ RelV (.int 281474976710656) u
  LEAST : ∃ u, mg "LEAST" = some u ∧ RelV (.int 16) u
  GRAIN : ∃ u, mg "GRAIN" = some u ∧ RelV (.int 4096) u
  KINDS : ∃ u, mg "KINDS" = some u ∧ RelV (.ref kd) u
/-- a def of the text as it stands behind the top, with how it is called -/
structure At (K : PySem.W.Frag) (mg : Str → Option Value) (x : Str) (st : Stmt) (ps : List Str) : Prop where
  ex : ∃ (f : Addr) (fd : FuncData), Fun K x x st f fd ∧ mg x = some (.ref f) ∧ Binds K fd ps []
section
variable {P : Program} {w : World} {K : PySem.W.Frag} {mg : Str → Option Value} {base : Heap}
/-- the rule for a def -/
theorem At.ok {x : Str} {st : Stmt} {N ps : List Str} {k : Nat} {sp : Sp} (T : At K mg x st ps) (S : FnScope N ps (defScope st)) (len : ∀ vs H Q E, sp vs H Q E → vs.length = ps.length)
    (hbody : ∀ (f : Addr) (cdv : Value) (A : Around) (outer : List Env) (s : Shared) (H : Hp) (vs : List V) (Q : VK) (E : XK), Room k (A.deeper (envOfC x (defScope st) s.heap.objs.size f cdv)) → sp vs H Q E →
      ∃ t, PSs (cxOf CX0 P w K mg base N x (defScope st) f cdv A outer s H E).nox (defBody st) t ∧ t ⟨fun _ H' => Q .non H', Q, fun _ _ => False, fun _ _ => False⟩ (L2.start N vs) H) : Cal P w K mg base (k + 1) x sp [] := by
  obtain ⟨f, fd, F, m, b⟩ := T.ex
  exact ⟨f, fd, ps, [], F.ok S len fun cdv A outer s H vs Q E hr h => hbody f cdv A outer s H vs Q E hr h, m, F.kp, b, .nil⟩
theorem cal_mono {x : Str} {j k : Nat} {sp : Sp} (c : Cal P w K mg base j x sp []) (h : j ≤ k) : Cal P w K mg base k x sp [] := by
  obtain ⟨f, fd, ps, ds, F, m, kp, b, d⟩ := c.ex
  exact ⟨f, fd, ps, ds, F.mono h, m, kp, b, d⟩
theorem cal_imp {x : Str} {k : Nat} {sp sp' : Sp} (c : Cal P w K mg base k x sp []) (h : ∀ vs H Q E, sp' vs H Q E → sp vs H Q E) : Cal P w K mg base k x sp' [] := by
  obtain ⟨f, fd, ps, ds, F, m, kp, b, d⟩ := c.ex
  exact ⟨f, fd, ps, ds, F.imp h, m, kp, b, d⟩
end

/-! ### rules whose readings name K itself: within a comprehension's block the context's own field would name the block -/
section
variable {X : Cx} {K : PySem.W.Frag}
theorem ix_tupK (h : X.K = K) : IxR X (rIxT K) := by subst h; exact ix_tup
theorem ix_listK (h : X.K = K) : IxR X (rIxL K) := by subst h; exact ix_list
theorem call_len_seqK (h : X.K = K) : CallR X (.builtin "len") (fun xs H Q => ∃ p ys, xs = [.ref p] ∧ (SqL K H p ys ∨ SqT K H p ys) ∧ Q (.int ys.length) H) := by subst h; exact call_len_seq
theorem call_tuple_ofK (h : X.K = K) : CallR X (.type "tuple") (fun xs H Q => ∃ p ys, xs = [.ref p] ∧ ((SqL K H p ys ∧ ∀ l, H l = none → Q (.ref l) (upd H l (.tup ys))) ∨ (SqT K H p ys ∧ Q (.ref p) H))) := by subst h; exact call_tuple_of
theorem cr_sumK (h : X.K = K) (hc : X.calm = true) : CallR X (.builtin "sum") (rSum K) := by subst h; exact cr_sum hc
theorem cr_allK (h : X.K = K) (hc : X.calm = true) : CallR X (.builtin "all") (rAll K) := by subst h; exact cr_all hc
theorem cr_anyK (h : X.K = K) (hc : X.calm = true) : CallR X (.builtin "any") (rAny K) := by subst h; exact cr_any hc
theorem op_eqDK (h : X.K = K) (hu : X.A.units + 64 < cLine) : OpR X (compareOp .Eq) (rEqD K) := by subst h; exact op_eqD hu
theorem op_neDK (h : X.K = K) (hu : X.A.units + 64 < cLine) : OpR X (compareOp .NotEq) (rNeD K) := by subst h; exact op_neD hu
theorem op_inK (h : X.K = K) : OpR X (compareOp .In) (rIn K false) := by subst h; exact op_in_seq
theorem pi_tupK {tg l : Expr} {tl : TE} (h : X.K = K) (hl : PE X l tl) : PI X tg l (iTup K tl) := by subst h; exact pi_tup hl
theorem pi_listK {tg l : Expr} {tl : TE} (h : X.K = K) (hl : PE X l tl) : PI X tg l (iList K tl) := by subst h; exact pi_list hl
variable {T : String} {name : Str} {id : String} {o e : Expr} {es : List Expr} {to : TE} {t : TA} {r : V → List V → Hp → VK → Prop} {apos cpos : Pos}
theorem pe_bmK (h : X.K = K) (pa : PlainAttrs T) (slot : Slot T name id) (hty : typeOf (.builtin id) = pure (.type "method_descriptor")) (hm : MtR X id r) (ho : PE X o to) (ha : PA X (e :: es) t)
    (hbase : attributeBase o name X.env (eval o X.env) = eval o X.env := by rfl)
    (hfew : ((backTo cpos (starEach (e :: es) X.env)).all (fun x => !x.1) && (backToKw cpos (keywordEach [] X.env)).all (fun x => x.1.isSome)
      && decide ((e :: es).length + ([] : List Keyword).length + (if ([] : List Keyword).isEmpty then 0 else 1) < 30)) = true := by rfl)
    (hline : (apos.endLine == cpos.line) = true := by rfl) (hs : starEach (e :: es) X.env = (false, eval e X.env) :: starEach es X.env := by rfl) (hplain : (backTo cpos (starEach es X.env)).any (·.1) = false := by rfl) :
    PE X (.Call (.Attribute o name apos) (e :: es) [] cpos) (tBM K T r to t) := by
  subst h
  exact pe_bm pa slot hty hm ho ha hbase hfew hline hs hplain
end
/-! ### name = {k: v for ..} on one line, the name a local -/
section
variable {X : Cx}
theorem sw_dict {kx vx : Expr} {gs : List Comprehension} {scope : Scope} {pos py : Pos} {y : Str} {l : Nat} {env : Env} (hk : env.scope.kind = .function) (hy : env.scope.names.lookup y = some .local) (hl : (py.line == pos.line) = true)
    (ha : (scope.names.any fun (n, k) => n == y && (k == .local || k == .cell)) = false) : swapsWith (.DictComp kx vx gs scope pos) (some (.Name y py)) l env = pure true := by
  have ky : env.kindOf y = some .local := hy
  have hb : env.blockKind = .function := by unfold Env.blockKind; rw [hk]; rfl
  unfold swapsWith
  simp only [hb, ky, ha, Expr.pos, hl]
  rfl
theorem ps_setDc {i : Nat} {y : Str} {py : Pos} {kx vx tg iter : Expr} {ifs : List Expr} {scope : Scope} {own : List (Str × Nat)} {pos spos : Pos} {wi : TI} {g : TG} {tt : TT} {tk tv : TE} (hc : X.calm = true) (hN : X.N.Nodup) (hy : X.N[i]? = some y) (hyl : X.env.scope.names.lookup y = some .local)
    (hsw : swapsWith (.DictComp kx vx [⟨tg, iter, ifs, 0⟩] scope pos) (some (.Name y py)) spos.line X.env = pure true) (hi : PI X tg iter wi) (ok : BlkOk X.N X.env.scope scope own)
    (hg : ∀ (s : Shared) (H : Hp) (C : Addr) (cl : List (Str × Addr)) (fp : List Addr), PG (X.blk s H scope (compEnvC scope cl C X.env) fp) tg g) (ht : ∀ (s : Shared) (H : Hp) (C : Addr) (cl : List (Str × Addr)) (fp : List Addr), PTs (X.blk s H scope (compEnvC scope cl C X.env) fp) ifs tt)
    (hk : ∀ (s : Shared) (H : Hp) (C : Addr) (cl : List (Str × Addr)) (fp : List Addr), PE (X.blk s H scope (compEnvC scope cl C X.env) fp) kx tk)
    (he : ∀ (s : Shared) (H : Hp) (C : Addr) (cl : List (Str × Addr)) (fp : List Addr), PE (X.blk s H scope (compEnvC scope cl C X.env) fp) vx tv) (hs : ∀ x, foldedSetIterable iter X.env x = pure x := by intro _; rfl) :
    PS X (.Assign [.Name y py] (.DictComp kx vx [⟨tg, iter, ifs, 0⟩] scope pos) spos) (tAsg (tDc wi g tt tk tv (own.map (·.2))) (gName i)) := by
  refine ⟨fun pins s σ H D I h => ?_⟩
  rw [exec_Assign_Name_used _ _ _ _ hsw]
  refine wpAny_bind (wpAny_standAt (wpAny_bind ?_))
  show wpAny _ X.A (do let _ ← comprehension (.DictComp kx vx [⟨tg, iter, ifs, 0⟩] scope pos) scope X.env (firstIterPos [⟨tg, iter, ifs, 0⟩] pos) newDict false (eval iter X.env) (some (assign (.Name y py) X.env))) _ _ s
  have h : tDc wi g tt tk tv (own.map (·.2)) σ H (fun x H1 => gName i x σ H1 D.nx) := h
  refine wpAny_bind (thn (dc_core (Qf := fun _ s' => SP X pins D .next s') hc hN I hi ok hg ht hk he hs h fun L C s' m H' I' q hn f => ?_) fun _ s' hq => wpAny_pure (wpAny_pure hq))
  show wpAny _ _ (assign (.Name y py) X.env (.ref L)) _ _ _
  refine wpAny_assign_Name (store_ok2 (v := V.ref L) I' hN hy (.inl hyl) rfl (fun s2 I2 ⟨a, sb, ha⟩ => ?_) (.inr hyl))
  obtain ⟨f0, f1, f2, f3, f4, f5⟩ := f
  have haC : C ≠ a := by
    rcases ha with z | z
    · rw [z]; exact f1
    · exact fun e => f4 y a z e.symm
  refine ⟨m, hn.sameBut sb haC, fun h3 sb3 => ?_⟩
  exact ⟨_, H', I2.turned (t' := s2.toks) (fun b o hb e => (sb3.2 b hb).trans e) f0 f1 f3 f4 f5, q⟩
end
end Bw
namespace Bw
open PySem PySem.Spec PyProof.Rows L2
theorem iteNT {A B : Prop} (h : B) : if (!true) = true then A else B := h
theorem iteNF {A B : Prop} (h : A) : if (!false) = true then A else B := h
end Bw

/-! loops and comprehensions over anything that is walked; tests -/
namespace Bw
open PySem PySem.Spec PyProof.Rows L2

theorem ifd {p : Prop} [Decidable p] {A B : Prop} (h1 : p → A) (h2 : ¬ p → B) : if decide p = true then A else B := by
  by_cases h : p
  · rw [decide_eq_true h]; exact h1 h
  · rw [decide_eq_false h]; exact h2 h
theorem ifd1 {p : Prop} [Decidable p] {A B : Prop} (h : p) (a : A) : if decide p = true then A else B := ifd (fun _ => a) fun n => absurd h n
theorem ifd0 {p : Prop} [Decidable p] {A B : Prop} (h : ¬ p) (b : B) : if decide p = true then A else B := ifd (fun z => absurd z h) fun _ => b
theorem ifn {p : Prop} [Decidable p] {A B : Prop} (h1 : ¬ p → A) (h2 : p → B) : if (!decide p) = true then A else B := by
  by_cases h : p
  · rw [decide_eq_true h]; exact h2 h
  · rw [decide_eq_false h]; exact h1 h
theorem ifn1 {p : Prop} [Decidable p] {A B : Prop} (h : ¬ p) (a : A) : if (!decide p) = true then A else B := ifn (fun _ => a) fun z => absurd z h
theorem ifn0 {p : Prop} [Decidable p] {A B : Prop} (h : p) (b : B) : if (!decide p) = true then A else B := ifn (fun n => absurd h n) fun _ => b

section
variable {K : PySem.W.Frag} {w : World} {σ σ' : L2.St} {H : Hp} {Q : VK} {M : List Addr} {nx : L2.St → Hp → Prop} {rt : VK} {bk ct : L2.St → Hp → Prop}
theorem isi_int (i : Int) (q : Q (.bl true) H) : rIsi K [.int i, .ty "int"] H Q := isi_of (.base (.int _)) (by decide +kernel) q
theorem isi_intB (i : Int) (q : Q (.bl false) H) : rIsi K [.int i, .ty "bool"] H Q := isi_of (.base (.int _)) (by decide +kernel) q
theorem isi_str (x : Str) (q : Q (.bl true) H) : rIsi K [.str x, .ty "str"] H Q := isi_of (.base (.str _)) (by decide +kernel) q
theorem isi_non (q : Q (.bl false) H) : rIsi K [.non, .ty "tuple"] H Q := isi_of (.base .non) (by decide +kernel) q
theorem isi_tup {a : Addr} {xs : List V} (h : H a = some (.tup xs)) (q : Q (.bl true) H) : rIsi K [.ref a, .ty "tuple"] H Q := isi_of (.base (.tup h)) (by decide +kernel) q
theorem isi_dt {v : V} {ds : List PyData} (h : Dt H v (.tuple ds)) (q : Q (.bl true) H) : rIsi K [v, .ty "tuple"] H Q := by
  obtain ⟨a, xs, rfl, ha, _⟩ := h.tupE
  exact isi_tup ha q

/-! ### for -/
theorem s_forS {wi : TI} {g : TG} {tb : TS} (q : wi σ H fun J H1 => ∃ W : Nat → Nat → L2.St → Hp → Prop, (∃ m, W 0 m σ H1) ∧ ∀ i m σ H, W i m σ H →
    (J.stop i H ∧ nx σ H) ∨ (J.go i H ∧ ∃ N : L2.St → Hp → Prop, (∀ σ' H', N σ' H' → ∃ m', m' < m ∧ W (i + 1) m' σ' H') ∧ ∀ x H', J.yld i H x H' → g x σ H' fun σ2 H2 => tb ⟨N, rt, nx, N⟩ σ2 H2)) :
    tFor wi g tb ⟨nx, rt, bk, ct⟩ σ H := q
theorem f_W {J : It} {n : Nat} {G : Hp → Prop} {Y : Nat → Hp → V → Hp → Prop} (w : Walk J n G Y) {g : TG} {tb : TS} (Pv : Nat → L2.St → Hp → Prop) (h0 : Pv 0 σ H) (hG : ∀ i σ H, i ≤ n → Pv i σ H → G H)
    (hs : ∀ i x σ H H', i < n → Pv i σ H → Y i H x H' → g x σ H' fun σ2 H2 => tb ⟨Pv (i + 1), rt, nx, Pv (i + 1)⟩ σ2 H2) (hd : ∀ σ H, Pv n σ H → nx σ H) :
    ∃ W : Nat → Nat → L2.St → Hp → Prop, (∃ m, W 0 m σ H) ∧ ∀ i m σ H, W i m σ H →
      (J.stop i H ∧ nx σ H) ∨ (J.go i H ∧ ∃ N : L2.St → Hp → Prop, (∀ σ' H', N σ' H' → ∃ m', m' < m ∧ W (i + 1) m' σ' H') ∧ ∀ x H', J.yld i H x H' → g x σ H' fun σ2 H2 => tb ⟨N, rt, nx, N⟩ σ2 H2) :=
  for_it (D := ⟨nx, rt, fun _ _ => False, fun _ _ => False⟩) w Pv h0 hG hs hd
/-! ### while -/
theorem s_while {c : TT} {tb : TS} (Pv : Nat → L2.St → Hp → Prop) {m0 : Nat} (h0 : Pv m0 σ H) (hs : ∀ m σ H, Pv m σ H → c σ H fun b H1 =>
      if b = true then (∃ N : L2.St → Hp → Prop, (∀ σ' H', N σ' H' → ∃ m', m' < m ∧ Pv m' σ' H') ∧ tb ⟨N, rt, nx, N⟩ σ H1) else nx σ H1) : tWhile c tb ⟨nx, rt, bk, ct⟩ σ H := ⟨Pv, ⟨m0, h0⟩, hs⟩
/-! ### a list comprehension: R of the turn, the list so far, the heap -/
def LcInv (M : List Addr) (H : Hp) (D : Addr) (R : Nat → List V → Hp → Prop) (i : Nat) (H' : Hp) : Prop := Ext M H H' ∧ ∃ acc, H' D = some (.lst acc) ∧ acc.length ≤ i ∧ R i acc H'
theorem lc_put {D : Addr} {R : Nat → List V → Hp → Prop} {i : Nat} {H4 : Hp} {acc : List V} {y : V} (hD : H D = none) (e : Ext M H H4) (h : H4 D = some (.lst acc)) (hl : acc.length ≤ i) (hi : i < 100000)
    (hR : ∀ H5, Ext [D] H4 H5 → R (i + 1) (acc ++ [y]) H5) : ∃ acc, H4 D = some (.lst acc) ∧ acc.length < sizeLine ∧ LcInv M H D R (i + 1) (upd H4 D (.lst (acc ++ [y]))) :=
  ⟨acc, h, by rw [sizeLine_eq]; omega, e.comp (Ext.mutL h) (fun a ha => .inr (by rw [List.mem_singleton.mp ha]; exact hD)), _, upd_same, by rw [List.length_append]; show acc.length + 1 ≤ i + 1; omega, hR _ (Ext.mutL h)⟩
theorem lc_skip {D : Addr} {R : Nat → List V → Hp → Prop} {i : Nat} {H4 : Hp} {acc : List V} (e : Ext M H H4) (h : H4 D = some (.lst acc)) (hl : acc.length ≤ i) (hR : R (i + 1) acc H4) : LcInv M H D R (i + 1) H4 := ⟨e, acc, h, by omega, hR⟩
theorem lc_W {J : It} {n : Nat} {G : Hp → Prop} {Y : Nat → Hp → V → Hp → Prop} (w : Walk J n G Y) {g : TG} {tt : TT} {te : TE} {vs : List Nat} {F : Addr → Hp → Prop} (M : List Addr) (R : Nat → List V → Hp → Prop) (hG : ∀ H', Ext M H H' → G H') (h0 : ∀ H', Ext [] H H' → R 0 [] H')
    (hs : ∀ i x D acc H1 H2, i < n → H D = none → Ext M H H1 → H1 D = some (.lst acc) → acc.length ≤ i → R i acc H1 → Y i H1 x H2 → g x (wipe σ vs) H2 fun σ2 H2 => wipe σ2 vs = wipe σ vs ∧ tt σ2 H2 fun b H3 =>
      if b = true then te σ2 H3 fun y H4 => ∃ acc, H4 D = some (.lst acc) ∧ acc.length < sizeLine ∧ LcInv M H D R (i + 1) (upd H4 D (.lst (acc ++ [y]))) else LcInv M H D R (i + 1) H3)
    (hd : ∀ D acc H', H D = none → Ext M H H' → H' D = some (.lst acc) → acc.length ≤ n → R n acc H' → F D H') :
    ∀ D, H D = none → ∃ W : Nat → Nat → Hp → Prop, (∃ m, W 0 m (upd H D (.lst []))) ∧ ∀ i m H, W i m H →
      (J.stop i H ∧ F D H) ∨ (J.go i H ∧ ∃ Nx : Hp → Prop, (∀ H', Nx H' → ∃ m', m' < m ∧ W (i + 1) m' H') ∧ ∀ x H', J.yld i H x H' → g x (wipe σ vs) H' fun σ2 H2 => wipe σ2 vs = wipe σ vs ∧ tt σ2 H2 fun b H3 =>
        if b = true then te σ2 H3 fun y H4 => ∃ acc, H4 D = some (.lst acc) ∧ acc.length < sizeLine ∧ Nx (upd H4 D (.lst (acc ++ [y]))) else Nx H3) := fun D hD =>
  lc_it w (LcInv M H D R) ⟨Ext.new hD, [], upd_same, Nat.le_refl _, h0 _ (Ext.new hD)⟩ (fun i H' _ p => hG H' p.1)
    (fun i x H1 H2 hi p y => by
      obtain ⟨e, acc, h, hl, r⟩ := p
      exact hs i x D acc H1 H2 hi hD e h hl r y)
    (fun H' p => by
      obtain ⟨e, acc, h, hl, r⟩ := p
      exact hd D acc H' hD e h hl r)
/-- the first step of a comprehension: what is walked -/
theorem s_lc {wi : TI} {g : TG} {tt : TT} {te : TE} {vs : List Nat} (q : wi σ H fun J H1 => ∀ D, H1 D = none → ∃ W : Nat → Nat → Hp → Prop, (∃ m, W 0 m (upd H1 D (.lst []))) ∧ ∀ i m H, W i m H →
      (J.stop i H ∧ Q (.ref D) H) ∨ (J.go i H ∧ ∃ Nx : Hp → Prop, (∀ H', Nx H' → ∃ m', m' < m ∧ W (i + 1) m' H') ∧ ∀ x H', J.yld i H x H' → g x (wipe σ vs) H' fun σ2 H2 => wipe σ2 vs = wipe σ vs ∧ tt σ2 H2 fun b H3 =>
        if b = true then te σ2 H3 fun y H4 => ∃ acc, H4 D = some (.lst acc) ∧ acc.length < sizeLine ∧ Nx (upd H4 D (.lst (acc ++ [y]))) else Nx H3)) : tLc wi g tt te vs σ H Q := q
/-! what is walked -/
theorem s_iTup {te : TE} {R : It → Hp → Prop} (q : te σ H fun x H1 => ∃ a, x = .ref a ∧ (∃ xs, SqT K H1 a xs) ∧ R (Itt K a) H1) : iTup K te σ H R := q
theorem s_iList {te : TE} {R : It → Hp → Prop} (q : te σ H fun x H1 => ∃ a, x = .ref a ∧ (∃ xs, SqL K H1 a xs) ∧ R (Itl K a) H1) : iList K te σ H R := q
theorem s_itT {F : Addr → Prop} {a : Addr} {xs : List V} (h : H a = some (.tup xs)) (q : F a) : ∃ a', V.ref a = .ref a' ∧ (∃ xs, SqT K H a' xs) ∧ F a' := ⟨a, rfl, ⟨xs, SqT.of h⟩, q⟩
theorem s_itL {F : Addr → Prop} {a : Addr} {xs : List V} (h : H a = some (.lst xs)) (q : F a) : ∃ a', V.ref a = .ref a' ∧ (∃ xs, SqL K H a' xs) ∧ F a' := ⟨a, rfl, ⟨xs, SqL.of h⟩, q⟩
theorem s_iRng1 {ta : TA} {R : It → Hp → Prop} (q : ta σ H fun vs H1 => ∃ j : Int, vs = [.int j] ∧ -(2 ^ 62) ≤ j ∧ j < 2 ^ 62 ∧ R (Itr 0 j.toNat) H1) : iRng1 ta σ H R := q
theorem s_iRng2 {ta : TA} {R : It → Hp → Prop} (q : ta σ H fun vs H1 => ∃ i j : Int, vs = [.int i, .int j] ∧ (-(2 ^ 62) ≤ i ∧ i < 2 ^ 62 ∧ -(2 ^ 62) ≤ j ∧ j < 2 ^ 62) ∧ R (Itr i (j - i).toNat) H1) : iRng2 ta σ H R := q
theorem s_tYes {QB : Bool → Hp → Prop} (q : QB true H) : tYes σ H QB := q
end
section
variable {K : PySem.W.Frag} {a b : Addr} {xs ys : List V}
theorem walk_enumT : Walk (IteT K a xs) xs.length (fun H => SqT K H a xs) (YPair (fun i => some (.int (i : Nat))) (fun i => xs[i]?)) := by
  refine ⟨fun i _ hi q => ⟨q, hi⟩, fun _ q => ⟨q, Nat.le_refl _⟩, fun i H v H' _ q y => ?_⟩
  obtain ⟨T, x, h1, h2, h3, h4⟩ := y
  exact ⟨T, .int (i : Nat), x, h1, h2, h3, rfl, h4⟩
theorem walk_zipM {n : Nat} (hx : xs.length = n) (hy : ys.length = n) : Walk (ItzM K a b xs ys) n (fun H => SqL K H a xs ∧ SqT K H b ys) (YPair (fun i => xs[i]?) (fun i => ys[i]?)) :=
  ⟨fun i _ hi q => ⟨q.1, q.2, by omega, by omega⟩, fun _ q => ⟨q.1, q.2, .inl hx, by omega, by omega⟩, fun i H v H' _ q y => y⟩
theorem walk_zipT {n : Nat} (hx : xs.length = n) (hy : ys.length = n) : Walk (RZ.ItzT K a b) n (fun H => SqT K H a xs ∧ SqT K H b ys) (YPair (fun i => xs[i]?) (fun i => ys[i]?)) := by
  refine ⟨fun i _ hi q => ⟨xs, ys, xs[i]'(by omega), ys[i]'(by omega), q.1, q.2, List.getElem?_eq_getElem (by omega), List.getElem?_eq_getElem (by omega)⟩, fun _ q => ⟨xs, ys, q.1, q.2, .inl (by omega)⟩, fun i H v H' _ q y => ?_⟩
  obtain ⟨T, x, z, h1, h2, h3, h4, h5⟩ := y
  exact ⟨T, x, z, h1, h2, h3, h4 _ q.1, h5 _ q.2⟩
end
/-- a new pair on the heap -/
theorem YPair.get {xs ys : Nat → Option V} {i : Nat} {H H' : Hp} {v : V} (y : YPair xs ys i H v H') : ∃ T x z, v = .ref T ∧ H T = none ∧ Ext [] H H' ∧ H' T = some (.tup [x, z]) ∧ xs i = some x ∧ ys i = some z := by
  obtain ⟨T, x, z, h1, h2, h3, h4, h5⟩ := y
  subst h3
  exact ⟨T, x, z, h1, h2, Ext.new h2, upd_same, h4, h5⟩

/-! built-ins by named readings -/
section
variable {X : Cx} {K : PySem.W.Frag} {H : Hp} {Q : VK}
def rLen (K : PySem.W.Frag) : List V → Hp → VK → Prop := fun xs H Q => ∃ p ys, xs = [.ref p] ∧ (SqL K H p ys ∨ SqT K H p ys) ∧ Q (.int ys.length) H
def rTupOf (K : PySem.W.Frag) : List V → Hp → VK → Prop := fun xs H Q => ∃ p ys, xs = [.ref p] ∧ ((SqL K H p ys ∧ ∀ l, H l = none → Q (.ref l) (upd H l (.tup ys))) ∨ (SqT K H p ys ∧ Q (.ref p) H))
def rLstOf (K : PySem.W.Frag) : List V → Hp → VK → Prop := fun xs H Q => ∃ p ys, xs = [.ref p] ∧ (SqL K H p ys ∨ SqT K H p ys) ∧ ∀ l, H l = none → Q (.ref l) (upd H l (.lst ys))
def rInt1 : List V → Hp → VK → Prop := fun xs H Q => (∃ i, xs = [.int i] ∧ Q (.int i) H) ∨ ∃ k, xs = [.bl k] ∧ Q (.int (if k then 1 else 0)) H
def rMin2 : List V → Hp → VK → Prop := fun xs H Q => ∃ i j, xs = [.int i, .int j] ∧ Q (.int (if j < i then j else i)) H
def rMax2 : List V → Hp → VK → Prop := fun xs H Q => ∃ i j, xs = [.int i, .int j] ∧ Q (.int (if j > i then j else i)) H
def rAbs1 : List V → Hp → VK → Prop := fun xs H Q => ∃ i, xs = [.int i] ∧ Q (.int (if i < 0 then -i else i)) H
theorem call_lenR (h : X.K = K) : CallR X (.builtin "len") (rLen K) := by subst h; exact call_len_seq
theorem call_tupR (h : X.K = K) : CallR X (.type "tuple") (rTupOf K) := by subst h; exact call_tuple_of
theorem call_lstR (h : X.K = K) : CallR X (.type "list") (rLstOf K) := by subst h; exact call_list_of
theorem call_intR : CallR X (.type "int") rInt1 := call_int1
theorem call_minR (hc : X.calm = true) : CallR X (.builtin "min") rMin2 := call_min2 hc
theorem call_maxR (hc : X.calm = true) : CallR X (.builtin "max") rMax2 := call_max2 hc
theorem call_absR : CallR X (.builtin "abs") rAbs1 := call_abs
theorem s_lenL {a : Addr} {xs : List V} (h : H a = some (.lst xs)) (q : Q (.int xs.length) H) : rLen K [.ref a] H Q := ⟨a, xs, rfl, .inl (SqL.of h), q⟩
theorem s_lenT {a : Addr} {xs : List V} (h : H a = some (.tup xs)) (q : Q (.int xs.length) H) : rLen K [.ref a] H Q := ⟨a, xs, rfl, .inr (SqT.of h), q⟩
theorem s_lenD {x : V} {ds : List PyData} (h : Dt H x (.tuple ds)) (q : Q (.int ds.length) H) : rLen K [x] H Q := by
  obtain ⟨a, xs, rfl, ha, hs⟩ := h.tupE
  exact ⟨a, xs, rfl, .inr (SqT.of ha), by rw [hs.len]; exact q⟩
theorem s_tupOf {a : Addr} {xs : List V} (h : H a = some (.lst xs)) (q : ∀ p H', H p = none → Ext [] H H' → H' p = some (.tup xs) → Q (.ref p) H') : rTupOf K [.ref a] H Q := ⟨a, xs, rfl, .inl ⟨SqL.of h, s_new q⟩⟩
/-- .. as data -/
theorem s_tupOfD {a : Addr} {xs : List V} {ds : List PyData} (h : H a = some (.lst xs)) (hd : DtAll H xs ds) (q : ∀ v H', Ext [] H H' → Dt H' v (.tuple ds) → Q v H') : rTupOf K [.ref a] H Q :=
  s_tupOf h fun p H' _ e hp => q _ _ e (.tup hp (hd.ext e))
theorem s_lstOfD {v : V} {ds : List PyData} (h : Dt H v (.tuple ds)) (q : ∀ p xs H', H p = none → Ext [] H H' → H' p = some (.lst xs) → DtAll H' xs ds → Q (.ref p) H') : rLstOf K [v] H Q := by
  obtain ⟨a, xs, rfl, ha, hs⟩ := h.tupE
  exact ⟨a, xs, rfl, .inr (SqT.of ha), s_new fun p H' hp e h' => q p xs H' hp e h' (hs.ext e)⟩
theorem s_intI {i : Int} (q : Q (.int i) H) : rInt1 [.int i] H Q := .inl ⟨i, rfl, q⟩
theorem s_intB {k : Bool} (q : Q (.int (if k then 1 else 0)) H) : rInt1 [.bl k] H Q := .inr ⟨k, rfl, q⟩
theorem s_min2 {i j : Int} (q : Q (.int (min i j)) H) : rMin2 [.int i, .int j] H Q := ⟨i, j, rfl, by rw [show (if j < i then j else i) = min i j by split <;> omega]; exact q⟩
theorem s_max2 {i j : Int} (q : Q (.int (max i j)) H) : rMax2 [.int i, .int j] H Q := ⟨i, j, rfl, by rw [show (if j > i then j else i) = max i j by split <;> omega]; exact q⟩
theorem s_abs {i : Int} (q : Q (.int (i.natAbs : Nat)) H) : rAbs1 [.int i] H Q := ⟨i, rfl, by rw [show (if i < 0 then -i else i) = ((i.natAbs : Nat) : Int) by split <;> omega]; exact q⟩
/-- a new tuple as data -/
theorem s_newD {xs : List V} {ds : List PyData} (hl : xs.length ≤ sizeLine) (hd : DtAll H xs ds) (q : ∀ v H', Ext [] H H' → Dt H' v (.tuple ds) → Q v H') : NewX xs.length (.tup xs) H Q :=
  ⟨hl, s_new fun p H' _ e h => q _ _ e (.tup h (hd.ext e))⟩
end

/-! looks at a goal's head, ahead of dearer steps -/
section
variable {K : PySem.W.Frag} {σ σ0 : L2.St} {H : Hp} {Q : VK} {x y v : V} {vs : List V} {n : Nat} {nx : L2.St → Hp → Prop} {rt : VK} {bk ct : L2.St → Hp → Prop} {T : String} {P : Prop} {gs : TGs} {F : Addr → Prop}
theorem g_ixT (q : rIxT K x y H Q) : rIxT K x y H Q := q
theorem g_isi (q : rIsi K vs H Q) : rIsi K vs H Q := q
theorem g_len (q : rLen K vs H Q) : rLen K vs H Q := q
theorem g_ty (q : tyV K T v H ∧ P) : tyV K T v H ∧ P := q
theorem g_gtup (q : gTup K n gs v σ H nx) : gTup K n gs v σ H nx := q
theorem g_itT (q : ∃ a', v = V.ref a' ∧ (∃ xs, SqT K H a' xs) ∧ F a') : ∃ a', v = V.ref a' ∧ (∃ xs, SqT K H a' xs) ∧ F a' := q
theorem g_itL (q : ∃ a', v = V.ref a' ∧ (∃ xs, SqL K H a' xs) ∧ F a') : ∃ a', v = V.ref a' ∧ (∃ xs, SqL K H a' xs) ∧ F a' := q
theorem g_name (q : gName n v σ H nx) : gName n v σ H nx := q
theorem g_nx (q : Ends.nx ⟨nx, rt, bk, ct⟩ σ0 H) : Ends.nx ⟨nx, rt, bk, ct⟩ σ0 H := q
end
theorem take1 {α : Type} {l : List α} {i : Nat} {a : α} (h : l[i]? = some a) : l.take (i + 1) = l.take i ++ [a] := by
  rw [List.take_add_one, h]; rfl
theorem map_at {α β : Type} {f : α → β} {l : List α} {i : Nat} {d : β} (h : (l.map f)[i]? = some d) : ∃ a, l[i]? = some a ∧ d = f a := by
  rw [List.getElem?_map] at h
  cases e : l[i]? with
  | none => rw [e] at h; cases h
  | some a => rw [e] at h; exact ⟨a, rfl, (Option.some.inj h).symm⟩
theorem at_lt {α : Type} {l : List α} {i : Nat} {a : α} (h : l[i]? = some a) : i < l.length := (List.getElem?_eq_some_iff.mp h).1
end Bw

/-! the mathematics: powers of two, sizes, what fits -/
namespace Bw
open PySem

/-! ### powers of two -/
def P2 (s : Int) : Prop := ∃ j : Nat, s = 2 ^ j
theorem P2.pos {s : Int} (h : P2 s) : 0 < s := by
  obtain ⟨j, rfl⟩ := h
  exact Int.pow_pos (by decide)
theorem P2.two {s : Int} (h : P2 s) : P2 (2 * s) := by
  obtain ⟨j, rfl⟩ := h
  exact ⟨j + 1, by rw [Int.pow_succ, Int.mul_comm]⟩
theorem pow_cast (j : Nat) : ((2 : Int) ^ j) = ((2 ^ j : Nat) : Int) := by
  induction j with
  | zero => rfl
  | succ j ih => rw [Int.pow_succ, Nat.pow_succ, ih]; simp
theorem P2.dvd {s t : Int} (hs : P2 s) (ht : P2 t) (h : s ≤ t) : s ∣ t := by
  obtain ⟨i, rfl⟩ := hs
  obtain ⟨j, rfl⟩ := ht
  rw [pow_cast, pow_cast] at h
  have h' : 2 ^ i ≤ 2 ^ j := by omega
  have hij : i ≤ j := (Nat.pow_le_pow_iff_right (by decide)).mp h'
  rw [pow_cast, pow_cast]
  exact Int.ofNat_dvd.mpr (Nat.pow_dvd_pow 2 hij)
theorem P2.shl {s : Int} (h : P2 s) (k : Nat) : P2 (s * 2 ^ k) := by
  obtain ⟨j, rfl⟩ := h
  exact ⟨j + k, by rw [Int.pow_add]⟩
theorem p2_4096 : P2 4096 := ⟨12, rfl⟩
theorem P2.half {s : Int} (h : P2 s) (h1 : 1 < s) : P2 (s / 2) ∧ s = 2 * (s / 2) := by
  obtain ⟨j, rfl⟩ := h
  cases j with
  | zero => exact absurd h1 (by decide)
  | succ j =>
    have e : (2 : Int) ^ (j + 1) = 2 * 2 ^ j := by rw [Int.pow_succ, Int.mul_comm]
    rw [e, Int.mul_ediv_cancel_left _ (by decide)]
    exact ⟨⟨j, rfl⟩, rfl⟩

/-! ### the least power of two that is at least a number, and at least 4096 -/
def pwF : Nat → Int → Int → Int
  | 0, w, _ => w
  | f + 1, w, n => if w < n then pwF f (2 * w) n else w
def pw (n : Int) : Int := pwF n.toNat 4096 n
theorem pwF_p2 : ∀ (f : Nat) (w n : Int), P2 w → P2 (pwF f w n)
  | 0, w, n, h => h
  | f + 1, w, n, h => by
    unfold pwF
    split
    · exact pwF_p2 f _ _ h.two
    · exact h
theorem pwF_ge : ∀ (f : Nat) (w n : Int), 0 < w → w ≤ pwF f w n
  | 0, w, n, _ => Int.le_refl _
  | f + 1, w, n, h => by
    unfold pwF
    split
    · have := pwF_ge f (2 * w) n (by omega)
      omega
    · exact Int.le_refl _
theorem pwF_enough : ∀ (f : Nat) (w n : Int), 0 < w → n ≤ w + f → n ≤ pwF f w n
  | 0, w, n, _, h => by unfold pwF; omega
  | f + 1, w, n, h0, h => by
    unfold pwF
    split
    · exact pwF_enough f _ _ (by omega) (by omega)
    · omega
theorem pwF_least : ∀ (f : Nat) (w n u : Int), P2 w → P2 u → w ≤ u → n ≤ u → pwF f w n ≤ u
  | 0, w, n, u, _, _, h, _ => h
  | f + 1, w, n, u, hw, hu, h, hn => by
    unfold pwF
    split
    · rename_i hlt
      have hd := hw.dvd hu h
      obtain ⟨c, rfl⟩ := hd
      have hp := hw.pos
      have hc : 2 ≤ c := by
        by_cases q : c < 2
        · have : c ≤ 1 := by omega
          have : w * c ≤ w * 1 := Int.mul_le_mul_of_nonneg_left this (by omega)
          omega
        · omega
      have : w * 2 ≤ w * c := Int.mul_le_mul_of_nonneg_left hc (by omega)
      exact pwF_least f _ _ _ hw.two hu (by omega) hn
    · exact h
/-- going on from w with less fuel gives the same, as long as the fuel is enough -/
theorem pwF_fuel : ∀ (f g : Nat) (w n : Int), 0 < w → n ≤ w + f → n ≤ w + g → pwF f w n = pwF g w n
  | 0, 0, _, _, _, _, _ => rfl
  | 0, g + 1, w, n, h, h1, h2 => by
    unfold pwF
    rw [if_neg (by omega)]
  | f + 1, 0, w, n, h, h1, h2 => by
    unfold pwF
    rw [if_neg (by omega)]
  | f + 1, g + 1, w, n, h, h1, h2 => by
    unfold pwF
    split
    · exact pwF_fuel f g _ _ (by omega) (by omega) (by omega)
    · rfl
theorem pw_p2 (n : Int) : P2 (pw n) := pwF_p2 _ _ _ p2_4096
theorem pw_ge (n : Int) : n ≤ pw n := pwF_enough _ _ _ (by decide) (by omega)
theorem pw_big (n : Int) : 4096 ≤ pw n := pwF_ge _ _ _ (by decide)
theorem pw_least {n u : Int} (hu : P2 u) (h : 4096 ≤ u) (hn : n ≤ u) : pw n ≤ u := pwF_least _ _ _ _ p2_4096 hu h hn
theorem pw_mono {n m : Int} (h : n ≤ m) : pw n ≤ pw m := pw_least (pw_p2 m) (pw_big m) (Int.le_trans h (pw_ge m))
/-- what the loop «while w < n: w = 2 * w» keeps: the way from w on leads to pw n -/
def PwAt (n w : Int) : Prop := 0 < w ∧ pwF n.toNat w n = pw n
theorem pwAt0 (n : Int) : PwAt n 4096 := ⟨by decide, rfl⟩
theorem PwAt.next {n w : Int} (h : PwAt n w) (hlt : w < n) : PwAt n (2 * w) := by
  refine ⟨by have := h.1; omega, ?_⟩
  rw [← h.2]
  have h0 := h.1
  obtain ⟨f, hf⟩ : ∃ f, n.toNat = f + 1 := ⟨n.toNat - 1, by omega⟩
  conv => rhs; rw [hf]; unfold pwF; rw [if_pos hlt]
  exact pwF_fuel _ _ _ _ (by omega) (by omega) (by omega)
theorem PwAt.done {n w : Int} (h : PwAt n w) (hge : ¬ w < n) : w = pw n := by
  rw [← h.2]
  cases hn : n.toNat with
  | zero => rfl
  | succ f => unfold pwF; rw [if_neg hge]
/-- the least window over some sizes -/
def lw (zs : List Int) : Int := if zs = [] then 0 else pw zs.sum
theorem lw_nil : lw [] = 0 := rfl
theorem lw_pos {zs : List Int} (h : zs ≠ []) : lw zs = pw zs.sum := if_neg h
theorem lw_cases (zs : List Int) : (zs = [] ∧ lw zs = 0) ∨ (zs ≠ [] ∧ 4096 ≤ lw zs ∧ P2 (lw zs) ∧ zs.sum ≤ lw zs) := by
  by_cases h : zs = []
  · exact .inl ⟨h, by rw [h]; rfl⟩
  · refine .inr ⟨h, ?_⟩
    rw [lw_pos h]
    exact ⟨pw_big _, pw_p2 _, pw_ge _⟩
theorem lw_nonneg (zs : List Int) : 0 ≤ lw zs := by
  rcases lw_cases zs with h | h
  · rw [h.2]; exact Int.le_refl _
  · omega
theorem lw_zero {zs : List Int} : lw zs = 0 ↔ zs = [] := by
  rcases lw_cases zs with h | h
  · exact ⟨fun _ => h.1, fun _ => h.2⟩
  · exact ⟨fun z => by omega, fun z => absurd z h.1⟩

/-! ### sizes in a room -/
abbrev Blk := Int × Int
def wfS (sizes : List Int) (s : Int) : Int := (sizes.filter fun z => decide (z ≥ s)).sum
def capR (room : List Blk) (s : Int) : Int := ((room.filter fun b => decide (b.2 ≥ s)).map (·.2)).sum
def Fits (room : List Blk) (sizes : List Int) : Prop := ∀ s ∈ sizes, wfS sizes s ≤ capR room s
theorem wfS_cons (x : Int) (xs : List Int) (s : Int) : wfS (x :: xs) s = (if x ≥ s then x else 0) + wfS xs s := by
  unfold wfS
  rw [List.filter_cons]
  by_cases h : x ≥ s
  · rw [if_pos (decide_eq_true h), if_pos h, List.sum_cons]
  · rw [if_neg (by simpa using h), if_neg h]; omega
theorem wfS_append (xs ys : List Int) (s : Int) : wfS (xs ++ ys) s = wfS xs s + wfS ys s := by
  induction xs with
  | nil => show wfS ys s = 0 + wfS ys s; omega
  | cons x r ih => rw [List.cons_append, wfS_cons, wfS_cons, ih]; omega
theorem capR_cons (b : Blk) (r : List Blk) (s : Int) : capR (b :: r) s = (if b.2 ≥ s then b.2 else 0) + capR r s := by
  unfold capR
  rw [List.filter_cons]
  by_cases h : b.2 ≥ s
  · rw [if_pos (decide_eq_true h), if_pos h, List.map_cons, List.sum_cons]
  · rw [if_neg (by simpa using h), if_neg h]; omega
theorem capR_anti : ∀ {room : List Blk} {s t : Int}, (∀ b ∈ room, 0 ≤ b.2) → s ≤ t → capR room t ≤ capR room s
  | [], s, t, _, _ => Int.le_refl _
  | b :: r, s, t, h, hst => by
    rw [capR_cons, capR_cons]
    have ih := capR_anti (room := r) (fun c hc => h c (List.mem_cons_of_mem _ hc)) hst
    have hb := h b List.mem_cons_self
    split <;> split <;> omega
theorem capR_nonneg : ∀ {room : List Blk} {s : Int}, (∀ b ∈ room, 0 ≤ b.2) → 0 ≤ capR room s
  | [], _, _ => Int.le_refl _
  | b :: r, s, h => by
    rw [capR_cons]
    have ih := capR_nonneg (room := r) (s := s) fun c hc => h c (List.mem_cons_of_mem _ hc)
    have hb := h b List.mem_cons_self
    split <;> omega
theorem wfS_perm {xs ys : List Int} (h : xs.Perm ys) (s : Int) : wfS xs s = wfS ys s := by
  induction h with
  | nil => rfl
  | cons x _ ih => rw [wfS_cons, wfS_cons, ih]
  | swap x y l => rw [wfS_cons, wfS_cons, wfS_cons, wfS_cons]; omega
  | trans _ _ a b => rw [a, b]
theorem Fits.perm {room : List Blk} {xs ys : List Int} (h : xs.Perm ys) (f : Fits room xs) : Fits room ys := fun s hs => by
  rw [← wfS_perm h]
  exact f s (h.mem_iff.mpr hs)
/-- the least of the items from s on -/
theorem least_from : ∀ (xs : List Int) (s : Int), (∃ x ∈ xs, s ≤ x) → ∃ m ∈ xs, s ≤ m ∧ ∀ x ∈ xs, s ≤ x → m ≤ x
  | [], _, h => by obtain ⟨_, hx, _⟩ := h; cases hx
  | y :: r, s, h => by
    by_cases hr : ∃ x ∈ r, s ≤ x
    · obtain ⟨m, hm, h1, h2⟩ := least_from r s hr
      by_cases hy : s ≤ y ∧ y ≤ m
      · refine ⟨y, List.mem_cons_self, hy.1, fun x hx hs => ?_⟩
        rcases List.mem_cons.mp hx with rfl | hx
        · exact Int.le_refl _
        · exact Int.le_trans hy.2 (h2 x hx hs)
      · refine ⟨m, List.mem_cons_of_mem _ hm, h1, fun x hx hs => ?_⟩
        rcases List.mem_cons.mp hx with rfl | hx
        · omega
        · exact h2 x hx hs
    · obtain ⟨x, hx, hs⟩ := h
      rcases List.mem_cons.mp hx with rfl | hx
      · refine ⟨x, List.mem_cons_self, hs, fun z hz hzs => ?_⟩
        rcases List.mem_cons.mp hz with rfl | hz
        · exact Int.le_refl _
        · exact absurd ⟨z, hz, hzs⟩ hr
      · exact absurd ⟨x, hx, hs⟩ hr
theorem wfS_none {xs : List Int} {s : Int} (h : ¬ ∃ x ∈ xs, s ≤ x) : wfS xs s = 0 := by
  unfold wfS
  rw [List.filter_eq_nil_iff.mpr fun x hx => by simp only [decide_eq_true_eq]; exact fun q => h ⟨x, hx, q⟩]
  rfl
theorem Fits.all {room : List Blk} {xs : List Int} (hr : ∀ b ∈ room, 0 ≤ b.2) (f : Fits room xs) (s : Int) : wfS xs s ≤ capR room s := by
  by_cases h : ∃ x ∈ xs, s ≤ x
  · obtain ⟨m, hm, h1, h2⟩ := least_from xs s h
    have e : wfS xs s = wfS xs m := by
      unfold wfS
      congr 1
      refine List.filter_congr fun x hx => ?_
      by_cases q : s ≤ x
      · rw [decide_eq_true (show x ≥ s from q), decide_eq_true (show x ≥ m from h2 x hx q)]
      · rw [decide_eq_false (show ¬ x ≥ s from q), decide_eq_false (show ¬ x ≥ m by omega)]
    rw [e]
    exact Int.le_trans (f m hm) (capR_anti hr h1)
  · rw [wfS_none h]
    exact capR_nonneg hr
/-- fewer and smaller -/
inductive Shr : List Int → List Int → Prop where
  | nil : Shr [] []
  | drop {x xs ys} : Shr xs ys → Shr (x :: xs) ys
  | keep {x y xs ys} : y ≤ x → Shr xs ys → Shr (x :: xs) (y :: ys)
theorem Shr.refl : ∀ xs : List Int, Shr xs xs
  | [] => .nil
  | _ :: r => .keep (Int.le_refl _) (Shr.refl r)
theorem Shr.append {a b c d : List Int} (h : Shr a b) (k : Shr c d) : Shr (a ++ c) (b ++ d) := by
  induction h with
  | nil => exact k
  | drop _ ih => exact .drop ih
  | keep q _ ih => exact .keep q ih
theorem Shr.wfS {xs ys : List Int} (h : Shr xs ys) (hp : ∀ x ∈ xs, 0 ≤ x) (s : Int) : wfS ys s ≤ wfS xs s := by
  induction h with
  | nil => exact Int.le_refl _
  | @drop x xs ys _ ih =>
    rw [wfS_cons]
    have q := ih fun z hz => hp z (List.mem_cons_of_mem _ hz)
    have h0 := hp x List.mem_cons_self
    split <;> omega
  | @keep x y xs ys hy _ ih =>
    rw [wfS_cons, wfS_cons]
    have q := ih fun z hz => hp z (List.mem_cons_of_mem _ hz)
    have h0 := hp x List.mem_cons_self
    split <;> split <;> omega
theorem Shr.sum {xs ys : List Int} (h : Shr xs ys) (hp : ∀ x ∈ xs, 0 ≤ x) : ys.sum ≤ xs.sum := by
  induction h with
  | nil => exact Int.le_refl _
  | @drop x xs ys _ ih =>
    rw [List.sum_cons]
    have q := ih fun z hz => hp z (List.mem_cons_of_mem _ hz)
    have h0 := hp x List.mem_cons_self
    omega
  | @keep x y xs ys hy _ ih =>
    rw [List.sum_cons, List.sum_cons]
    have q := ih fun z hz => hp z (List.mem_cons_of_mem _ hz)
    omega
theorem Shr.ne {xs ys : List Int} (h : Shr xs ys) (hy : ys ≠ []) : xs ≠ [] := by
  cases h with
  | nil => exact hy
  | drop _ => exact List.cons_ne_nil _ _
  | keep _ _ => exact List.cons_ne_nil _ _
theorem Shr.fits {room : List Blk} {xs ys : List Int} (h : Shr xs ys) (hp : ∀ x ∈ xs, 0 ≤ x) (hr : ∀ b ∈ room, 0 ≤ b.2) (f : Fits room xs) : Fits room ys := fun s _ => Int.le_trans (h.wfS hp s) (f.all hr s)
theorem Shr.lw {xs ys : List Int} (h : Shr xs ys) (hp : ∀ x ∈ xs, 0 ≤ x) : lw ys ≤ lw xs := by
  by_cases hy : ys = []
  · rw [hy, lw_nil]; exact lw_nonneg _
  · rw [lw_pos hy, lw_pos (h.ne hy)]
    exact pw_mono (h.sum hp)
theorem fits_nil (room : List Blk) : Fits room [] := fun s hs => by cases hs
/-- one block that is as great as all sizes together has room for them -/
theorem fits_one {b : Blk} {xs : List Int} (hp : ∀ x ∈ xs, 0 ≤ x) (h : xs.sum ≤ b.2) : Fits [b] xs := fun s hs => by
  have h1 : ∀ (ys : List Int), (∀ x ∈ ys, 0 ≤ x) → 0 ≤ ys.sum ∧ (∀ y ∈ ys, y ≤ ys.sum) ∧ wfS ys s ≤ ys.sum := by
    intro ys
    induction ys with
    | nil => intro _; exact ⟨Int.le_refl _, (fun y hy => by cases hy), Int.le_refl _⟩
    | cons y r ih =>
      intro q
      obtain ⟨a, c, d⟩ := ih fun z hz => q z (List.mem_cons_of_mem _ hz)
      have h0 := q y List.mem_cons_self
      rw [List.sum_cons, wfS_cons]
      refine ⟨by omega, fun z hz => ?_, by split <;> omega⟩
      rcases List.mem_cons.mp hz with rfl | hz
      · omega
      · have := c z hz; omega
  obtain ⟨a, c, d⟩ := h1 xs hp
  have := c s hs
  rw [capR_cons, if_pos (by omega)]
  show _ ≤ _ + 0
  omega
end Bw

/-! the mathematics: blocks, stretches, placing by turns -/
namespace Bw
open PySem

/-- a block of addresses -/
structure IsBlk (b : Blk) : Prop where
  p2 : P2 b.2
  big : 16 ≤ b.2
  lo : 0 ≤ b.1
  al : b.1 % b.2 = 0
  hi : b.1 + b.2 ≤ 281474976710656
def Apart (b c : Blk) : Prop := b.1 + b.2 ≤ c.1 ∨ c.1 + c.2 ≤ b.1
theorem Apart.symm {b c : Blk} (h : Apart b c) : Apart c b := h.elim .inr .inl
structure RoomOk (r : List Blk) : Prop where
  blk : ∀ b ∈ r, IsBlk b
  ap : r.Pairwise Apart
theorem RoomOk.nn {r : List Blk} (h : RoomOk r) : ∀ b ∈ r, 0 ≤ b.2 := fun b hb => by have := (h.blk b hb).big; omega
theorem RoomOk.nil : RoomOk [] := ⟨(fun _ h => nomatch h), .nil⟩
theorem RoomOk.one {b : Blk} (h : IsBlk b) : RoomOk [b] := ⟨fun c hc => by rw [List.mem_singleton.mp hc]; exact h, List.pairwise_singleton _ _⟩
def Within (b h : Blk) : Prop := h.1 ≤ b.1 ∧ b.1 + b.2 ≤ h.1 + h.2
structure Placed (bs : List Blk) (r : List Blk) : Prop where
  ap : bs.Pairwise Apart
  wi : ∀ b ∈ bs, ∃ h ∈ r, Within b h
theorem placed_nil (r : List Blk) : Placed [] r := ⟨.nil, fun _ h => nomatch h⟩

/-! ### stretches (lo, hi) -/
def cl (t lo : Int) : Int := 0 - (0 - lo) / t * t
def cap1 (t : Int) (p : Blk) : Int := max 0 (p.2 / t * t - cl t p.1)
def capS (t : Int) (ps : List Blk) : Int := (ps.map (cap1 t)).sum
theorem cl_ge {t lo : Int} (ht : 0 < t) : lo ≤ cl t lo ∧ cl t lo < lo + t ∧ t ∣ cl t lo := by
  unfold cl
  have h1 := Int.emod_add_mul_ediv (0 - lo) t
  have h2 := Int.emod_nonneg (0 - lo) (show t ≠ 0 by omega)
  have h3 := Int.emod_lt_of_pos (0 - lo) ht
  have h4 : t * ((0 - lo) / t) = (0 - lo) / t * t := Int.mul_comm _ _
  refine ⟨by omega, by omega, ?_⟩
  exact ⟨0 - (0 - lo) / t, by rw [Int.mul_sub, Int.mul_comm t ((0 - lo) / t)]; omega⟩
theorem fl_le {t hi : Int} (ht : 0 < t) : hi / t * t ≤ hi ∧ hi < hi / t * t + t ∧ t ∣ hi / t * t := by
  have h1 := Int.emod_add_mul_ediv hi t
  have h2 := Int.emod_nonneg hi (show t ≠ 0 by omega)
  have h3 := Int.emod_lt_of_pos hi ht
  have h4 : t * (hi / t) = hi / t * t := Int.mul_comm _ _
  exact ⟨by omega, by omega, ⟨hi / t, h4.symm⟩⟩
/-- multiples of t: one that is greater is greater by t -/
theorem mult_gap {t a b : Int} (ht : 0 < t) (ha : t ∣ a) (hb : t ∣ b) (h : a < b) : a + t ≤ b := by
  obtain ⟨x, rfl⟩ := ha
  obtain ⟨y, rfl⟩ := hb
  have hxy : x < y := by
    by_cases q : x < y
    · exact q
    · have := Int.mul_le_mul_of_nonneg_left (show y ≤ x by omega) (show 0 ≤ t by omega)
      omega
  have : t * (x + 1) ≤ t * y := Int.mul_le_mul_of_nonneg_left (by omega) (by omega)
  rw [Int.mul_add] at this
  omega
theorem cl_least {t lo x : Int} (ht : 0 < t) (hx : t ∣ x) (h : lo ≤ x) : cl t lo ≤ x := by
  obtain ⟨h1, h2, h3⟩ := cl_ge (lo := lo) ht
  by_cases q : cl t lo ≤ x
  · exact q
  · have := mult_gap ht hx h3 (by omega)
    omega
theorem fl_most {t hi x : Int} (ht : 0 < t) (hx : t ∣ x) (h : x ≤ hi) : x ≤ hi / t * t := by
  obtain ⟨h1, h2, h3⟩ := fl_le (hi := hi) ht
  by_cases q : x ≤ hi / t * t
  · exact q
  · have := mult_gap ht h3 hx (by omega)
    omega
theorem cap1_nonneg (t : Int) (p : Blk) : 0 ≤ cap1 t p := by unfold cap1; omega
theorem capS_nonneg (t : Int) : ∀ ps : List Blk, 0 ≤ capS t ps
  | [] => Int.le_refl _
  | p :: r => by
    unfold capS
    rw [List.map_cons, List.sum_cons]
    have := capS_nonneg t r
    unfold capS at this
    have := cap1_nonneg t p
    omega
theorem capS_cons (t : Int) (p : Blk) (r : List Blk) : capS t (p :: r) = cap1 t p + capS t r := by unfold capS; rw [List.map_cons, List.sum_cons]
theorem capS_append (t : Int) (ps qs : List Blk) : capS t (ps ++ qs) = capS t ps + capS t qs := by
  induction ps with
  | nil => show capS t qs = 0 + capS t qs; omega
  | cons p r ih => rw [List.cons_append, capS_cons, capS_cons, ih]; omega
/-- a start of an aligned block of size t within a stretch -/
def FitAt (t : Int) (p : Blk) (x : Int) : Prop := p.1 ≤ x ∧ x + t ≤ p.2 ∧ x % t = 0
theorem fit_cap {t x : Int} {p : Blk} (ht : 0 < t) (h : FitAt t p x) : t ≤ cap1 t p := by
  obtain ⟨h1, h2, h3⟩ := h
  have hd : t ∣ x := Int.dvd_of_emod_eq_zero h3
  have a := cl_least ht hd h1
  have b := fl_most ht (show t ∣ x + t from Int.dvd_add hd (Int.dvd_refl t)) h2
  unfold cap1
  omega
theorem cap_fit {t : Int} {p : Blk} (ht : 0 < t) (h : cap1 t p ≠ 0) : FitAt t p (cl t p.1) := by
  obtain ⟨a1, a2, a3⟩ := cl_ge (lo := p.1) ht
  obtain ⟨b1, b2, b3⟩ := fl_le (hi := p.2) ht
  have hlt : cl t p.1 < p.2 / t * t := by unfold cap1 at h; omega
  have := mult_gap ht a3 b3 hlt
  exact ⟨a1, by omega, Int.emod_eq_zero_of_dvd a3⟩
theorem capS_zero {t : Int} (ht : 0 < t) : ∀ {ps : List Blk}, (∀ p ∈ ps, ∀ x, ¬ FitAt t p x) → capS t ps = 0
  | [], _ => rfl
  | p :: r, h => by
    rw [capS_cons, capS_zero ht fun q hq => h q (List.mem_cons_of_mem _ hq)]
    by_cases e : cap1 t p = 0
    · omega
    · exact absurd (cap_fit ht e) (h p List.mem_cons_self _)
/-- a room's block as a stretch -/
theorem cap_blk {t : Int} {b : Blk} (hb : IsBlk b) (ht : P2 t) : cap1 t (b.1, b.1 + b.2) = if b.2 ≥ t then b.2 else 0 := by
  have hp := ht.pos
  have hbp := hb.p2.pos
  have hdb : b.2 ∣ b.1 := Int.dvd_of_emod_eq_zero hb.al
  split
  · rename_i h
    have hd : t ∣ b.2 := ht.dvd hb.p2 h
    have hd1 : t ∣ b.1 := Int.dvd_trans hd hdb
    have hd2 : t ∣ b.1 + b.2 := Int.dvd_add hd1 hd
    have a := cl_least hp hd1 (Int.le_refl b.1)
    have a' := (cl_ge (lo := b.1) hp).1
    have c := fl_most hp hd2 (Int.le_refl _)
    have c' := (fl_le (hi := b.1 + b.2) hp).1
    unfold cap1
    show max 0 ((b.1 + b.2) / t * t - cl t b.1) = b.2
    omega
  · rename_i h
    by_cases e : cap1 t (b.1, b.1 + b.2) = 0
    · exact e
    · obtain ⟨h1, h2, h3⟩ := cap_fit hp e
      exfalso
      have h1' : b.1 ≤ cl t b.1 := h1
      have h2' : cl t b.1 + t ≤ b.1 + b.2 := h2
      omega
theorem cap_room {t : Int} (ht : P2 t) : ∀ {r : List Blk}, (∀ b ∈ r, IsBlk b) → capS t (r.map fun b => (b.1, b.1 + b.2)) = capR r t
  | [], _ => rfl
  | b :: r, h => by
    rw [List.map_cons, capS_cons, capR_cons, cap_blk (h b List.mem_cons_self) ht, cap_room ht fun c hc => h c (List.mem_cons_of_mem _ hc)]

/-! ### a block cut out of stretches -/
def cutP (st sz : Int) (p : Blk) : List Blk := [(p.1, min p.2 st), (max p.1 (st + sz), p.2)].filter fun q => decide (q.1 < q.2)
def cutS (st sz : Int) (ps : List Blk) : List Blk := ps.flatMap (cutP st sz)
theorem cutS_cons (st sz : Int) (p : Blk) (r : List Blk) : cutS st sz (p :: r) = cutP st sz p ++ cutS st sz r := by unfold cutS; rw [List.flatMap_cons]
theorem cutS_snoc (st sz : Int) (p : Blk) (r : List Blk) : cutS st sz (r ++ [p]) = cutS st sz r ++ cutP st sz p := by
  unfold cutS
  rw [List.flatMap_append, List.flatMap_cons, List.flatMap_nil, List.append_nil]
theorem cutP_mem {st sz : Int} {p q : Blk} (h : q ∈ cutP st sz p) (hz : 0 ≤ sz) : p.1 ≤ q.1 ∧ q.2 ≤ p.2 ∧ q.1 < q.2 ∧ (q.2 ≤ st ∨ st + sz ≤ q.1) := by
  obtain ⟨h1, h2⟩ := List.mem_filter.mp h
  have h2' : q.1 < q.2 := by simpa using h2
  rcases List.mem_cons.mp h1 with rfl | h1
  · refine ⟨Int.le_refl _, ?_, h2', .inl ?_⟩ <;> (show min p.2 st ≤ _) <;> omega
  · rcases List.mem_cons.mp h1 with rfl | h1
    · refine ⟨?_, Int.le_refl _, h2', .inr ?_⟩ <;> (show _ ≤ max p.1 (st + sz)) <;> omega
    · cases h1
/-- a stretch apart from the block stays -/
theorem cutP_apart {st sz : Int} {p : Blk} (hp : p.1 < p.2) (hz : 0 < sz) (h : p.2 ≤ st ∨ st + sz ≤ p.1) : cutP st sz p = [p] := by
  unfold cutP
  rcases h with h | h
  · have e1 : min p.2 st = p.2 := by omega
    have e2 : max p.1 (st + sz) = st + sz := by omega
    rw [e1, e2, List.filter_cons, if_pos (by simpa using hp), List.filter_cons, if_neg (by show ¬ decide (st + sz < p.2) = true; simp; omega)]
    rfl
  · have e1 : min p.2 st = st := by omega
    have e2 : max p.1 (st + sz) = p.1 := by omega
    rw [e1, e2, List.filter_cons, if_neg (by show ¬ decide (p.1 < st) = true; simp; omega), List.filter_cons, if_pos (by simpa using hp)]
    rfl
theorem cap1_empty {t x : Int} (ht : 0 < t) (hx : t ∣ x) (y z : Int) (hy : z ≤ y) : cap1 t (y, z) = 0 := by
  by_cases e : cap1 t (y, z) = 0
  · exact e
  · obtain ⟨h1, h2, _⟩ := cap_fit ht e
    have h1' : y ≤ cl t y := h1
    have h2' : cl t y + t ≤ z := h2
    omega
theorem capS_filter (t : Int) (ht : 0 < t) (l : List Blk) : capS t (l.filter fun q => decide (q.1 < q.2)) = capS t l := by
  induction l with
  | nil => rfl
  | cons q r ih =>
    rw [List.filter_cons]
    split
    · rw [capS_cons, capS_cons, ih]
    · rename_i h
      have h' : ¬ q.1 < q.2 := by simpa using h
      rw [capS_cons, ih, cap1_empty ht (Int.dvd_zero t) q.1 q.2 (by omega)]
      omega
theorem cutP_cap {t st sz : Int} {p : Blk} (ht : 0 < t) (hd : t ∣ st) (hds : t ∣ sz) (hz : 0 < sz) (h1 : p.1 ≤ st) (h2 : st + sz ≤ p.2) : capS t (cutP st sz p) = cap1 t p - sz := by
  unfold cutP
  rw [capS_filter t ht, capS_cons, capS_cons]
  have e1 : min p.2 st = st := by omega
  have e2 : max p.1 (st + sz) = st + sz := by omega
  rw [e1, e2]
  have hd2 : t ∣ st + sz := Int.dvd_add hd hds
  have a := cl_least ht hd h1
  have a2 := (cl_ge (lo := p.1) ht).1
  have b := fl_most ht hd2 h2
  have c1 : st / t * t = st := by
    have q1 := fl_most ht hd (Int.le_refl st)
    have q2 := (fl_le (hi := st) ht).1
    omega
  have c2 : cl t (st + sz) = st + sz := by
    have q1 := cl_least ht hd2 (Int.le_refl (st + sz))
    have q2 := (cl_ge (lo := st + sz) ht).1
    omega
  show max 0 (st / t * t - cl t p.1) + (max 0 (p.2 / t * t - cl t (st + sz)) + 0) = max 0 (p.2 / t * t - cl t p.1) - sz
  rw [c1, c2]
  omega
/-! ### the state while sizes are placed by turns -/
def SpAp (p q : Blk) : Prop := p.2 ≤ q.1 ∨ q.2 ≤ p.1
structure PutInv (room spans bs : List Blk) : Prop where
  sin : ∀ p ∈ spans, ∃ h ∈ room, h.1 ≤ p.1 ∧ p.2 ≤ h.1 + h.2
  sap : spans.Pairwise SpAp
  slt : ∀ p ∈ spans, p.1 < p.2
  pl : Placed bs room
  sb : ∀ p ∈ spans, ∀ b ∈ bs, p.2 ≤ b.1 ∨ b.1 + b.2 ≤ p.1
  blk : ∀ b ∈ bs, IsBlk b
  cap : ∀ t, P2 t → (∀ b ∈ bs, t ≤ b.2) → capS t spans + (bs.map (·.2)).sum = capR room t
  fits : Fits room (bs.map (·.2))
theorem put_start {room : List Blk} (h : RoomOk room) : PutInv room (room.map fun b => (b.1, b.1 + b.2)) [] where
  sin := fun p hp => by
    obtain ⟨b, hb, rfl⟩ := List.mem_map.mp hp
    exact ⟨b, hb, Int.le_refl _, Int.le_refl _⟩
  sap := by
    rw [List.pairwise_map]
    exact h.ap.imp fun q => q
  slt := fun p hp => by
    obtain ⟨b, hb, rfl⟩ := List.mem_map.mp hp
    have := (h.blk b hb).big
    show b.1 < b.1 + b.2
    omega
  pl := placed_nil _
  sb := fun _ _ _ hb => nomatch hb
  blk := fun _ hb => nomatch hb
  cap := fun t ht _ => by rw [cap_room ht h.blk]; show _ + 0 = _; omega
  fits := fits_nil _
theorem sum_wf : ∀ {xs : List Int} {s : Int}, (∀ x ∈ xs, s ≤ x) → wfS xs s = xs.sum
  | [], _, _ => rfl
  | x :: r, s, h => by
    rw [wfS_cons, if_pos (h x List.mem_cons_self), sum_wf fun z hz => h z (List.mem_cons_of_mem _ hz), List.sum_cons]
/-- cutting a block out of one of the stretches, the others apart from it -/
theorem cut_all {t st sz : Int} (ht : 0 < t) (hd : t ∣ st) (hds : t ∣ sz) (hz : 0 < sz) : ∀ {ps : List Blk}, ps.Pairwise SpAp → (∀ p ∈ ps, p.1 < p.2) → (∃ p ∈ ps, p.1 ≤ st ∧ st + sz ≤ p.2) → capS t (cutS st sz ps) = capS t ps - sz
  | [], _, _, h => by obtain ⟨_, hp, _⟩ := h; cases hp
  | p :: r, hap, hlt, h => by
    rw [cutS_cons, capS_append, capS_cons]
    obtain ⟨hpr, hr⟩ := List.pairwise_cons.mp hap
    by_cases hin : p.1 ≤ st ∧ st + sz ≤ p.2
    · rw [cutP_cap ht hd hds hz hin.1 hin.2]
      have e : cutS st sz r = r := by
        have : ∀ (l : List Blk), (∀ q ∈ l, q.1 < q.2 ∧ (q.2 ≤ st ∨ st + sz ≤ q.1)) → cutS st sz l = l := by
          intro l
          induction l with
          | nil => intro _; rfl
          | cons q l ih =>
            intro hq
            obtain ⟨q1, q2⟩ := hq q List.mem_cons_self
            rw [cutS_cons, cutP_apart q1 hz q2, ih fun z hz' => hq z (List.mem_cons_of_mem _ hz')]
            rfl
        refine this r fun q hq => ⟨hlt q (List.mem_cons_of_mem _ hq), ?_⟩
        have := hpr q hq
        unfold SpAp at this
        omega
      rw [e]
      omega
    · obtain ⟨q, hq, hq1⟩ := h
      rcases List.mem_cons.mp hq with rfl | hq
      · exact absurd hq1 hin
      · have hpq := hpr q hq
        have hqlt := hlt q (List.mem_cons_of_mem _ hq)
        have hplt := hlt p List.mem_cons_self
        unfold SpAp at hpq
        rw [cutP_apart hplt hz (by omega), cut_all ht hd hds hz hr (fun z hz' => hlt z (List.mem_cons_of_mem _ hz')) ⟨q, hq, hq1⟩, capS_cons]
        show cap1 t p + 0 + _ = _
        omega
theorem cut_pair {st sz : Int} (hz : 0 < sz) : ∀ {ps : List Blk}, ps.Pairwise SpAp → (cutS st sz ps).Pairwise SpAp
  | [], _ => .nil
  | p :: r, h => by
    obtain ⟨hpr, hr⟩ := List.pairwise_cons.mp h
    rw [cutS_cons]
    refine List.pairwise_append.mpr ⟨?_, cut_pair hz hr, fun a ha b hb => ?_⟩
    · unfold cutP
      refine List.Pairwise.filter _ (List.pairwise_cons.mpr ⟨fun q hq => ?_, List.pairwise_singleton _ _⟩)
      rw [List.mem_singleton.mp hq]
      unfold SpAp
      show min p.2 st ≤ max p.1 (st + sz) ∨ _
      omega
    · obtain ⟨q, hq, hbq⟩ := List.mem_flatMap.mp hb
      have a1 := cutP_mem ha (by omega)
      have b1 := cutP_mem hbq (by omega)
      have := hpr q hq
      unfold SpAp at this ⊢
      omega
theorem PutInv.step {room spans bs : List Blk} {s x : Int} (I : PutInv room spans bs) (hr : RoomOk room) (hs : P2 s) (h16 : 16 ≤ s) (hle : ∀ b ∈ bs, s ≤ b.2) (hx : ∃ p ∈ spans, FitAt s p x) : PutInv room (cutS x s spans) (bs ++ [(x, s)]) := by
  obtain ⟨p, hp, f1, f2, f3⟩ := hx
  have hd : s ∣ x := Int.dvd_of_emod_eq_zero f3
  obtain ⟨h, hh, hh1, hh2⟩ := I.sin p hp
  have hb := hr.blk h hh
  have hblk : IsBlk (x, s) := ⟨hs, h16, by have := hb.lo; show 0 ≤ x; omega, f3, by have := hb.hi; show x + s ≤ _; omega⟩
  have capNew : ∀ t, P2 t → t ≤ s → capS t (cutS x s spans) = capS t spans - s := fun t ht hts =>
    cut_all ht.pos (Int.dvd_trans (ht.dvd hs hts) hd) (ht.dvd hs hts) (by omega) I.sap I.slt ⟨p, hp, f1, f2⟩
  have hcap := I.cap s hs hle
  have hsum : (bs.map (·.2)).sum + s ≤ capR room s := by
    have := capNew s hs (Int.le_refl s)
    have := capS_nonneg s (cutS x s spans)
    omega
  refine ⟨fun q hq => ?_, cut_pair (by omega) I.sap, fun q hq => ?_, ⟨?_, fun b hb' => ?_⟩, fun q hq b hb' => ?_, fun b hb' => ?_, fun t ht hall => ?_, fun z hz => ?_⟩
  · obtain ⟨q0, hq0, hq1⟩ := List.mem_flatMap.mp hq
    have a1 := cutP_mem hq1 (by omega)
    obtain ⟨h', hh', e1, e2⟩ := I.sin q0 hq0
    exact ⟨h', hh', by omega, by omega⟩
  · obtain ⟨q0, hq0, hq1⟩ := List.mem_flatMap.mp hq
    exact (cutP_mem hq1 (by omega)).2.2.1
  · refine List.pairwise_append.mpr ⟨I.pl.ap, List.pairwise_singleton _ _, fun b hb' c hc => ?_⟩
    rw [List.mem_singleton.mp hc]
    have := I.sb p hp b hb'
    unfold Apart
    show b.1 + b.2 ≤ x ∨ x + s ≤ b.1
    omega
  · rcases List.mem_append.mp hb' with hb' | hb'
    · exact I.pl.wi b hb'
    · rw [List.mem_singleton.mp hb']
      exact ⟨h, hh, by show h.1 ≤ x; omega, by show x + s ≤ _; omega⟩
  · obtain ⟨q0, hq0, hq1⟩ := List.mem_flatMap.mp hq
    have a1 := cutP_mem hq1 (by omega)
    rcases List.mem_append.mp hb' with hb' | hb'
    · have := I.sb q0 hq0 b hb'
      omega
    · rw [List.mem_singleton.mp hb']
      show q.2 ≤ x ∨ x + s ≤ q.1
      omega
  · rcases List.mem_append.mp hb' with hb' | hb'
    · exact I.blk b hb'
    · rw [List.mem_singleton.mp hb']; exact hblk
  · have h1 : t ≤ s := hall (x, s) (List.mem_append_right _ (List.mem_singleton.mpr rfl))
    have h2 := I.cap t ht fun b hb' => hall b (List.mem_append_left _ hb')
    have h3 := capNew t ht h1
    rw [List.map_append, List.sum_append]
    show capS t (cutS x s spans) + ((bs.map (·.2)).sum + (s + 0)) = capR room t
    omega
  · rw [List.map_append] at hz ⊢
    rw [wfS_append]
    show wfS (bs.map (·.2)) z + wfS [s] z ≤ _
    rw [wfS_cons]
    show wfS (bs.map (·.2)) z + ((if s ≥ z then s else 0) + 0) ≤ _
    by_cases hzs : s ≥ z
    · rw [if_pos hzs]
      have e : wfS (bs.map (·.2)) z = (bs.map (·.2)).sum := sum_wf fun y hy => by
        obtain ⟨b, hb', rfl⟩ := List.mem_map.mp hy
        have := hle b hb'
        omega
      have := capR_anti hr.nn hzs
      omega
    · rw [if_neg hzs]
      rcases List.mem_append.mp hz with hz | hz
      · have := I.fits z hz
        omega
      · have hz' : z = s := List.mem_singleton.mp hz
        omega
/-- no place is left: then the sizes do not fit -/
theorem PutInv.stuck {room spans bs : List Blk} {s : Int} (I : PutInv room spans bs) (hs : P2 s) (hle : ∀ b ∈ bs, s ≤ b.2) (hx : ∀ p ∈ spans, ∀ x, ¬ FitAt s p x) {sizes more : List Int} (hp : sizes.Perm (bs.map (·.2) ++ s :: more)) (hn : ∀ z ∈ more, 0 ≤ z) : ¬ Fits room sizes := fun f => by
  have h1 := f.perm hp s (List.mem_append_right _ List.mem_cons_self)
  rw [wfS_append, wfS_cons, if_pos (show s ≥ s from Int.le_refl s), sum_wf (s := s) (xs := bs.map (·.2)) fun y hy => by
    obtain ⟨b, hb', rfl⟩ := List.mem_map.mp hy
    exact hle b hb'] at h1
  have h2 := I.cap s hs hle
  rw [capS_zero hs.pos hx] at h2
  have h3 : 0 ≤ wfS more s := by
    have := (Shr.refl more).wfS hn s
    have q : ∀ (l : List Int), (∀ z ∈ l, 0 ≤ z) → 0 ≤ wfS l s := by
      intro l
      induction l with
      | nil => intro _; exact Int.le_refl _
      | cons z l ih =>
        intro hl
        rw [wfS_cons]
        have := ih fun y hy => hl y (List.mem_cons_of_mem _ hy)
        have := hl z List.mem_cons_self
        split <;> omega
    exact q more hn
  have := hs.pos
  omega
end Bw

/-! the mathematics: trees, least windows, assignments, lesser trees -/
namespace Bw
open PySem

abbrev kF : Str := "far"
abbrev kN : Str := "near"
theorem kF_ne : kF ≠ kN := by decide
abbrev Area := Str × Int
inductive Part where
  | emp
  | dev (n : Str) (as : List Area)
  | br (n : Str) (ms : List Str) (ps : List Part)
def encA (a : Area) : PyData := .tuple [.str a.1, .int a.2]
mutual
def Part.enc : Part → PyData
  | .emp => .none
  | .dev n as => .tuple [.str "device", .str n, .tuple (as.map encA)]
  | .br n ms ps => .tuple [.str "bridge", .str n, .tuple (ms.map .str), .tuple (encs ps)]
def encs : List Part → List PyData
  | [] => []
  | p :: r => p.enc :: encs r
end
theorem encs_map : ∀ ps : List Part, encs ps = ps.map Part.enc
  | [] => rfl
  | p :: r => by rw [encs, encs_map r]; rfl
/-- the sizes of a kind that stand on a segment, part by part -/
def szA (k : Str) (as : List Area) : List Int := (as.filter fun a => decide (a.1 = k)).map (·.2)
mutual
def sz (k : Str) : Part → List Int
  | .emp => []
  | .dev _ as => szA k as
  | .br _ _ ps => if lw (szs k ps) > 0 then [lw (szs k ps)] else []
def szs (k : Str) : List Part → List Int
  | [] => []
  | p :: r => sz k p ++ szs k r
end
def Part.least (k : Str) : Part → Int
  | .br _ _ ps => lw (szs k ps)
  | _ => 0
theorem szs_append (k : Str) : ∀ ps qs : List Part, szs k (ps ++ qs) = szs k ps ++ szs k qs
  | [], qs => rfl
  | p :: r, qs => by rw [List.cons_append, szs, szs, szs_append k r qs, List.append_assoc]
theorem szs_take (k : Str) {ps : List Part} {i : Nat} {p : Part} (h : ps[i]? = some p) : szs k (ps.take (i + 1)) = szs k (ps.take i) ++ sz k p := by
  rw [List.take_add_one, h, szs_append]
  show _ ++ (sz k p ++ []) = _
  rw [List.append_nil]
/-! ### what is asked of the parts -/
def AreaOk (a : Area) : Prop := (a.1 = kF ∨ a.1 = kN) ∧ P2 a.2 ∧ 16 ≤ a.2
mutual
def POk : Part → Prop
  | .emp => True
  | .dev _ as => ∀ a ∈ as, AreaOk a
  | .br _ _ ps => PsOk ps
def PsOk : List Part → Prop
  | [] => True
  | p :: r => POk p ∧ PsOk r
end
mutual
def cnt : Part → Nat
  | .emp => 1
  | .dev _ as => 1 + as.length
  | .br _ _ ps => 1 + cnts ps
def cnts : List Part → Nat
  | [] => 0
  | p :: r => cnt p + cnts r
end
mutual
def dep : Part → Nat
  | .emp => 0
  | .dev _ _ => 0
  | .br _ _ ps => deps ps + 1
def deps : List Part → Nat
  | [] => 0
  | p :: r => max (dep p) (deps r)
end
mutual
def nms : Part → List Str
  | .emp => []
  | .dev n _ => [n]
  | .br n _ ps => n :: nmss ps
def nmss : List Part → List Str
  | [] => []
  | p :: r => nms p ++ nmss r
end
mutual
/-- the devices and bridges, in preorder -/
def pls : Part → List Part
  | .emp => []
  | .dev n as => [.dev n as]
  | .br n ms ps => .br n ms ps :: plss ps
def plss : List Part → List Part
  | [] => []
  | p :: r => pls p ++ plss r
end
def Part.nm : Part → Str
  | .emp => ""
  | .dev n _ => n
  | .br n _ _ => n
def Part.isDev : Part → Bool
  | .dev _ _ => true
  | _ => false
def Part.isBr : Part → Bool
  | .br _ _ _ => true
  | _ => false
def Part.kids : Part → List Part
  | .br _ _ ps => ps
  | _ => []
mutual
theorem pls_nm : ∀ p : Part, (pls p).map Part.nm = nms p
  | .emp => rfl
  | .dev _ _ => rfl
  | .br n ms ps => by
    show n :: (plss ps).map Part.nm = n :: nmss ps
    rw [plss_nm ps]
theorem plss_nm : ∀ ps : List Part, (plss ps).map Part.nm = nmss ps
  | [] => rfl
  | p :: r => by rw [plss, nmss, List.map_append, pls_nm p, plss_nm r]
end
theorem psOk_iff : ∀ {ps : List Part}, PsOk ps ↔ ∀ p ∈ ps, POk p
  | [] => ⟨fun _ _ h => (nomatch h), fun _ => trivial⟩
  | p :: r => by
    rw [PsOk, psOk_iff (ps := r)]
    exact ⟨fun h q hq => (List.mem_cons.mp hq).elim (fun e => e ▸ h.1) (h.2 q), fun h => ⟨h p List.mem_cons_self, fun q hq => h q (List.mem_cons_of_mem _ hq)⟩⟩
theorem szA_ok {k : Str} {as : List Area} (h : ∀ a ∈ as, AreaOk a) : ∀ x ∈ szA k as, P2 x ∧ 16 ≤ x := fun x hx => by
  obtain ⟨a, ha, rfl⟩ := List.mem_map.mp hx
  exact (h a (List.mem_filter.mp ha).1).2
mutual
theorem sz_ok (k : Str) : ∀ (p : Part), POk p → ∀ x ∈ sz k p, P2 x ∧ 16 ≤ x
  | .emp, _, x, hx => by cases hx
  | .dev _ as, h, x, hx => szA_ok h x hx
  | .br _ _ ps, h, x, hx => by
    unfold sz at hx
    rcases lw_cases (szs k ps) with q | q
    · rw [q.2] at hx
      rw [if_neg (by decide)] at hx
      cases hx
    · split at hx
      · rw [List.mem_singleton.mp hx]
        exact ⟨q.2.2.1, by omega⟩
      · cases hx
theorem szs_ok (k : Str) : ∀ (ps : List Part), PsOk ps → ∀ x ∈ szs k ps, P2 x ∧ 16 ≤ x
  | [], _, x, hx => by cases hx
  | p :: r, h, x, hx => by
    rw [szs] at hx
    rcases List.mem_append.mp hx with hx | hx
    · exact sz_ok k p h.1 x hx
    · exact szs_ok k r h.2 x hx
end
theorem szs_nn {k : Str} {ps : List Part} (h : PsOk ps) : ∀ x ∈ szs k ps, 0 ≤ x := fun x hx => by have := (szs_ok k ps h x hx).2; omega
theorem szA_len (k : Str) (as : List Area) : (szA k as).length ≤ as.length := by
  unfold szA
  rw [List.length_map]
  exact List.length_filter_le _ _
theorem sz_len (k : Str) : ∀ p : Part, (sz k p).length ≤ cnt p
  | .emp => Nat.zero_le _
  | .dev _ as => by
    show (szA k as).length ≤ 1 + as.length
    have := szA_len k as
    omega
  | .br _ _ ps => by
    unfold sz cnt
    split
    · show 1 ≤ _; omega
    · exact Nat.zero_le _
theorem szs_len (k : Str) : ∀ ps : List Part, (szs k ps).length ≤ cnts ps
  | [] => Nat.zero_le _
  | p :: r => by
    rw [szs, cnts, List.length_append]
    have := sz_len k p
    have := szs_len k r
    omega
theorem len_cnts : ∀ ps : List Part, ps.length ≤ cnts ps
  | [] => Nat.zero_le _
  | p :: r => by
    rw [cnts, List.length_cons]
    have := len_cnts r
    have : 1 ≤ cnt p := by cases p <;> (unfold cnt; omega)
    omega
mutual
theorem pls_len : ∀ p : Part, (pls p).length ≤ cnt p
  | .emp => Nat.zero_le _
  | .dev _ as => by show 1 ≤ 1 + as.length; omega
  | .br n ms ps => by
    show (plss ps).length + 1 ≤ 1 + cnts ps
    have := plss_len ps
    omega
theorem plss_len : ∀ ps : List Part, (plss ps).length ≤ cnts ps
  | [] => Nat.zero_le _
  | p :: r => by
    rw [plss, cnts, List.length_append]
    have := pls_len p
    have := plss_len r
    omega
end
theorem cnt_mem : ∀ {ps : List Part} {p : Part}, p ∈ ps → cnt p ≤ cnts ps
  | q :: r, p, h => by
    rw [cnts]
    rcases List.mem_cons.mp h with rfl | h
    · omega
    · have := cnt_mem h; omega
theorem dep_mem : ∀ {ps : List Part} {p : Part}, p ∈ ps → dep p ≤ deps ps
  | q :: r, p, h => by
    rw [deps]
    rcases List.mem_cons.mp h with rfl | h
    · omega
    · have := dep_mem h; omega

/-! ### lesser trees: the same shape; a device may be gone, areas may be smaller -/
def AsLs : List Area → List Area → Prop
  | [], [] => True
  | a :: r, b :: s => a.1 = b.1 ∧ b.2 ≤ a.2 ∧ AsLs r s
  | _, _ => False
mutual
def Ls : Part → Part → Prop
  | .emp, .emp => True
  | .dev _ _, .emp => True
  | .dev n as, .dev m bs => n = m ∧ AsLs as bs
  | .br n ms ps, .br m ns qs => n = m ∧ ms = ns ∧ LsAll ps qs
  | _, _ => False
def LsAll : List Part → List Part → Prop
  | [], [] => True
  | p :: ps, q :: qs => Ls p q ∧ LsAll ps qs
  | _, _ => False
end
theorem asLs_refl : ∀ as : List Area, AsLs as as
  | [] => trivial
  | _ :: r => ⟨rfl, Int.le_refl _, asLs_refl r⟩
theorem asLs_len : ∀ {as bs : List Area}, AsLs as bs → as.length = bs.length
  | [], [], _ => rfl
  | [], _ :: _, h => h.elim
  | _ :: _, [], h => h.elim
  | _ :: r, _ :: s, h => by rw [List.length_cons, List.length_cons, asLs_len h.2.2]
theorem szA_cons (k : Str) (a : Area) (r : List Area) : szA k (a :: r) = (if a.1 = k then [a.2] else []) ++ szA k r := by
  unfold szA
  rw [List.filter_cons]
  by_cases h : a.1 = k
  · rw [if_pos (decide_eq_true h), if_pos h]; rfl
  · rw [if_neg (by simpa using h), if_neg h]; rfl
theorem asLs_shr (k : Str) : ∀ {as bs : List Area}, AsLs as bs → Shr (szA k as) (szA k bs)
  | [], [], _ => .nil
  | [], _ :: _, h => h.elim
  | _ :: _, [], h => h.elim
  | a :: r, b :: s, h => by
    rw [szA_cons, szA_cons, h.1]
    refine Shr.append ?_ (asLs_shr k h.2.2)
    split
    · exact .keep h.2.1 .nil
    · exact .nil
theorem shr_gone : ∀ xs : List Int, Shr xs []
  | [] => .nil
  | _ :: r => .drop (shr_gone r)
mutual
theorem ls_shr (k : Str) : ∀ (p q : Part), POk p → Ls p q → Shr (sz k p) (sz k q)
  | .emp, .emp, _, _ => .nil
  | .emp, .dev _ _, _, h => h.elim
  | .emp, .br _ _ _, _, h => h.elim
  | .dev _ as, .emp, _, _ => shr_gone _
  | .dev _ as, .dev _ bs, _, h => asLs_shr k h.2
  | .dev _ _, .br _ _ _, _, h => h.elim
  | .br _ _ _, .emp, _, h => h.elim
  | .br _ _ _, .dev _ _, _, h => h.elim
  | .br _ _ ps, .br _ _ qs, ho, h => by
    have hs := lsAll_shr k ps qs ho h.2.2
    have hle := hs.lw (szs_nn ho)
    unfold sz
    by_cases h1 : lw (szs k qs) > 0
    · rw [if_pos h1, if_pos (by omega)]
      exact .keep hle .nil
    · rw [if_neg h1]
      exact shr_gone _
theorem lsAll_shr (k : Str) : ∀ (ps qs : List Part), PsOk ps → LsAll ps qs → Shr (szs k ps) (szs k qs)
  | [], [], _, _ => .nil
  | [], _ :: _, _, h => h.elim
  | _ :: _, [], _, h => h.elim
  | p :: ps, q :: qs, ho, h => by
    rw [szs, szs]
    exact (ls_shr k p q ho.1 h.1).append (lsAll_shr k ps qs ho.2 h.2)
end
theorem least_le {k : Str} {ps qs : List Part} (ho : PsOk ps) (h : LsAll ps qs) : lw (szs k qs) ≤ lw (szs k ps) := (lsAll_shr k ps qs ho h).lw (szs_nn ho)

/-! ### assignments -/
inductive Row where
  | dev (n : Str) (bs : List Blk)
  | br (n : Str) (f e : Option Blk)
def encB (b : Blk) : PyData := .tuple [.int b.1, .int b.2]
def encO : Option Blk → PyData
  | none => .none
  | some b => encB b
def Row.enc : Row → PyData
  | .dev n bs => .tuple [.str n, .tuple (bs.map encB)]
  | .br n f e => .tuple [.str n, encO f, encO e]
def Row.nm : Row → Str
  | .dev n _ => n
  | .br n _ _ => n
/-- the blocks of a kind of a device's row -/
def pickK (k : Str) : List Blk → List Area → List Blk
  | b :: bs, a :: as => (if a.1 = k then [b] else []) ++ pickK k bs as
  | _, _ => []
def win (k : Str) (f e : Option Blk) : Option Blk := if k = kF then f else e
def bk (k : Str) (A : Str → Row) : Part → List Blk
  | .emp => []
  | .dev n as => match A n with
    | .dev _ bs => pickK k bs as
    | .br _ _ _ => []
  | .br n _ _ => match A n with
    | .br _ f e => (win k f e).toList
    | .dev _ _ => []
def bks (k : Str) (A : Str → Row) (ps : List Part) : List Blk := ps.flatMap (bk k A)
theorem bk_dev {k : Str} {A : Str → Row} {n m : Str} {as : List Area} {bs : List Blk} (e : A n = .dev m bs) : bk k A (.dev n as) = pickK k bs as := by
  show (match A n with | .dev _ bs => pickK k bs as | .br _ _ _ => []) = _
  rw [e]
theorem bk_br {k : Str} {A : Str → Row} {n m : Str} {ms : List Str} {ps : List Part} {f g : Option Blk} (e : A n = .br m f g) : bk k A (.br n ms ps) = (win k f g).toList := by
  show (match A n with | .br _ f e => (win k f e).toList | .dev _ _ => []) = _
  rw [e]
/-- the blocks of a device: one for each area, of its size -/
def DOk : List Blk → List Area → Prop
  | [], [] => True
  | b :: bs, a :: as => IsBlk b ∧ b.2 = a.2 ∧ DOk bs as
  | _, _ => False
/-- a window over the least size z: there just if it is needed, and not less -/
def WOk (z : Int) : Option Blk → Prop
  | none => z = 0
  | some b => 0 < z ∧ IsBlk b ∧ z ≤ b.2 ∧ 4096 ≤ b.2
mutual
def AsgP (A : Str → Row) : Part → Prop
  | .emp => True
  | .dev n as => ∃ bs, A n = .dev n bs ∧ DOk bs as
  | .br n _ ps => ∃ f e, A n = .br n f e ∧ WOk (lw (szs kF ps)) f ∧ WOk (lw (szs kN ps)) e ∧ Placed (bks kF A ps) f.toList ∧ Placed (bks kN A ps) e.toList ∧ AsgPs A ps
def AsgPs (A : Str → Row) : List Part → Prop
  | [] => True
  | p :: r => AsgP A p ∧ AsgPs A r
end
structure Asg (ps : List Part) (rf re : List Blk) (A : Str → Row) : Prop where
  far : Placed (bks kF A ps) rf
  near : Placed (bks kN A ps) re
  all : AsgPs A ps
theorem dok_len : ∀ {bs : List Blk} {as : List Area}, DOk bs as → bs.length = as.length
  | [], [], _ => rfl
  | [], _ :: _, h => h.elim
  | _ :: _, [], h => h.elim
  | _ :: r, _ :: s, h => by rw [List.length_cons, List.length_cons, dok_len h.2.2]
theorem asgPs_iff {A : Str → Row} : ∀ {ps : List Part}, AsgPs A ps ↔ ∀ p ∈ ps, AsgP A p
  | [] => ⟨fun _ _ h => (nomatch h), fun _ => trivial⟩
  | p :: r => by
    rw [AsgPs, asgPs_iff (ps := r)]
    exact ⟨fun h q hq => (List.mem_cons.mp hq).elim (fun e => e ▸ h.1) (h.2 q), fun h => ⟨h p List.mem_cons_self, fun q hq => h q (List.mem_cons_of_mem _ hq)⟩⟩
/-! all that is asked of the parts below holds of each device and bridge, in preorder -/
mutual
theorem asgP_pls {A : Str → Row} : ∀ {p : Part}, AsgP A p → ∀ q ∈ pls p, AsgP A q
  | .emp, _, q, hq => by cases hq
  | .dev n as, h, q, hq => by rw [List.mem_singleton.mp hq]; exact h
  | .br n ms ps, h, q, hq => by
    rcases List.mem_cons.mp hq with rfl | hq
    · exact h
    · obtain ⟨f, e, _, _, _, _, _, h⟩ := h
      exact asgPs_plss h q hq
theorem asgPs_plss {A : Str → Row} : ∀ {ps : List Part}, AsgPs A ps → ∀ q ∈ plss ps, AsgP A q
  | [], _, q, hq => by cases hq
  | p :: r, h, q, hq => by
    rw [plss] at hq
    rcases List.mem_append.mp hq with hq | hq
    · exact asgP_pls h.1 q hq
    · exact asgPs_plss h.2 q hq
end
/-! ### blocks shrunk and dropped -/
inductive BShr : List Blk → List Blk → Prop where
  | nil : BShr [] []
  | drop {x xs ys} : BShr xs ys → BShr (x :: xs) ys
  | keep {x y : Blk} {xs ys} : y.1 = x.1 → y.2 ≤ x.2 → BShr xs ys → BShr (x :: xs) (y :: ys)
theorem BShr.refl : ∀ xs : List Blk, BShr xs xs
  | [] => .nil
  | _ :: r => .keep rfl (Int.le_refl _) (BShr.refl r)
theorem bshr_gone : ∀ xs : List Blk, BShr xs []
  | [] => .nil
  | _ :: r => .drop (bshr_gone r)
theorem BShr.append {a b c d : List Blk} (h : BShr a b) (k : BShr c d) : BShr (a ++ c) (b ++ d) := by
  induction h with
  | nil => exact k
  | drop _ ih => exact .drop ih
  | keep q r _ ih => exact .keep q r ih
theorem BShr.mem {xs ys : List Blk} (h : BShr xs ys) : ∀ y ∈ ys, ∃ x ∈ xs, y.1 = x.1 ∧ y.2 ≤ x.2 := by
  induction h with
  | nil => intro y hy; cases hy
  | drop _ ih =>
    intro y hy
    obtain ⟨x, hx, q⟩ := ih y hy
    exact ⟨x, List.mem_cons_of_mem _ hx, q⟩
  | @keep x y xs ys q r _ ih =>
    intro z hz
    rcases List.mem_cons.mp hz with rfl | hz
    · exact ⟨x, List.mem_cons_self, q, r⟩
    · obtain ⟨x, hx, q⟩ := ih z hz
      exact ⟨x, List.mem_cons_of_mem _ hx, q⟩
theorem BShr.apart {xs ys : List Blk} (h : BShr xs ys) : xs.Pairwise Apart → ys.Pairwise Apart := by
  induction h with
  | nil => exact fun h => h
  | drop _ ih => exact fun h => ih (List.pairwise_cons.mp h).2
  | @keep x y xs ys q r hs ih =>
    intro h
    obtain ⟨h1, h2⟩ := List.pairwise_cons.mp h
    refine List.pairwise_cons.mpr ⟨fun z hz => ?_, ih h2⟩
    obtain ⟨x', hx', e1, e2⟩ := hs.mem z hz
    have := h1 x' hx'
    unfold Apart at this ⊢
    omega
theorem BShr.placed {xs ys r : List Blk} (h : BShr xs ys) (p : Placed xs r) : Placed ys r := ⟨h.apart p.ap, fun y hy => by
  obtain ⟨x, hx, e1, e2⟩ := h.mem y hy
  obtain ⟨c, hc, w1, w2⟩ := p.wi x hx
  exact ⟨c, hc, by omega, by omega⟩⟩
/-! ### what is left of an assignment -/
def cutBs : List Blk → List Area → List Blk
  | b :: bs, a :: as => (b.1, a.2) :: cutBs bs as
  | _, _ => []
/-- the row of a device or bridge of the lesser tree -/
def leftRow (q : Part) (r : Row) : Row := match q, r with
  | .dev n as, .dev _ bs => .dev n (cutBs bs as)
  | .br n _ ps, .br _ f e => .br n (if lw (szs kF ps) > 0 then f else none) (if lw (szs kN ps) > 0 then e else none)
  | _, r => r
theorem cut_ok : ∀ {bs : List Blk} {as cs : List Area}, (∀ c ∈ cs, P2 c.2 ∧ 16 ≤ c.2) → AsLs as cs → DOk bs as → DOk (cutBs bs cs) cs
  | [], [], [], _, _, _ => trivial
  | [], _ :: _, _, _, _, h => h.elim
  | _ :: _, [], _, _, _, h => h.elim
  | _, [], _ :: _, _, h, _ => h.elim
  | _, _ :: _, [], _, h, _ => h.elim
  | b :: bs, a :: as, c :: cs, ho, hl, hd => by
    obtain ⟨h1, h2, h3⟩ := hd
    obtain ⟨g1, g2⟩ := ho c List.mem_cons_self
    refine ⟨⟨g1, g2, h1.lo, ?_, ?_⟩, rfl, cut_ok (fun z hz => ho z (List.mem_cons_of_mem _ hz)) hl.2.2 h3⟩
    · have d1 : c.2 ∣ b.2 := g1.dvd h1.p2 (by rw [h2]; exact hl.2.1)
      exact Int.emod_eq_zero_of_dvd (Int.dvd_trans d1 (Int.dvd_of_emod_eq_zero h1.al))
    · have := hl.2.1
      have := h1.hi
      show b.1 + c.2 ≤ _
      omega
theorem cut_shr (k : Str) : ∀ {bs : List Blk} {as cs : List Area}, AsLs as cs → DOk bs as → BShr (pickK k bs as) (pickK k (cutBs bs cs) cs)
  | [], [], [], _, _ => .nil
  | [], _ :: _, _, _, h => h.elim
  | _ :: _, [], _, _, h => h.elim
  | _, [], _ :: _, h, _ => h.elim
  | _, _ :: _, [], h, _ => h.elim
  | b :: bs, a :: as, c :: cs, hl, hd => by
    unfold cutBs pickK
    refine BShr.append ?_ (cut_shr k hl.2.2 hd.2.2)
    rw [hl.1]
    split
    · exact .keep rfl (by show c.2 ≤ b.2; rw [hd.2.1]; exact hl.2.1) .nil
    · exact .nil
section
variable {A A' : Str → Row}
theorem left_bk (k : Str) : ∀ {p q : Part}, POk p → Ls p q → AsgP A p → (∀ c ∈ pls q, A' c.nm = leftRow c (A c.nm)) → BShr (bk k A p) (bk k A' q)
  | .emp, .emp, _, _, _, _ => .nil
  | .emp, .dev _ _, _, h, _, _ => h.elim
  | .emp, .br _ _ _, _, h, _, _ => h.elim
  | .dev _ _, .emp, _, _, _, _ => bshr_gone _
  | .dev n as, .dev m cs, _, h, ha, hA => by
    obtain ⟨rfl, hl⟩ := h
    obtain ⟨bs, e, hd⟩ := ha
    have e' : A' n = leftRow (.dev n cs) (A n) := hA (.dev n cs) (List.mem_singleton.mpr rfl)
    rw [e] at e'
    rw [bk_dev e, bk_dev e']
    exact cut_shr k hl hd
  | .dev _ _, .br _ _ _, _, h, _, _ => h.elim
  | .br _ _ _, .emp, _, h, _, _ => h.elim
  | .br _ _ _, .dev _ _, _, h, _, _ => h.elim
  | .br n ms ps, .br m ns qs, _, h, ha, hA => by
    obtain ⟨rfl, rfl, hl⟩ := h
    obtain ⟨f, e, ea, _⟩ := ha
    have e' : A' n = leftRow (.br n ms qs) (A n) := hA (.br n ms qs) List.mem_cons_self
    rw [ea] at e'
    rw [bk_br ea, bk_br e']
    show BShr (win k f e).toList (win k (if lw (szs kF qs) > 0 then f else none) (if lw (szs kN qs) > 0 then e else none)).toList
    unfold win
    split <;> split <;> first | exact BShr.refl _ | exact bshr_gone _
theorem left_bks (k : Str) : ∀ {ps qs : List Part}, PsOk ps → LsAll ps qs → AsgPs A ps → (∀ c ∈ plss qs, A' c.nm = leftRow c (A c.nm)) → BShr (bks k A ps) (bks k A' qs)
  | [], [], _, _, _, _ => .nil
  | [], _ :: _, _, h, _, _ => h.elim
  | _ :: _, [], _, h, _, _ => h.elim
  | p :: ps, q :: qs, ho, h, ha, hA => by
    unfold bks
    rw [List.flatMap_cons, List.flatMap_cons]
    exact (left_bk k ho.1 h.1 ha.1 fun c hc => hA c (by rw [plss]; exact List.mem_append_left _ hc)).append (left_bks k ho.2 h.2 ha.2 fun c hc => hA c (by rw [plss]; exact List.mem_append_right _ hc))
theorem wok_left {z z' : Int} {f : Option Blk} (h : WOk z f) (hle : z' ≤ z) (h0 : 0 ≤ z') : WOk z' (if z' > 0 then f else none) := by
  by_cases hz : z' > 0
  · rw [if_pos hz]
    cases f with
    | none =>
      have h' : z = 0 := h
      exfalso
      omega
    | some b =>
      obtain ⟨h1, h2, h3, h4⟩ := h
      exact ⟨hz, h2, by omega, h4⟩
  · rw [if_neg hz]
    show z' = 0
    omega
/-- blocks that lie within a window that is kept, or there are none -/
theorem placed_left {xs ys : List Blk} {z : Int} {f : Option Blk} (h : BShr xs ys) (p : Placed xs f.toList) (hn : z = 0 → ys = []) (h0 : 0 ≤ z) : Placed ys (if z > 0 then f else none).toList := by
  by_cases hz : z > 0
  · rw [if_pos hz]
    exact h.placed p
  · rw [hn (by omega)]
    exact placed_nil _
theorem pick_nil {k : Str} : ∀ {bs : List Blk} {as : List Area}, szA k as = [] → pickK k bs as = []
  | [], _, _ => by unfold pickK; rfl
  | _ :: _, [], _ => by unfold pickK; rfl
  | b :: bs, a :: as, h => by
    rw [szA_cons] at h
    have h2 := List.append_eq_nil_iff.mp h
    unfold pickK
    rw [pick_nil h2.2]
    by_cases e : a.1 = k
    · rw [if_pos e] at h2
      cases h2.1
    · rw [if_neg e]; rfl
theorem bk_nil {k : Str} (hk : k = kF ∨ k = kN) : ∀ {p : Part}, AsgP A p → sz k p = [] → bk k A p = []
  | .emp, _, _ => rfl
  | .dev n as, h, e => by
    obtain ⟨bs, ea, hd⟩ := h
    rw [bk_dev ea]
    exact pick_nil e
  | .br n ms ps, h, e => by
    obtain ⟨f, g, ea, wf, wn, _⟩ := h
    rw [bk_br ea]
    have hz : lw (szs k ps) = 0 := by
      have := lw_nonneg (szs k ps)
      unfold sz at e
      by_cases q : lw (szs k ps) > 0
      · rw [if_pos q] at e; cases e
      · omega
    show (win k f g).toList = []
    rcases hk with rfl | rfl
    · unfold win
      rw [if_pos rfl]
      cases f with
      | none => rfl
      | some b =>
        have := wf.1
        omega
    · unfold win
      rw [if_neg (fun z => kF_ne z.symm)]
      cases g with
      | none => rfl
      | some b =>
        have := wn.1
        omega
theorem bks_nil {k : Str} (hk : k = kF ∨ k = kN) : ∀ {ps : List Part}, AsgPs A ps → szs k ps = [] → bks k A ps = []
  | [], _, _ => rfl
  | p :: r, h, e => by
    rw [szs] at e
    have e2 := List.append_eq_nil_iff.mp e
    unfold bks
    rw [List.flatMap_cons, bk_nil hk h.1 e2.1]
    exact bks_nil hk h.2 e2.2
mutual
theorem left_asgP : ∀ {p q : Part}, POk p → POk q → Ls p q → AsgP A p → (∀ c ∈ pls q, A' c.nm = leftRow c (A c.nm)) → AsgP A' q
  | .emp, .emp, _, _, _, _, _ => trivial
  | .emp, .dev _ _, _, _, h, _, _ => h.elim
  | .emp, .br _ _ _, _, _, h, _, _ => h.elim
  | .dev _ _, .emp, _, _, _, _, _ => trivial
  | .dev n as, .dev m cs, _, ho, h, ha, hA => by
    obtain ⟨rfl, hl⟩ := h
    obtain ⟨bs, e, hd⟩ := ha
    have e' : A' n = leftRow (.dev n cs) (A n) := hA (.dev n cs) (List.mem_singleton.mpr rfl)
    rw [e] at e'
    exact ⟨cutBs bs cs, e', cut_ok (fun c hc => (ho c hc).2) hl hd⟩
  | .dev _ _, .br _ _ _, _, _, h, _, _ => h.elim
  | .br _ _ _, .emp, _, _, h, _, _ => h.elim
  | .br _ _ _, .dev _ _, _, _, h, _, _ => h.elim
  | .br n ms ps, .br m ns qs, hop, ho, h, ha, hA => by
    obtain ⟨rfl, rfl, hl⟩ := h
    obtain ⟨f, e, ea, w1, w2, p1, p2, hall⟩ := ha
    have e' : A' n = leftRow (.br n ms qs) (A n) := hA (.br n ms qs) List.mem_cons_self
    rw [ea] at e'
    have hA2 : ∀ c ∈ plss qs, A' c.nm = leftRow c (A c.nm) := fun c hc => hA c (List.mem_cons_of_mem _ hc)
    have all' := left_asgPs hop ho hl hall hA2
    refine ⟨_, _, e', wok_left w1 (least_le hop hl) (lw_nonneg _), wok_left w2 (least_le hop hl) (lw_nonneg _),
      placed_left (left_bks kF hop hl hall hA2) p1 (fun z => bks_nil (.inl rfl) all' (lw_zero.mp z)) (lw_nonneg _), placed_left (left_bks kN hop hl hall hA2) p2 (fun z => bks_nil (.inr rfl) all' (lw_zero.mp z)) (lw_nonneg _), all'⟩
theorem left_asgPs : ∀ {ps qs : List Part}, PsOk ps → PsOk qs → LsAll ps qs → AsgPs A ps → (∀ c ∈ plss qs, A' c.nm = leftRow c (A c.nm)) → AsgPs A' qs
  | [], [], _, _, _, _, _ => trivial
  | [], _ :: _, _, _, h, _, _ => h.elim
  | _ :: _, [], _, _, h, _, _ => h.elim
  | p :: ps, q :: qs, hop, ho, h, ha, hA => ⟨left_asgP hop.1 ho.1 h.1 ha.1 fun c hc => hA c (by rw [plss]; exact List.mem_append_left _ hc), left_asgPs hop.2 ho.2 h.2 ha.2 fun c hc => hA c (by rw [plss]; exact List.mem_append_right _ hc)⟩
end
theorem left_asg {ps qs : List Part} {rf re : List Blk} (hop : PsOk ps) (ho : PsOk qs) (hl : LsAll ps qs) (h : Asg ps rf re A) (hA : ∀ c ∈ plss qs, A' c.nm = leftRow c (A c.nm)) : Asg qs rf re A' :=
  ⟨(left_bks kF hop hl h.all hA).placed h.far, (left_bks kN hop hl h.all hA).placed h.near, left_asgPs hop ho hl h.all hA⟩
end
end Bw

/-! data of blocks, parts, rows on the heap -/
namespace Bw
open PySem PySem.Spec PyProof.Rows L2
section
variable {H : Hp} {v : V}
theorem Dt.blkE {b : Blk} (h : Dt H v (encB b)) : ∃ t, v = .ref t ∧ H t = some (.tup [.int b.1, .int b.2]) := by
  obtain ⟨a, xs, rfl, ha, hs⟩ := Dt.tupE h
  cases hs with
  | cons h1 h2 =>
    cases h2 with
    | cons h2 h3 =>
      cases h3
      rw [h1.int_eq, h2.int_eq] at ha
      exact ⟨a, rfl, ha⟩
theorem Dt.blk {b : Blk} {t : Addr} (h : H t = some (.tup [.int b.1, .int b.2])) : Dt H (.ref t) (encB b) := .tup h (.two (.int _) (.int _))
theorem Dt.areaE {b : Area} (h : Dt H v (encA b)) : ∃ t, v = .ref t ∧ H t = some (.tup [.str b.1, .int b.2]) := by
  obtain ⟨a, xs, rfl, ha, hs⟩ := Dt.tupE h
  cases hs with
  | cons h1 h2 =>
    cases h2 with
    | cons h2 h3 =>
      cases h3
      rw [h1.str_eq, h2.int_eq] at ha
      exact ⟨a, rfl, ha⟩
theorem Dt.devE {n : Str} {as : List Area} (h : Dt H v (Part.dev n as).enc) : ∃ t u us, v = .ref t ∧ H t = some (.tup [.str "device", .str n, .ref u]) ∧ H u = some (.tup us) ∧ DtAll H us (as.map encA) := by
  unfold Part.enc at h
  obtain ⟨a, xs, rfl, ha, hs⟩ := Dt.tupE h
  cases hs with
  | cons h1 h2 =>
    cases h2 with
    | cons h2 h3 =>
      cases h3 with
      | cons h3 h4 =>
        cases h4
        obtain ⟨u, us, rfl, hu, hus⟩ := Dt.tupE h3
        rw [h1.str_eq, h2.str_eq] at ha
        exact ⟨a, u, us, rfl, ha, hu, hus⟩
theorem Dt.brE {n : Str} {ms : List Str} {ps : List Part} (h : Dt H v (Part.br n ms ps).enc) : ∃ t m u us, v = .ref t ∧ H t = some (.tup [.str "bridge", .str n, m, .ref u]) ∧ Dt H m (.tuple (ms.map .str)) ∧ H u = some (.tup us) ∧ DtAll H us (encs ps) := by
  unfold Part.enc at h
  obtain ⟨a, xs, rfl, ha, hs⟩ := Dt.tupE h
  cases hs with
  | cons h1 h2 =>
    cases h2 with
    | cons h2 h3 =>
      cases h3 with
      | cons h3 h4 =>
        cases h4 with
        | cons h4 h5 =>
          cases h5
          obtain ⟨u, us, rfl, hu, hus⟩ := Dt.tupE h4
          rw [h1.str_eq, h2.str_eq] at ha
          exact ⟨a, _, u, us, rfl, ha, h3, hu, hus⟩
theorem Dt.empE (h : Dt H v Part.emp.enc) : v = .non := by
  unfold Part.enc at h
  exact h.non_eq
theorem encs_at {ps : List Part} {i : Nat} {d : PyData} (h : (encs ps)[i]? = some d) : ∃ p, ps[i]? = some p ∧ d = p.enc := by
  rw [encs_map] at h
  exact map_at h
theorem encs_len (ps : List Part) : (encs ps).length = ps.length := by rw [encs_map, List.length_map]
end
end Bw

/-! more readings step by step; comprehensions of two walks, of dicts -/
namespace Bw
open PySem PySem.Spec PyProof.Rows L2
theorem Dt.e0 {H H' : Hp} {v : V} {d : PyData} (h : Dt H v d) (e : Ext [] H H') : Dt H' v d := h.ext e
theorem DtAll.e0 {H H' : Hp} {v : List V} {d : List PyData} (h : DtAll H v d) (e : Ext [] H H') : DtAll H' v d := h.ext e
theorem DtAll.take {H : Hp} : ∀ {ds : List PyData} {vs : List V} (n : Nat), DtAll H vs ds → DtAll H (vs.take n) (ds.take n)
  | _, _, 0, _ => by rw [List.take_zero, List.take_zero]; exact .nil
  | [], _, _ + 1, h => by cases h; exact .nil
  | d :: ds, _, n + 1, h => by
    cases h with
    | cons h1 h2 => exact .cons h1 (DtAll.take n h2)
theorem DtAll.drop {H : Hp} : ∀ {ds : List PyData} {vs : List V} (n : Nat), DtAll H vs ds → DtAll H (vs.drop n) (ds.drop n)
  | _, _, 0, h => h
  | [], _, _ + 1, h => by cases h; exact .nil
  | d :: ds, _, n + 1, h => by
    cases h with
    | cons h1 h2 => exact DtAll.drop n h2
theorem DtAll.mem {H : Hp} : ∀ {ds : List PyData} {vs : List V}, DtAll H vs ds → ∀ v ∈ vs, ∃ d ∈ ds, Dt H v d
  | [], _, h, v, hv => by cases h; cases hv
  | d :: ds, _, h, v, hv => by
    cases h with
    | cons h1 h2 =>
      rcases List.mem_cons.mp hv with rfl | hv
      · exact ⟨d, List.mem_cons_self, h1⟩
      · obtain ⟨d', m, q⟩ := DtAll.mem h2 v hv
        exact ⟨d', List.mem_cons_of_mem _ m, q⟩
theorem DtAll.map_of {H : Hp} {α : Type} {f : α → V} {g : α → PyData} : ∀ {l : List α}, (∀ x ∈ l, Dt H (f x) (g x)) → DtAll H (l.map f) (l.map g)
  | [], _ => .nil
  | x :: r, h => .cons (h x List.mem_cons_self) (DtAll.map_of fun y hy => h y (List.mem_cons_of_mem _ hy))
section
variable {K : PySem.W.Frag} {w : World} {σ σ' : L2.St} {H : Hp} {Q : VK} {QA : List V → Hp → Prop} {te : TE} {tA : TA} {x y v : V} {a b : Addr} {xs zs : List V} {ds es : List PyData} {i j : Int}
theorem s_star (q : te σ H fun x H1 => ∃ p xs, x = V.ref p ∧ (SqT K H1 p xs ∨ SqL K H1 p xs) ∧ tA σ H1 fun ys H2 => QA (xs ++ ys) H2) : StX.tStar K te tA σ H QA := q
theorem s_starT {F : List V → Prop} (h : H a = some (.tup xs)) (q : F xs) : ∃ p ys, V.ref a = .ref p ∧ (SqT K H p ys ∨ SqL K H p ys) ∧ F ys := ⟨a, xs, rfl, .inl (SqT.of h), q⟩
theorem s_starD {F : List V → Prop} (h : Dt H v (.tuple ds)) (q : ∀ xs, DtAll H xs ds → F xs) : ∃ p ys, v = .ref p ∧ (SqT K H p ys ∨ SqL K H p ys) ∧ F ys := by
  obtain ⟨a, xs, rfl, ha, hs⟩ := h.tupE
  exact ⟨a, xs, rfl, .inl (SqT.of ha), q xs hs⟩
theorem s_cat (h : H a = some (.lst xs)) (hb : H b = some (.lst zs)) (hl : xs.length + zs.length ≤ sizeLine) (q : ∀ p H', H p = none → Ext [] H H' → H' p = some (.lst (xs ++ zs)) → Q (.ref p) H') : rCat (.ref a) (.ref b) H Q :=
  ⟨a, b, xs, zs, rfl, rfl, h, hb, hl, s_new q⟩
theorem s_catD (hx : Dt H x (.tuple ds)) (hy : Dt H y (.tuple es)) (hl : ds.length + es.length ≤ sizeLine) (q : ∀ v H', Ext [] H H' → Dt H' v (.tuple (ds ++ es)) → Q v H') : rCatA K x y H Q := by
  obtain ⟨a, xs, rfl, ha, hs⟩ := hx.tupE
  obtain ⟨b, ys, rfl, hb, ht⟩ := hy.tupE
  refine ⟨a, b, xs, ys, rfl, rfl, SqT.of ha, SqT.of hb, by rw [hs.len, ht.len]; exact hl, fun e => q _ _ .refl ?_, fun _ e => q _ _ .refl ?_, fun _ _ => s_new fun p H' _ e h' => q _ _ e ?_⟩
  · subst e
    cases hs
    exact .tup hb ht
  · subst e
    cases ht
    rw [List.append_nil]
    exact .tup ha hs
  · exact .tup h' ((hs.append ht).ext e)
theorem s_rep {k : Int} (h : H a = some (.lst xs)) (h1 : -(2 ^ 63) ≤ k) (h2 : k < 2 ^ 63) (hl : xs.length * k.toNat ≤ sizeLine) (q : ∀ p H', H p = none → Ext [] H H' → H' p = some (.lst (List.replicate k.toNat xs).flatten) → Q (.ref p) H') : rRep (.ref a) (.int k) H Q :=
  ⟨a, k, xs, rfl, rfl, h, h1, h2, hl, s_new q⟩
theorem s_slL {lo hi : Option Int} (h : H a = some (.lst xs)) (q : ∀ p H', H p = none → Ext [] H H' → H' p = some (.lst (cutV xs lo hi)) → Q (.ref p) H') : rSlL K (.ref a) lo hi H Q := ⟨a, xs, rfl, SqL.of h, s_new q⟩
def cutD (ds : List PyData) (lo hi : Option Int) : List PyData := (ds.drop (HT.sIx ds.length 0 lo)).take (HT.sIx ds.length ds.length hi - HT.sIx ds.length 0 lo)
theorem s_slD {lo hi : Option Int} (h : Dt H x (.tuple ds)) (q : ∀ v H', Ext [] H H' → Dt H' v (.tuple (cutD ds lo hi)) → Q v H') : rSlA K x lo hi H Q := by
  obtain ⟨a, xs, rfl, ha, hs⟩ := h.tupE
  refine ⟨a, xs, rfl, SqT.of ha, fun e => q _ _ .refl ?_, fun _ => s_new fun p H' _ e h' => q _ _ e ?_⟩
  · unfold cutD
    rw [← hs.len, e.1, e.2, List.drop_zero, hs.len]
    rw [Nat.sub_zero, List.take_length]
    exact .tup ha hs
  · refine .tup h' ?_
    unfold cutD cutV
    rw [hs.len]
    exact ((hs.drop _).take _).ext e
theorem s_pop0 {r : List V} (h : H a = some (.lst (y :: r))) (q : ∀ H', Ext [a] H H' → H' a = some (.lst r) → Q y H') : rPopAt (.ref a) [.int 0] H Q :=
  ⟨a, y :: r, 0, 0, y, rfl, rfl, h, by decide, by decide, by
    show seqIndex? 0 (r.length + 1) = some 0
    unfold seqIndex?
    simp, rfl, q _ (Ext.mutL h) upd_same⟩
def rRev (K : PySem.W.Frag) : V → Hp → VK → Prop := fun x H Q => ∃ a xs, x = .ref a ∧ SqL K H a xs ∧ ∀ p, H p = none → Q (.ref p) (upd H p (.lst xs.reverse))
theorem s_revL (q : te σ H fun x H1 => rRev K x H1 Q) : tRevL K te σ H Q := q
theorem s_revE (h : H a = some (.lst xs)) (q : ∀ p H', H p = none → Ext [] H H' → H' p = some (.lst xs.reverse) → Q (.ref p) H') : rRev K (.ref a) H Q :=
  ⟨a, xs, rfl, SqL.of h, s_new q⟩
theorem atI_zero {α : Type} (x : α) (r : List α) : atI (x :: r) 0 = some x := atI_of (j := 0) rfl rfl
theorem s_ixD0s {r : List PyData} {s : Str} (h : Dt H x (.tuple (.str s :: r))) (q : Q (.str s) H) : rIxT K x (.int 0) H Q := s_ixDs h (atI_zero _ _) q
theorem cb {c d : Bool} (e : c = d) (q : Q (.bl d) H) : Q (.bl c) H := e ▸ q
theorem s_setT {ns : List Int} (h : H a = some (.tup (ns.map V.int))) (hl : ns.length ≤ 1000) (q : ∀ p c H', c ≤ ns.length → Ext [] H H' → H' p = some (SetO w p (fun j => decide (j ∈ ns)) c) → Q (.ref p) H') : rSetT K w [.ref a] H Q :=
  ⟨a, ns, rfl, SqT.of h, hl, fun p c hc hp => q p c _ hc (Ext.new hp) upd_same⟩
theorem s_sortSet {S : Int → Bool} {n : Nat} (h : H a = some (SetO w a S n)) (hn : n < 64) (q : ∀ (ns : List Int) p H', ns.Pairwise (· < ·) → (∀ k : Int, k ∈ ns ↔ S k = true) → ns.length = n → H p = none → Ext [] H H' → H' p = some (.lst (ns.map V.int)) → Q (.ref p) H') : rSortedSet w [.ref a] H Q :=
  ⟨a, S, n, rfl, h, hn, fun ns p h1 h2 h3 hp => q ns p _ h1 h2 h3 hp (Ext.new hp) upd_same⟩
theorem s_sortI {ns : List Int} (h : H a = some (.lst (ns.map V.int))) (q : ∀ (ns' : List Int) p H', ns'.Perm ns → ns'.Pairwise (· ≤ ·) → H p = none → Ext [] H H' → H' p = some (.lst (ns'.map V.int)) → Q (.ref p) H') : rSortedI K [.ref a] H Q :=
  ⟨a, ns, rfl, SqL.of h, fun ns' p h1 h2 hp => q ns' p _ h1 h2 hp (Ext.new hp) upd_same⟩
def LexLe (a b : Int × Int) : Prop := a.1 < b.1 ∨ a.1 = b.1 ∧ a.2 ≤ b.2
def pairAt (H : Hp) : V → Int × Int
  | .ref t => match H t with
    | some (.tup [.int i, .int j]) => (i, j)
    | _ => (0, 0)
  | _ => (0, 0)
theorem pairAt_of {t : Addr} (h : H t = some (.tup [.int i, .int j])) : pairAt H (.ref t) = (i, j) := by
  show (match H t with | some (.tup [.int i, .int j]) => (i, j) | _ => (0, 0)) = _
  rw [h]
theorem lexB_false {p q : Int × Int} (h : SrtO.lexB p q = false) : LexLe q p := by
  unfold LexLe
  have h' : ¬ (p.1 < q.1 ∨ (p.1 = q.1 ∧ p.2 < q.2)) := fun z => by rw [SrtO.lexB_iff.mpr z] at h; cases h
  omega
theorem s_sortB {bs : List Blk} (h : H a = some (.lst xs)) (hd : DtAll H xs (bs.map encB)) (q : ∀ p ys (bs' : List Blk) H', bs'.Perm bs → bs'.Pairwise LexLe → H p = none → Ext [] H H' → H' p = some (.lst ys) → DtAll H' ys (bs'.map encB) → Q (.ref p) H') : rSortedPO K [.ref a] H Q := by
  have hb : ∀ x ∈ xs, ∃ t, x = V.ref t ∧ H t = some (.tup [.int (pairAt H x).1, .int (pairAt H x).2]) := fun x hx => by
    obtain ⟨d, hd', hv⟩ := hd.mem x hx
    obtain ⟨b, _, rfl⟩ := List.mem_map.mp hd'
    obtain ⟨t, rfl, ht⟩ := hv.blkE
    exact ⟨t, rfl, by rw [pairAt_of ht]; exact ht⟩
  have he : xs.map (pairAt H) = bs := by
    clear hb q h
    induction bs generalizing xs with
    | nil => cases hd; rfl
    | cons b r ih =>
      cases hd with
      | cons h1 h2 =>
        obtain ⟨t, rfl, ht⟩ := h1.blkE
        rw [List.map_cons, ih h2, pairAt_of ht]
  refine ⟨a, xs, pairAt H, rfl, SqL.of h, hb, fun ys p h1 h2 hp => q p ys (ys.map (pairAt H)) _ ?_ ?_ hp (Ext.new hp) upd_same ?_⟩
  · rw [← he]
    exact h2.perm.map _
  · exact List.pairwise_map.mpr (h1.imp fun hh => lexB_false hh)
  · rw [List.map_map]
    have := DtAll.map_of (H := upd H p (.lst ys)) (f := id) (g := encB ∘ pairAt H) (l := ys) fun y hy => by
      obtain ⟨t, rfl, ht⟩ := hb y (h2.perm.mem_iff.mp hy)
      exact (Dt.blk ht).ext (Ext.new (M := []) hp)
    rwa [List.map_id] at this
theorem s_eqD {d e : PyData} (hx : Dt H x d) (hy : Dt H y e) (h1 : SeqAt.shaped d = true) (h2 : SeqAt.shaped e = true) (q : Q (.bl (PyData.eqv d e)) H) : rEqD K x y H Q := ⟨d, e, hx.dp, hy.dp, h1, h2, q⟩
theorem s_neD {d e : PyData} (hx : Dt H x d) (hy : Dt H y e) (h1 : SeqAt.shaped d = true) (h2 : SeqAt.shaped e = true) (q : Q (.bl (!PyData.eqv d e)) H) : rNeD K x y H Q := ⟨d, e, hx.dp, hy.dp, h1, h2, q⟩
theorem inV_str (s : Str) : ∀ ns : List Str, inV (.str s) (ns.map V.str) = decide (s ∈ ns)
  | [] => rfl
  | n :: r => by
    show (eqV (.str n) (.str s) || inV (.str s) (r.map V.str)) = _
    rw [inV_str s r]
    show ((n == s) || decide (s ∈ r)) = _
    by_cases e : n = s
    · subst e; simp
    · have e' : s ≠ n := fun z => e z.symm
      simp [e, e']
theorem s_inS {s : Str} {ns : List Str} (h : H a = some (.tup (ns.map V.str))) (q : Q (.bl (decide (s ∈ ns))) H) : rIn K false (.str s) (.ref a) H Q :=
  ⟨a, ns.map V.str, rfl, .inr (SqT.of h), rfl, by rw [List.all_map]; exact List.all_eq_true.mpr fun _ _ => rfl, by rw [if_neg (by decide), inV_str]; exact q⟩
theorem s_inB {c : Bool} {ns : List Bool} (h : H a = some (.lst (ns.map V.bl))) (q : Q (.bl (decide (c ∈ ns))) H) : rIn K false (.bl c) (.ref a) H Q :=
  ⟨a, ns.map V.bl, rfl, .inl (SqL.of h), rfl, by rw [List.all_map]; exact List.all_eq_true.mpr fun _ _ => rfl, by
    rw [if_neg (by decide)]
    rw [show inV (.bl c) (ns.map V.bl) = decide (c ∈ ns) from ?_]
    · exact q
    · clear h q
      induction ns with
      | nil => rfl
      | cons n r ih =>
        show ((n == c) || inV (.bl c) (r.map V.bl)) = _
        rw [ih]
        cases n <;> cases c <;> simp⟩
end
/-! what is walked, more of it -/
section
variable {K : PySem.W.Frag} {σ : L2.St} {H : Hp} {R : It → Hp → Prop} {ta : TA} {te : TE} {a b : Addr} {xs ys : List V} {x : V}
def rEnT (K : PySem.W.Frag) : List V → Hp → (It → Hp → Prop) → Prop := fun vs H1 R => ∃ a xs, vs = [.ref a] ∧ SqT K H1 a xs ∧ R (IteT K a xs) H1
def rEnL (K : PySem.W.Frag) : List V → Hp → (It → Hp → Prop) → Prop := fun vs H1 R => ∃ a xs, vs = [.ref a] ∧ SqL K H1 a xs ∧ R (Ite K a) H1
def rZA (K : PySem.W.Frag) : List V → Hp → (It → Hp → Prop) → Prop := fun vs H1 R => ∃ a b xs ys, vs = [.ref a, .ref b] ∧ ((SqL K H1 a xs ∧ SqL K H1 b ys ∧ R (Itz K a b) H1) ∨ (SqT K H1 a xs ∧ SqT K H1 b ys ∧ R (RZ.ItzT K a b) H1))
def rZM (K : PySem.W.Frag) : List V → Hp → (It → Hp → Prop) → Prop := fun vs H1 R => ∃ a b xs ys, vs = [.ref a, .ref b] ∧ ((SqL K H1 a xs ∧ SqL K H1 b ys ∧ R (Itz K a b) H1) ∨ (SqL K H1 a xs ∧ SqT K H1 b ys ∧ R (ItzM K a b xs ys) H1))
def rZL (K : PySem.W.Frag) : List V → Hp → (It → Hp → Prop) → Prop := fun vs H1 R => ∃ a b xs ys, vs = [.ref a, .ref b] ∧ SqL K H1 a xs ∧ SqL K H1 b ys ∧ R (Itz K a b) H1
theorem g_enT {vs : List V} (q : rEnT K vs H R) : rEnT K vs H R := q
theorem g_enL {vs : List V} (q : rEnL K vs H R) : rEnL K vs H R := q
theorem g_za {vs : List V} (q : rZA K vs H R) : rZA K vs H R := q
theorem g_zm {vs : List V} (q : rZM K vs H R) : rZM K vs H R := q
theorem g_zl {vs : List V} (q : rZL K vs H R) : rZL K vs H R := q
theorem s_iEnumT (q : ta σ H fun vs H1 => rEnT K vs H1 R) : iEnumT K ta σ H R := q
theorem s_iEnum (q : ta σ H fun vs H1 => rEnL K vs H1 R) : iEnum K ta σ H R := q
theorem s_iZipA (q : ta σ H fun vs H1 => rZA K vs H1 R) : RZ.iZipA K ta σ H R := q
theorem s_iZipM (q : ta σ H fun vs H1 => rZM K vs H1 R) : iZipM K ta σ H R := q
theorem s_iZip (q : ta σ H fun vs H1 => rZL K vs H1 R) : iZip K ta σ H R := q
theorem s_enT (h : H a = some (.tup xs)) (q : R (IteT K a xs) H) : rEnT K [.ref a] H R := ⟨a, xs, rfl, SqT.of h, q⟩
theorem s_enL (h : H a = some (.lst xs)) (q : R (Ite K a) H) : rEnL K [.ref a] H R := ⟨a, xs, rfl, SqL.of h, q⟩
theorem s_zaL (h : H a = some (.lst xs)) (h' : H b = some (.lst ys)) (q : R (Itz K a b) H) : rZA K [.ref a, .ref b] H R := ⟨a, b, xs, ys, rfl, .inl ⟨SqL.of h, SqL.of h', q⟩⟩
theorem s_zaT (h : SqT K H a xs) (h' : SqT K H b ys) (q : R (RZ.ItzT K a b) H) : rZA K [.ref a, .ref b] H R := ⟨a, b, xs, ys, rfl, .inr ⟨h, h', q⟩⟩
theorem s_zaT2 (h : H a = some (.tup xs)) (h' : H b = some (.tup ys)) (q : R (RZ.ItzT K a b) H) : rZA K [.ref a, .ref b] H R := ⟨a, b, xs, ys, rfl, .inr ⟨SqT.of h, SqT.of h', q⟩⟩
theorem s_zmL (h : H a = some (.lst xs)) (h' : H b = some (.lst ys)) (q : R (Itz K a b) H) : rZM K [.ref a, .ref b] H R := ⟨a, b, xs, ys, rfl, .inl ⟨SqL.of h, SqL.of h', q⟩⟩
theorem s_zmT (h : H a = some (.lst xs)) (h' : H b = some (.tup ys)) (q : R (ItzM K a b xs ys) H) : rZM K [.ref a, .ref b] H R := ⟨a, b, xs, ys, rfl, .inr ⟨SqL.of h, SqT.of h', q⟩⟩
theorem s_zl (h : H a = some (.lst xs)) (h' : H b = some (.lst ys)) (q : R (Itz K a b) H) : rZL K [.ref a, .ref b] H R := ⟨a, b, xs, ys, rfl, SqL.of h, SqL.of h', q⟩
theorem s_iStr {z : Str} (q : te σ H fun v H1 => ∃ x, v = .str x ∧ R (Its x) H1) : iStr te σ H R := q
end
/-! a tuple of texts -/
theorem DtAll.strs_eq {H : Hp} : ∀ {ns : List Str} {vs : List V}, DtAll H vs (ns.map PyData.str) → vs = ns.map V.str
  | [], _, h => by cases h; rfl
  | n :: r, _, h => by
    cases h with
    | cons h1 h2 => rw [h1.str_eq, DtAll.strs_eq h2]; rfl
/-! ### a comprehension of two walks; of a dict -/
section
variable {K : PySem.W.Frag} {w : World} {σ σ' σ2 : L2.St} {H H4 : Hp} {Q : VK}
theorem s_lc2 {wi wi1 : TI} {g g1 : TG} {tt tt1 : TT} {te : TE} {vs vs1 : List Nat} (q : wi σ H fun J H1 => ∀ D, H1 D = none → ∃ W : Nat → Nat → Hp → Prop, (∃ m, W 0 m (upd H1 D (.lst []))) ∧ ∀ i m H, W i m H →
  (J.stop i H ∧ Q (.ref D) H) ∨ (J.go i H ∧ ∃ Nx : Hp → Prop, (∀ H', Nx H' → ∃ m', m' < m ∧ W (i + 1) m' H') ∧ ∀ x H', J.yld i H x H' → g x (wipe σ vs) H' fun σ2 H2 => wipe σ2 vs = wipe σ vs ∧ tt σ2 H2 fun b H3 =>
    if b = true then wi1 σ2 H3 fun J1 H4 => ∃ W1 : Nat → Nat → Hp → Prop, (∃ m, W1 0 m H4) ∧ ∀ j k H, W1 j k H →
      (J1.stop j H ∧ Nx H) ∨ (J1.go j H ∧ ∃ Nx1 : Hp → Prop, (∀ H', Nx1 H' → ∃ k', k' < k ∧ W1 (j + 1) k' H') ∧ ∀ x H', J1.yld j H x H' → g1 x (wipe σ2 vs1) H' fun σ3 H5 => wipe σ3 vs1 = wipe σ2 vs1 ∧ tt1 σ3 H5 fun b H6 =>
        if b = true then te σ3 H6 fun y H7 => ∃ acc, H7 D = some (.lst acc) ∧ acc.length < sizeLine ∧ Nx1 (upd H7 D (.lst (acc ++ [y]))) else Nx1 H6)
    else Nx H3)) : tLc2 wi g tt wi1 g1 tt1 te vs vs1 σ H Q := q
theorem lc2_W {J : It} {n : Nat} {G : Hp → Prop} {Y : Nat → Hp → V → Hp → Prop} (w : Walk J n G Y) {g : TG} {tt : TT} {B : Addr → L2.St → Hp → (Hp → Prop) → Prop} {vs : List Nat} {F : Addr → Hp → Prop} (Pv : Addr → Nat → Hp → Prop) (hG : ∀ D i H', Pv D i H' → G H') (h0 : ∀ D H', H D = none → Ext [] H H' → H' D = some (.lst []) → Pv D 0 H')
    (hs : ∀ i x D H1 H2, i < n → H D = none → Pv D i H1 → Y i H1 x H2 → g x (wipe σ vs) H2 fun σ2 H2 => wipe σ2 vs = wipe σ vs ∧ tt σ2 H2 fun b H3 => if b = true then B D σ2 H3 (Pv D (i + 1)) else Pv D (i + 1) H3)
    (hd : ∀ D H', H D = none → Pv D n H' → F D H') :
    ∀ D, H D = none → ∃ W : Nat → Nat → Hp → Prop, (∃ m, W 0 m (upd H D (.lst []))) ∧ ∀ i m H, W i m H →
      (J.stop i H ∧ F D H) ∨ (J.go i H ∧ ∃ Nx : Hp → Prop, (∀ H', Nx H' → ∃ m', m' < m ∧ W (i + 1) m' H') ∧ ∀ x H', J.yld i H x H' → g x (wipe σ vs) H' fun σ2 H2 => wipe σ2 vs = wipe σ vs ∧ tt σ2 H2 fun b H3 =>
        if b = true then B D σ2 H3 Nx else Nx H3) := fun D hD => by
  refine ⟨fun i m H => m = n - i ∧ i ≤ n ∧ Pv D i H, ⟨n, by simp, Nat.zero_le _, h0 D _ hD (Ext.new hD) upd_same⟩, ?_⟩
  rintro i m H ⟨rfl, hi, p⟩
  have q := hG D i H p
  by_cases hlt : i < n
  · exact .inr ⟨w.goes i H hlt q, Pv D (i + 1), fun H' p' => ⟨n - (i + 1), by omega, rfl, hlt, p'⟩, fun x H' y => hs i x D H H' hlt hD p (w.yields i H x H' hlt q y)⟩
  · have e : i = n := by omega
    subst e
    exact .inl ⟨w.stops H q, hd D H hD p⟩
theorem lc2_in {J1 : It} {n : Nat} {G : Hp → Prop} {Y : Nat → Hp → V → Hp → Prop} (w : Walk J1 n G Y) {g1 : TG} {tt1 : TT} {te : TE} {vs1 : List Nat} {D : Addr} {Nx : Hp → Prop} (Pv : Nat → Hp → Prop) (h0 : Pv 0 H4) (hG : ∀ i H', Pv i H' → G H')
    (hs : ∀ j x H H', j < n → Pv j H → Y j H x H' → g1 x (wipe σ2 vs1) H' fun σ3 H5 => wipe σ3 vs1 = wipe σ2 vs1 ∧ tt1 σ3 H5 fun b H6 =>
        if b = true then te σ3 H6 fun y H7 => ∃ acc, H7 D = some (.lst acc) ∧ acc.length < sizeLine ∧ Pv (j + 1) (upd H7 D (.lst (acc ++ [y]))) else Pv (j + 1) H6)
    (hd : ∀ H, Pv n H → Nx H) : ∃ W1 : Nat → Nat → Hp → Prop, (∃ m, W1 0 m H4) ∧ ∀ j k H, W1 j k H →
      (J1.stop j H ∧ Nx H) ∨ (J1.go j H ∧ ∃ Nx1 : Hp → Prop, (∀ H', Nx1 H' → ∃ k', k' < k ∧ W1 (j + 1) k' H') ∧ ∀ x H', J1.yld j H x H' → g1 x (wipe σ2 vs1) H' fun σ3 H5 => wipe σ3 vs1 = wipe σ2 vs1 ∧ tt1 σ3 H5 fun b H6 =>
        if b = true then te σ3 H6 fun y H7 => ∃ acc, H7 D = some (.lst acc) ∧ acc.length < sizeLine ∧ Nx1 (upd H7 D (.lst (acc ++ [y]))) else Nx1 H6) := by
  refine ⟨fun i m H => m = n - i ∧ i ≤ n ∧ Pv i H, ⟨n, by simp, Nat.zero_le _, h0⟩, ?_⟩
  rintro i m H ⟨rfl, hi, p⟩
  have q := hG i H p
  by_cases hlt : i < n
  · exact .inr ⟨w.goes i H hlt q, Pv (i + 1), fun H' p' => ⟨n - (i + 1), by omega, rfl, hlt, p'⟩, fun x H' y => hs i x H H' hlt p (w.yields i H x H' hlt q y)⟩
  · have e : i = n := by omega
    subst e
    exact .inl ⟨w.stops H q, hd H p⟩
theorem s_dc {wi : TI} {g : TG} {tt : TT} {tk tv : TE} {vs : List Nat} (q : wi σ H fun J H1 => ∀ D, H1 D = none → ∃ W : Nat → Nat → Hp → Prop, (∃ m, W 0 m (upd H1 D (.dK []))) ∧ ∀ i m H, W i m H →
  (J.stop i H ∧ Q (.ref D) H) ∨ (J.go i H ∧ ∃ Nx : Hp → Prop, (∀ H', Nx H' → ∃ m', m' < m ∧ W (i + 1) m' H') ∧ ∀ x H', J.yld i H x H' → g x (wipe σ vs) H' fun σ2 H2 => wipe σ2 vs = wipe σ vs ∧ tt σ2 H2 fun b H3 =>
    if b = true then tk σ2 H3 fun y H4 => tv σ2 H4 fun z H5 => ∃ kvs k, y = kV k ∧ H5 D = some (.dK kvs) ∧ kvs.length < sizeLine ∧ Nx (upd H5 D (.dK (putK kvs k z))) else Nx H3)) : tDc wi g tt tk tv vs σ H Q := q
theorem dc_W {J : It} {n : Nat} {G : Hp → Prop} {Y : Nat → Hp → V → Hp → Prop} (w : Walk J n G Y) {g : TG} {tt : TT} {tk tv : TE} {vs : List Nat} {F : Addr → Hp → Prop} (Pv : Addr → Nat → Hp → Prop) (hG : ∀ D i H', Pv D i H' → G H') (h0 : ∀ D H', H D = none → Ext [] H H' → H' D = some (.dK []) → Pv D 0 H')
    (hs : ∀ i x D H1 H2, i < n → H D = none → Pv D i H1 → Y i H1 x H2 → g x (wipe σ vs) H2 fun σ2 H2 => wipe σ2 vs = wipe σ vs ∧ tt σ2 H2 fun b H3 =>
      if b = true then tk σ2 H3 fun y H4 => tv σ2 H4 fun z H5 => ∃ kvs k, y = kV k ∧ H5 D = some (.dK kvs) ∧ kvs.length < sizeLine ∧ Pv D (i + 1) (upd H5 D (.dK (putK kvs k z))) else Pv D (i + 1) H3)
    (hd : ∀ D H', H D = none → Pv D n H' → F D H') :
    ∀ D, H D = none → ∃ W : Nat → Nat → Hp → Prop, (∃ m, W 0 m (upd H D (.dK []))) ∧ ∀ i m H, W i m H →
      (J.stop i H ∧ F D H) ∨ (J.go i H ∧ ∃ Nx : Hp → Prop, (∀ H', Nx H' → ∃ m', m' < m ∧ W (i + 1) m' H') ∧ ∀ x H', J.yld i H x H' → g x (wipe σ vs) H' fun σ2 H2 => wipe σ2 vs = wipe σ vs ∧ tt σ2 H2 fun b H3 =>
        if b = true then tk σ2 H3 fun y H4 => tv σ2 H4 fun z H5 => ∃ kvs k, y = kV k ∧ H5 D = some (.dK kvs) ∧ kvs.length < sizeLine ∧ Nx (upd H5 D (.dK (putK kvs k z))) else Nx H3) := fun D hD => by
  refine ⟨fun i m H => m = n - i ∧ i ≤ n ∧ Pv D i H, ⟨n, by simp, Nat.zero_le _, h0 D _ hD (Ext.new hD) upd_same⟩, ?_⟩
  rintro i m H ⟨rfl, hi, p⟩
  have q := hG D i H p
  by_cases hlt : i < n
  · exact .inr ⟨w.goes i H hlt q, Pv D (i + 1), fun H' p' => ⟨n - (i + 1), by omega, rfl, hlt, p'⟩, fun x H' y => hs i x D H H' hlt hD p (w.yields i H x H' hlt q y)⟩
  · have e : i = n := by omega
    subst e
    exact .inl ⟨w.stops H q, hd D H hD p⟩
end
/-! what was new stays apart -/
theorem new_ne {H H' : Hp} {M : List Addr} {a b : Addr} {o : HO} (e : Ext M H H') (h : H a = some o) (h' : H' b = none) : a ≠ b := fun z => by
  have := e.free h'
  rw [← z, h] at this
  cases this
end Bw

/-! promises and how they are used -/
namespace Bw
open PySem PySem.Spec PyProof.Rows L2
def spForm (word : Str) (n : Nat) : Sp := fun vs H Q _ => ∃ v, vs = [v] ∧ ((v = .non ∧ Q (.bl false) H) ∨ ∃ s r, Dt H v (.tuple (.str s :: r)) ∧ Q (.bl (decide (((r.length + 1 : Nat) : Int) = (n : Int)) && decide (s = word))) H)
def encT (ms : List Str) (ps : List Part) : PyData := .tuple [.str "tree", .tuple (ms.map .str), .tuple (encs ps)]
section
variable {H : Hp} {v : V} {Q : VK} {E : XK}
theorem g_form {w : Str} {n : Nat} {vs : List V} (q : spForm w n vs H Q E) : spForm w n vs H Q E := q
theorem isDev_enc {p : Part} (h : Dt H v p.enc) (q : Q (.bl p.isDev) H) : spForm "device" 3 [v] H Q E := by
  refine ⟨v, rfl, ?_⟩
  cases p with
  | emp => exact .inl ⟨Dt.empE h, q⟩
  | dev n as => exact .inr ⟨"device", [_, _], (by unfold Part.enc at h; exact h), cb (show (decide (((2 + 1 : Nat) : Int) = ((3 : Nat) : Int)) && decide (("device" : Str) = "device")) = true from by decide +kernel) q⟩
  | br n ms ps => exact .inr ⟨"bridge", [_, _, _], (by unfold Part.enc at h; exact h), cb (show (decide (((3 + 1 : Nat) : Int) = ((3 : Nat) : Int)) && decide (("bridge" : Str) = "device")) = false from by decide +kernel) q⟩
theorem isBr_enc {p : Part} (h : Dt H v p.enc) (q : Q (.bl p.isBr) H) : spForm "bridge" 4 [v] H Q E := by
  refine ⟨v, rfl, ?_⟩
  cases p with
  | emp => exact .inl ⟨Dt.empE h, q⟩
  | dev n as => exact .inr ⟨"device", [_, _], (by unfold Part.enc at h; exact h), cb (show (decide (((2 + 1 : Nat) : Int) = ((4 : Nat) : Int)) && decide (("device" : Str) = "bridge")) = false from by decide +kernel) q⟩
  | br n ms ps => exact .inr ⟨"bridge", [_, _, _], (by unfold Part.enc at h; exact h), cb (show (decide (((3 + 1 : Nat) : Int) = ((4 : Nat) : Int)) && decide (("bridge" : Str) = "bridge")) = true from by decide +kernel) q⟩
theorem isDev_dev {n : Str} {as : List Area} (h : Dt H v (Part.dev n as).enc) (q : Q (.bl true) H) : spForm "device" 3 [v] H Q E := isDev_enc h q
theorem isDev_br {n : Str} {ms : List Str} {ps : List Part} (h : Dt H v (Part.br n ms ps).enc) (q : Q (.bl false) H) : spForm "device" 3 [v] H Q E := isDev_enc h q
theorem isDev_non (q : Q (.bl false) H) : spForm "device" 3 [.non] H Q E := ⟨_, rfl, .inl ⟨rfl, q⟩⟩
theorem isBr_dev {n : Str} {as : List Area} (h : Dt H v (Part.dev n as).enc) (q : Q (.bl false) H) : spForm "bridge" 4 [v] H Q E := isBr_enc h q
theorem isBr_br {n : Str} {ms : List Str} {ps : List Part} (h : Dt H v (Part.br n ms ps).enc) (q : Q (.bl true) H) : spForm "bridge" 4 [v] H Q E := isBr_enc h q
theorem isBr_non (q : Q (.bl false) H) : spForm "bridge" 4 [.non] H Q E := ⟨_, rfl, .inl ⟨rfl, q⟩⟩
theorem isDev_tree {ms : List Str} {ps : List Part} (h : Dt H v (encT ms ps)) (q : Q (.bl false) H) : spForm "device" 3 [v] H Q E := ⟨v, rfl, .inr ⟨"tree", [_, _], (by unfold encT at h; exact h), cb (show (decide (((2 + 1 : Nat) : Int) = ((3 : Nat) : Int)) && decide (("tree" : Str) = "device")) = false from by decide +kernel) q⟩⟩
end
def Node (d : PyData) (ps : List Part) : Prop := (∃ p : Part, d = p.enc ∧ ps = p.kids) ∨ ∃ ms, d = encT ms ps
def spPartsOf : Sp := fun vs H Q _ => ∃ v d ps, vs = [v] ∧ Dt H v d ∧ Node d ps ∧ ∀ v' H', Ext [] H H' → Dt H' v' (.tuple (encs ps)) → Q v' H'

/-! a list beside [] -/
theorem DtAll.nil_iff {H : Hp} {xs : List V} {ds : List PyData} (h : DtAll H xs ds) : xs = [] ↔ ds = [] := by cases h <;> simp
theorem eqvAll_nil : ∀ ds : List PyData, PyData.eqvAll ds [] = decide (ds = [])
  | [] => by unfold PyData.eqvAll; rfl
  | _ :: _ => by unfold PyData.eqvAll; rfl
def Plain (ds : List PyData) : Prop := PyData.canLayAll0 ds = true ∧ PyData.depthAll ds ≤ 60
section
variable {K : PySem.W.Frag} {H : Hp} {Q : VK} {a b : Addr} {xs : List V} {ds : List PyData}
theorem shaped_list (h : Plain ds) : SeqAt.shaped (.list ds) = true := by
  unfold SeqAt.shaped PyData.canLay0 PyData.depth
  rw [h.1, decide_eq_true (by have := h.2; omega)]
  rfl
theorem shaped_tup (h : Plain ds) : SeqAt.shaped (.tuple ds) = true := by
  unfold SeqAt.shaped PyData.canLay0 PyData.depth
  rw [h.1, decide_eq_true (by have := h.2; omega)]
  rfl
theorem plain_nil : Plain [] := ⟨rfl, Nat.zero_le _⟩
theorem s_eqNil (h : H a = some (.lst xs)) (hd : DtAll H xs ds) (hp : Plain ds) (hb : H b = some (.lst [])) (q : Q (.bl (decide (ds = []))) H) : rEqD K (.ref a) (.ref b) H Q :=
  ⟨.list ds, .list [], .lst (SqL.of h) hd.dp, .lst (SqL.of hb) .nil, shaped_list hp, shaped_list plain_nil, by
    rw [show PyData.eqv (.list ds) (.list []) = decide (ds = []) from eqvAll_nil ds]
    exact q⟩
theorem s_neNil (h : H a = some (.lst xs)) (hd : DtAll H xs ds) (hp : Plain ds) (hb : H b = some (.lst [])) (q : Q (.bl (!decide (ds = []))) H) : rNeD K (.ref a) (.ref b) H Q :=
  ⟨.list ds, .list [], .lst (SqL.of h) hd.dp, .lst (SqL.of hb) .nil, shaped_list hp, shaped_list plain_nil, by
    rw [show PyData.eqv (.list ds) (.list []) = decide (ds = []) from eqvAll_nil ds]
    exact q⟩
end
theorem plain_ints : ∀ ns : List Int, Plain (ns.map PyData.int)
  | [] => plain_nil
  | n :: r => ⟨by
    show (PyData.canLay0 (.int n) && PyData.canLayAll0 (r.map PyData.int)) = true
    rw [(plain_ints r).1]
    rfl, by
    show max (PyData.depth (.int n)) (PyData.depthAll (r.map PyData.int)) ≤ 60
    have := (plain_ints r).2
    have : PyData.depth (.int n) = 0 := by unfold PyData.depth; rfl
    omega⟩
/-! ### placed -/
inductive IsPl : List PyData → List Part → Prop
  | nil : IsPl [] []
  | cons (path : List PyData) (q : Part) {L : List PyData} {qs : List Part} : IsPl L qs → IsPl (.tuple [.tuple path, q.enc] :: L) (q :: qs)
theorem IsPl.append {L M : List PyData} {qs rs : List Part} (h : IsPl L qs) (k : IsPl M rs) : IsPl (L ++ M) (qs ++ rs) := by
  induction h with
  | nil => exact k
  | cons path q _ ih => exact .cons path q ih
theorem IsPl.get {L : List PyData} {qs : List Part} (h : IsPl L qs) : ∀ {i : Nat} {d : PyData}, L[i]? = some d → ∃ path q, qs[i]? = some q ∧ d = .tuple [.tuple path, q.enc] := by
  induction h with
  | nil => intro i d e; simp at e
  | cons path q _ ih =>
    intro i d e
    cases i with
    | zero => exact ⟨path, q, rfl, (Option.some.inj e).symm⟩
    | succ i =>
      obtain ⟨p', q', h1, h2⟩ := ih (i := i) (by simpa using e)
      exact ⟨p', q', by simpa using h1, h2⟩
theorem IsPl.len {L : List PyData} {qs : List Part} (h : IsPl L qs) : L.length = qs.length := by
  induction h with
  | nil => rfl
  | cons path q _ ih => rw [List.length_cons, List.length_cons, ih]
theorem plss_append : ∀ ps qs : List Part, plss (ps ++ qs) = plss ps ++ plss qs
  | [], _ => rfl
  | p :: r, qs => by rw [List.cons_append, plss, plss, plss_append r qs, List.append_assoc]
theorem plss_take {ps : List Part} {i : Nat} {p : Part} (h : ps[i]? = some p) : plss (ps.take (i + 1)) = plss (ps.take i) ++ pls p := by
  rw [List.take_add_one, h, plss_append]
  show _ ++ (pls p ++ []) = _
  rw [List.append_nil]
theorem pls_kids {p : Part} (h : p ≠ .emp) : pls p = p :: plss p.kids := by
  cases p with
  | emp => exact absurd rfl h
  | dev n as => rfl
  | br n ms ps => rfl
theorem mem_at {α : Type} {l : List α} {i : Nat} {a : α} (h : l[i]? = some a) : a ∈ l := List.mem_of_getElem? h
theorem cnts_kids (p : Part) : cnts p.kids + 1 ≤ cnt p := by
  cases p with
  | emp => exact Nat.le_refl _
  | dev n as => show 0 + 1 ≤ 1 + as.length; omega
  | br n ms ps => show cnts ps + 1 ≤ 1 + cnts ps; omega
theorem cnts_append : ∀ ps qs : List Part, cnts (ps ++ qs) = cnts ps + cnts qs
  | [], _ => (Nat.zero_add _).symm
  | p :: r, qs => by rw [List.cons_append, cnts, cnts, cnts_append r qs, Nat.add_assoc]
theorem cnts_take (ps : List Part) (i : Nat) : cnts (ps.take i) ≤ cnts ps := by
  have := cnts_append (ps.take i) (ps.drop i)
  rw [List.take_append_drop] at this
  omega
mutual
theorem pls_bound : ∀ (p : Part), ∀ q ∈ pls p, dep q ≤ dep p ∧ cnt q ≤ cnt p
  | .emp, q, h => by cases h
  | .dev n as, q, h => by rw [List.mem_singleton.mp h]; exact ⟨Nat.le_refl _, Nat.le_refl _⟩
  | .br n ms ps, q, h => by
    rcases List.mem_cons.mp h with rfl | h
    · exact ⟨Nat.le_refl _, Nat.le_refl _⟩
    · have := plss_bound ps q h
      show dep q ≤ deps ps + 1 ∧ cnt q ≤ 1 + cnts ps
      omega
theorem plss_bound : ∀ (ps : List Part), ∀ q ∈ plss ps, dep q ≤ deps ps ∧ cnt q ≤ cnts ps
  | [], q, h => by cases h
  | p :: r, q, h => by
    rw [plss] at h
    show dep q ≤ max (dep p) (deps r) ∧ cnt q ≤ cnt p + cnts r
    rcases List.mem_append.mp h with h | h
    · have := pls_bound p q h
      omega
    · have := plss_bound r q h
      omega
end
def spPlacedIn (f : Nat) : Sp := fun vs H Q _ => ∃ v u ps ab, vs = [v, u] ∧ Dt H v (.tuple (encs ps)) ∧ Dt H u (.tuple ab) ∧ ab.length + f ≤ 100 ∧ cnts ps ≤ 1000 ∧ (deps ps + 2 ≤ f ∨ ps = [] ∧ 1 ≤ f) ∧
  ∀ p xs L H', Ext [] H H' → H p = none → H' p = some (.lst xs) → DtAll H' xs L → IsPl L (plss ps) → Q (.ref p) H'
def spPlaced : Sp := fun vs H Q _ => ∃ v ms ps, vs = [v] ∧ Dt H v (encT ms ps) ∧ cnts ps ≤ 1000 ∧ deps ps ≤ 6 ∧ ∀ v' L H', Ext [] H H' → Dt H' v' (.tuple L) → IsPl L (plss ps) → Q v' H'
def spWithParts : Sp := fun vs H Q _ => ∃ v u ds e, vs = [v, u] ∧ Dt H v (.tuple ds) ∧ Dt H u e ∧ ds.length ≤ 10 ∧ ∀ v' H', Ext [] H H' → Dt H' v' (.tuple (cutD ds none (some (-1)) ++ [e])) → Q v' H'
mutual
def onlyP (ns : List Str) : Part → Part
  | .emp => .emp
  | .dev n as => if n ∈ ns then .dev n as else .emp
  | .br n ms ps => .br n ms (onlyPs ns ps)
def onlyPs (ns : List Str) : List Part → List Part
  | [] => []
  | p :: r => onlyP ns p :: onlyPs ns r
end
theorem onlyPs_map (ns : List Str) : ∀ ps : List Part, onlyPs ns ps = ps.map (onlyP ns)
  | [] => rfl
  | p :: r => by rw [onlyPs, onlyPs_map ns r]; rfl
def spPartOnly (f : Nat) : Sp := fun vs H Q _ => ∃ v u ns d d', vs = [v, .ref u] ∧ H u = some (.tup (ns.map V.str)) ∧ Dt H v d ∧
  ((∃ p : Part, d = p.enc ∧ d' = (onlyP ns p).enc ∧ dep p < f ∧ cnt p ≤ 1000) ∨ ∃ ms ps, d = encT ms ps ∧ d' = encT ms (onlyPs ns ps) ∧ deps ps + 1 < f ∧ cnts ps ≤ 1000) ∧ ∀ v' H', Ext [] H H' → Dt H' v' d' → Q v' H'
def spOnly : Sp := fun vs H Q _ => ∃ v u ns ms ps, vs = [v, u] ∧ Dt H u (.tuple (ns.map PyData.str)) ∧ Dt H v (encT ms ps) ∧ deps ps ≤ 6 ∧ cnts ps ≤ 1000 ∧ ∀ v' H', Ext [] H H' → Dt H' v' (encT ms (onlyPs ns ps)) → Q v' H'
def spPowerFrom : Sp := fun vs H Q _ => ∃ n, vs = [.int n] ∧ Q (.int (pw n)) H
def spAreaSizes : Sp := fun vs H Q _ => ∃ v n as kk, vs = [v, .str kk] ∧ Dt H v (Part.dev n as).enc ∧ as.length ≤ 1000 ∧ ∀ p H', H p = none → Ext [] H H' → H' p = some (.lst ((szA kk as).map V.int)) → Q (.ref p) H'
def spLeastSize (f : Nat) : Sp := fun vs H Q _ => ∃ v n ms ps kk, vs = [v, .str kk] ∧ Dt H v (Part.br n ms ps).enc ∧ deps ps + 1 ≤ f ∧ cnts ps ≤ 1000 ∧ ∀ H', Ext [] H H' → Q (.int (lw (szs kk ps))) H'
def spSizesOn (f : Nat) : Sp := fun vs H Q _ => ∃ v ps kk, vs = [v, .str kk] ∧ Dt H v (.tuple (encs ps)) ∧ deps ps ≤ f ∧ cnts ps ≤ 1000 ∧ ∀ p H', H p = none → Ext [] H H' → H' p = some (.lst ((szs kk ps).map V.int)) → Q (.ref p) H'
def brs (ps : List Part) : List Part := (plss ps).filter Part.isBr
def spBridgesOf : Sp := fun vs H Q _ => ∃ v ms ps, vs = [v] ∧ Dt H v (encT ms ps) ∧ cnts ps ≤ 1000 ∧ deps ps ≤ 6 ∧ ∀ p xs H', H p = none → Ext [] H H' → H' p = some (.lst xs) → DtAll H' xs ((brs ps).map Part.enc) → Q (.ref p) H'
def encW (p : Part) : PyData := .tuple [.str p.nm, .int (p.least kF), .int (p.least kN)]
def spLeastWindows : Sp := fun vs H Q _ => ∃ v ms ps, vs = [v] ∧ Dt H v (encT ms ps) ∧ cnts ps ≤ 1000 ∧ deps ps ≤ 6 ∧ ∀ v' H', Ext [] H H' → Dt H' v' (.tuple ((brs ps).map encW)) → Q v' H'
def spWanted : Sp := fun vs H Q _ => ∃ v ms ps kk, vs = [v, .str kk] ∧ Dt H v (encT ms ps) ∧ cnts ps ≤ 1000 ∧ deps ps ≤ 6 ∧ ∀ v' H', Ext [] H H' → Dt H' v' (.tuple ((szs kk ps).map PyData.int)) → Q v' H'
def spRefusal : Sp := fun vs H Q _ => ∃ v u ms ps rf re, vs = [v, u] ∧ Dt H v (encT ms ps) ∧ cnts ps < 64 ∧ deps ps ≤ 6 ∧ Dt H u (.tuple [.tuple (rf.map encB), .tuple (re.map encB)]) ∧ rf.length ≤ 1000 ∧ re.length ≤ 1000 ∧
  (Fits rf (szs kF ps) ∧ Fits re (szs kN ps) → ∀ H', Ext [] H H' → Q .non H') ∧ (¬ (Fits rf (szs kF ps) ∧ Fits re (szs kN ps)) → ∀ t H', Ext [] H H' → Q (.ref t) H')
end Bw

/-! promises: rows, blocks, assignments -/
namespace Bw
open PySem PySem.Spec PyProof.Rows L2
def spIsWindow : Sp := fun vs H Q _ => ∃ v x n ms ps kk o, vs = [v, .str kk, x] ∧ Dt H v (Part.br n ms ps).enc ∧ deps ps + 1 ≤ 6 ∧ cnts ps ≤ 1000 ∧ Dt H x (encO o) ∧ WOk (lw (szs kk ps)) o ∧ ∀ H', Ext [] H H' → Q (.bl true) H'
def spIsRow : Sp := fun vs H Q _ => ∃ v x p A, vs = [v, x] ∧ Dt H v (Part.enc p) ∧ p ≠ .emp ∧ dep p ≤ 6 ∧ cnt p ≤ 1000 ∧ AsgP A p ∧ Dt H x (A p.nm).enc ∧ ∀ H', Ext [] H H' → Q (.bl true) H'
def spBlocksOf : Sp := fun vs H Q _ => ∃ v x p A kk, vs = [v, x, .str kk] ∧ Dt H v (Part.enc p) ∧ p ≠ .emp ∧ cnt p ≤ 1000 ∧ AsgP A p ∧ Dt H x (A p.nm).enc ∧ (kk = kF ∨ kk = kN) ∧ ∀ l xs H', H l = none → Ext [] H H' → H' l = some (.lst xs) → DtAll H' xs ((bk kk A p).map encB) → Q (.ref l) H'
def RowsIn (H : Hp) (kvs : List (Key × V)) (A : Str → Row) (q : Part) : Prop := ∃ x, valV kvs (.inr q.nm) = some x ∧ Dt H x (A q.nm).enc
theorem RowsIn.ext {H H' : Hp} {M : List Addr} {kvs : List (Key × V)} {A : Str → Row} {q : Part} (h : RowsIn H kvs A q) (e : Ext M H H') : RowsIn H' kvs A q := h.elim fun x h => ⟨x, h.1, h.2.ext e⟩
def spBlocksOn : Sp := fun vs H Q _ => ∃ v d ps kvs A kk, vs = [v, .ref d, .str kk] ∧ Dt H v (.tuple (encs ps)) ∧ H d = some (.dK kvs) ∧ (∀ q ∈ ps, q ≠ .emp → RowsIn H kvs A q) ∧ cnts ps ≤ 1000 ∧ AsgPs A ps ∧ (kk = kF ∨ kk = kN) ∧
  ∀ l xs H', H l = none → Ext [] H H' → H' l = some (.lst xs) → DtAll H' xs ((bks kk A ps).map encB) → Q (.ref l) H'
instance (b c : Blk) : Decidable (Within b c) := inferInstanceAs (Decidable (_ ∧ _))
def spLiesWithin : Sp := fun vs H Q _ => ∃ v u b c, vs = [v, u] ∧ Dt H v (encB b) ∧ Dt H u (encB c) ∧ Q (.bl (decide (Within b c))) H
def spAreApart : Sp := fun vs H Q _ => ∃ l xs, ∃ bs : List Blk, vs = [.ref l] ∧ H l = some (.lst xs) ∧ DtAll H xs (bs.map encB) ∧ bs.length ≤ 2000 ∧ bs.Pairwise Apart ∧ (∀ b ∈ bs, 0 < b.2) ∧ ∀ H', Ext [] H H' → Q (.bl true) H'
def spArePlaced : Sp := fun vs H Q _ => ∃ l r xs, ∃ bs room : List Blk, vs = [.ref l, r] ∧ H l = some (.lst xs) ∧ DtAll H xs (bs.map encB) ∧ bs.length ≤ 2000 ∧ Placed bs room ∧ (∀ b ∈ bs, 0 < b.2) ∧ Dt H r (.tuple (room.map encB)) ∧ room.length ≤ 1000 ∧ ∀ H', Ext [] H H' → Q (.bl true) H'
def spRoomBelow : Sp := fun vs H Q _ => ∃ x n f e kk, vs = [x, .str kk] ∧ Dt H x (Row.br n f e).enc ∧ (kk = kF ∨ kk = kN) ∧ ∀ v H', Ext [] H H' → Dt H' v (.tuple ((win kk f e).toList.map encB)) → Q v H'
def rowsD (A : Str → Row) (ps : List Part) : List PyData := (plss ps).map fun q => (A q.nm).enc
def spHolds : Sp := fun vs H Q _ => ∃ v u x ms ps rf re A, vs = [v, u, x] ∧ Dt H v (encT ms ps) ∧ cnts ps ≤ 1000 ∧ deps ps ≤ 6 ∧ Dt H u (.tuple [.tuple (rf.map encB), .tuple (re.map encB)]) ∧ rf.length ≤ 1000 ∧ re.length ≤ 1000 ∧ Dt H x (.tuple (rowsD A ps)) ∧ Asg ps rf re A ∧ ∀ H', Ext [] H H' → Q (.bl true) H'
/-! KINDS -/
structure Kd (K : PySem.W.Frag) (kd : Addr) : Prop where
  sq : ∀ H, SqT K H kd [.str kF, .str kN]
  ty : ∀ H, tyV K "tuple" (.ref kd) H
section
variable {K : PySem.W.Frag} {kd : Addr} {H : Hp} {P : Prop} {G : V → Hp → Prop}
theorem s_tyK (h : Kd K kd) (q : P) : tyV K "tuple" (.ref kd) H ∧ P := ⟨h.ty H, q⟩
def rTIx (K : PySem.W.Frag) : V → List V → Hp → VK → Prop := fun x xs H Q => ∃ p, ∃ ys : List Str, ∃ z j, x = .ref p ∧ xs = [.str z] ∧ SqT K H p (ys.map V.str) ∧ ys[j]? = some z ∧ (∀ m, m < j → ys[m]? ≠ some z) ∧ Q (.int (j : Nat)) H
theorem mt_idx {X : Cx} : MtR X "tuple.index" (rTIx X.K) := mt_tup_index
variable {Q : VK}
theorem g_tix {x : V} {vs : List V} (q : rTIx K x vs H Q) : rTIx K x vs H Q := q
theorem s_idx0 (h : Kd K kd) (q : Q (.int 0) H) : rTIx K (.ref kd) [.str kF] H Q :=
  ⟨kd, [kF, kN], kF, 0, rfl, rfl, h.sq H, rfl, fun m hm => absurd hm (Nat.not_lt_zero m), q⟩
theorem s_idx1 (h : Kd K kd) (q : Q (.int 1) H) : rTIx K (.ref kd) [.str kN] H Q :=
  ⟨kd, [kF, kN], kN, 1, rfl, rfl, h.sq H, rfl, fun m hm => by
    obtain rfl : m = 0 := by omega
    exact fun z => kF_ne (Option.some.inj z), q⟩
end
/-! the plain of it -/
theorem sorted_gap : ∀ {bs : List Blk}, bs.Pairwise LexLe → bs.Pairwise Apart → (∀ b ∈ bs, 0 < b.2) → ∀ {i : Nat} {a b : Blk}, bs[i]? = some a → bs[i + 1]? = some b → a.1 + a.2 ≤ b.1
  | [], _, _, _, _, _, _, h, _ => by simp at h
  | x :: r, h1, h2, h3, 0, a, b, ha, hb => by
    have ea : x = a := Option.some.inj ha
    have hb' : b ∈ r := mem_at (i := 0) (by simpa using hb)
    have l := (List.pairwise_cons.mp h1).1 b hb'
    have q := (List.pairwise_cons.mp h2).1 b hb'
    have p1 := h3 b (List.mem_cons_of_mem _ hb')
    have p2 := h3 x List.mem_cons_self
    subst ea
    unfold LexLe at l
    unfold Apart at q
    omega
  | x :: r, h1, h2, h3, i + 1, a, b, ha, hb => sorted_gap (List.pairwise_cons.mp h1).2 (List.pairwise_cons.mp h2).2 (fun b hb => h3 b (List.mem_cons_of_mem _ hb)) (i := i) (by simpa using ha) (by simpa using hb)
theorem apart_perm {xs ys : List Blk} (h : xs.Perm ys) (p : ys.Pairwise Apart) : xs.Pairwise Apart := h.symm.pairwise p fun h => h.symm
theorem pick_take (k : Str) : ∀ {bs : List Blk} {as : List Area} {i : Nat} {b : Blk} {a : Area}, bs[i]? = some b → as[i]? = some a → pickK k (bs.take (i + 1)) (as.take (i + 1)) = pickK k (bs.take i) (as.take i) ++ (if a.1 = k then [b] else [])
  | [], _, _, _, _, h, _ => by simp at h
  | _ :: _, [], _, _, _, _, h => by simp at h
  | b :: bs, a :: as, 0, b', a', hb, ha => by
    have e1 : b = b' := Option.some.inj hb
    have e2 : a = a' := Option.some.inj ha
    subst e1 e2
    show (if a.1 = k then [b] else []) ++ pickK k (bs.take 0) (as.take 0) = [] ++ _
    rw [List.take_zero]
    show (if a.1 = k then [b] else []) ++ [] = _
    rw [List.append_nil, List.nil_append]
  | b :: bs, a :: as, i + 1, b', a', hb, ha => by
    have := pick_take k (bs := bs) (as := as) (i := i) (b := b') (a := a') (by simpa using hb) (by simpa using ha)
    show (if a.1 = k then [b] else []) ++ pickK k (bs.take (i + 1)) (as.take (i + 1)) = ((if a.1 = k then [b] else []) ++ pickK k (bs.take i) (as.take i)) ++ _
    rw [this, List.append_assoc]
theorem pick_all (k : Str) : ∀ {bs : List Blk} {as : List Area}, bs.length = as.length → pickK k (bs.take as.length) (as.take as.length) = pickK k bs as := fun {bs as} h => by
  rw [List.take_length, ← h, List.take_length]
theorem dok_at : ∀ {bs : List Blk} {as : List Area} {i : Nat} {b : Blk} {a : Area}, DOk bs as → bs[i]? = some b → as[i]? = some a → IsBlk b ∧ b.2 = a.2
  | [], _, _, _, _, _, h, _ => by simp at h
  | _ :: _, [], _, _, _, h, _, _ => h.elim
  | b :: bs, a :: as, 0, b', a', h, hb, ha => by
    have e1 : b = b' := Option.some.inj hb
    have e2 : a = a' := Option.some.inj ha
    subst e1 e2
    exact ⟨h.1, h.2.1⟩
  | b :: bs, a :: as, i + 1, b', a', h, hb, ha => dok_at (i := i) h.2.2 (by simpa using hb) (by simpa using ha)
theorem pick_len (k : Str) : ∀ (bs : List Blk) (as : List Area), (pickK k bs as).length ≤ as.length
  | [], as => by unfold pickK; exact Nat.zero_le _
  | _ :: _, [] => by unfold pickK; exact Nat.zero_le _
  | b :: bs, a :: as => by
    have := pick_len k bs as
    show ((if a.1 = k then [b] else []) ++ pickK k bs as).length ≤ as.length + 1
    rw [List.length_append]
    split
    · show 1 + _ ≤ _; omega
    · show 0 + _ ≤ _; omega
theorem bk_len (k : Str) (A : Str → Row) (p : Part) : (bk k A p).length ≤ cnt p := by
  cases p with
  | emp => exact Nat.zero_le _
  | dev n as =>
    cases e : A n with
    | dev m bs =>
      rw [bk_dev e]
      have := pick_len k bs as
      show _ ≤ 1 + as.length
      omega
    | br m f g =>
      show (match A n with | .dev _ bs => pickK k bs as | .br _ _ _ => []).length ≤ _
      rw [e]
      exact Nat.zero_le _
  | br n ms ps =>
    cases e : A n with
    | br m f g =>
      rw [bk_br e]
      show _ ≤ 1 + cnts ps
      cases win k f g
      · exact Nat.zero_le _
      · show 1 ≤ _; omega
    | dev m bs =>
      show (match A n with | .br _ f e => (win k f e).toList | .dev _ _ => []).length ≤ _
      rw [e]
      exact Nat.zero_le _
theorem bks_len (k : Str) (A : Str → Row) : ∀ ps : List Part, (bks k A ps).length ≤ cnts ps
  | [] => Nat.le_refl _
  | p :: r => by
    have := bk_len k A p
    have := bks_len k A r
    show (bk k A p ++ bks k A r).length ≤ cnt p + cnts r
    rw [List.length_append]
    omega
theorem bks_take {k : Str} {A : Str → Row} {ps : List Part} {i : Nat} {p : Part} (h : ps[i]? = some p) : bks k A (ps.take (i + 1)) = bks k A (ps.take i) ++ bk k A p := by
  unfold bks
  rw [take1 h, List.flatMap_append]
  show _ ++ (bk k A p ++ []) = _
  rw [List.append_nil]
theorem pick_pos {k : Str} : ∀ {bs : List Blk} {as : List Area}, DOk bs as → ∀ b ∈ pickK k bs as, 0 < b.2
  | [], _, _, b, h => by unfold pickK at h; cases h
  | _ :: _, [], h, _, _ => h.elim
  | b :: bs, a :: as, h, c, hc => by
    rcases List.mem_append.mp (show c ∈ (if a.1 = k then [b] else []) ++ pickK k bs as from hc) with hc | hc
    · split at hc
      · rw [List.mem_singleton.mp hc]
        have := h.1.big
        omega
      · cases hc
    · exact pick_pos h.2.2 c hc
theorem bk_pos {k : Str} {A : Str → Row} (hk : k = kF ∨ k = kN) : ∀ {p : Part}, AsgP A p → ∀ b ∈ bk k A p, 0 < b.2
  | .emp, _, _, hb => by cases hb
  | .dev n as, h, b, hb => by
    obtain ⟨bs, e, hd⟩ := h
    rw [bk_dev e] at hb
    exact pick_pos hd b hb
  | .br n ms ps, h, b, hb => by
    obtain ⟨f, g, e, w1, w2, _⟩ := h
    rw [bk_br e] at hb
    have h1 : ∀ {z : Int} {o : Option Blk}, WOk z o → ∀ b ∈ o.toList, 0 < b.2 := fun {z o} w b hb => by
      cases o with
      | none => cases hb
      | some c =>
        rw [List.mem_singleton.mp hb]
        have := w.2.1.big
        omega
    unfold win at hb
    split at hb
    · exact h1 w1 b hb
    · exact h1 w2 b hb
theorem bks_pos {k : Str} {A : Str → Row} (hk : k = kF ∨ k = kN) {ps : List Part} (h : AsgPs A ps) : ∀ b ∈ bks k A ps, 0 < b.2 := fun b hb => by
  obtain ⟨p, hp, hb⟩ := List.mem_flatMap.mp hb
  exact bk_pos hk (asgPs_iff.mp h p hp) b hb
end Bw

/-! the mathematics: bounds of the drawn trees, turns, grown sizes -/
namespace Bw
open PySem

/-- an area as the law draws it -/
def ArOk (x : Area) : Prop := AreaOk x ∧ x.2 ≤ 2 ^ 40
mutual
def PMx : Part → Prop
  | .emp => True
  | .dev n as => PyData.strOk n = true ∧ ∀ a ∈ as, ArOk a
  | .br n ms ps => PyData.strOk n = true ∧ (∀ m ∈ ms, PyData.strOk m = true) ∧ PsMx ps
def PsMx : List Part → Prop
  | [] => True
  | p :: r => PMx p ∧ PsMx r
end
theorem psMx_iff : ∀ {ps : List Part}, PsMx ps ↔ ∀ p ∈ ps, PMx p
  | [] => ⟨fun _ _ h => (nomatch h), fun _ => trivial⟩
  | p :: r => by
    rw [PsMx, psMx_iff (ps := r)]
    exact ⟨fun h q hq => (List.mem_cons.mp hq).elim (fun e => e ▸ h.1) (h.2 q), fun h => ⟨h p List.mem_cons_self, fun q hq => h q (List.mem_cons_of_mem _ hq)⟩⟩
mutual
theorem PMx.ok : ∀ {p : Part}, PMx p → POk p
  | .emp, _ => trivial
  | .dev _ as, h => fun a ha => (h.2 a ha).1
  | .br _ _ ps, h => PsMx.ok h.2.2
theorem PsMx.ok : ∀ {ps : List Part}, PsMx ps → PsOk ps
  | [], _ => trivial
  | p :: r, h => ⟨PMx.ok h.1, PsMx.ok h.2⟩
end
/-! ### how great sizes get -/
def bd : Nat → Int
  | 0 => 2 ^ 40
  | d + 1 => 3 * bd d
theorem bd_pos : ∀ d, 2 ^ 40 ≤ bd d
  | 0 => Int.le_refl _
  | d + 1 => by
    have := bd_pos d
    show _ ≤ 3 * bd d
    omega
theorem bd_mono : ∀ {d e : Nat}, d ≤ e → bd d ≤ bd e
  | d, 0, h => by rw [Nat.le_zero.mp h]; exact Int.le_refl _
  | d, e + 1, h => by
    by_cases q : d = e + 1
    · rw [q]; exact Int.le_refl _
    · have := bd_mono (show d ≤ e by omega)
      have := bd_pos e
      show _ ≤ 3 * bd e
      omega
theorem pwF_up : ∀ (f : Nat) (w n : Int), 0 ≤ n → pwF f w n ≤ max w (2 * n)
  | 0, w, n, _ => by unfold pwF; omega
  | f + 1, w, n, h => by
    unfold pwF
    split
    · have := pwF_up f (2 * w) n h
      omega
    · omega
theorem pw_up {n : Int} (h : 0 ≤ n) : pw n ≤ 4096 + 2 * n := by
  have := pwF_up n.toNat 4096 n h
  unfold pw
  omega
theorem sum_nn : ∀ {xs : List Int}, (∀ x ∈ xs, 0 ≤ x) → 0 ≤ xs.sum
  | [], _ => Int.le_refl _
  | x :: r, h => by
    rw [List.sum_cons]
    have := sum_nn fun z hz => h z (List.mem_cons_of_mem _ hz)
    have := h x List.mem_cons_self
    omega
theorem mem_le_sum : ∀ {xs : List Int}, (∀ x ∈ xs, 0 ≤ x) → ∀ x ∈ xs, x ≤ xs.sum
  | y :: r, h, x, hx => by
    rw [List.sum_cons]
    have h1 := sum_nn fun z hz => h z (List.mem_cons_of_mem _ hz)
    have h2 := h y List.mem_cons_self
    rcases List.mem_cons.mp hx with rfl | hx
    · omega
    · have := mem_le_sum (fun z hz => h z (List.mem_cons_of_mem _ hz)) x hx
      omega
theorem lw_up {zs : List Int} (h : ∀ x ∈ zs, 0 ≤ x) : lw zs ≤ 4096 + 2 * zs.sum := by
  have h0 := sum_nn h
  by_cases e : zs = []
  · rw [e, lw_nil]; show (0 : Int) ≤ 4096 + 2 * 0; decide
  · rw [lw_pos e]; exact pw_up h0
theorem szA_sum (k : Str) : ∀ {as : List Area}, (∀ a ∈ as, ArOk a) → (szA k as).sum ≤ as.length * 2 ^ 40
  | [], _ => by show (0 : Int) ≤ _; omega
  | a :: r, h => by
    rw [szA_cons, List.sum_append]
    have ih := szA_sum k fun z hz => h z (List.mem_cons_of_mem _ hz)
    have := (h a List.mem_cons_self).2
    have h2 := (h a List.mem_cons_self).1.2.2
    have : (if a.1 = k then [a.2] else []).sum ≤ 2 ^ 40 := by
      split
      · show a.2 + 0 ≤ _; omega
      · show (0 : Int) ≤ _; decide
    rw [List.length_cons]
    omega
mutual
theorem sz_sum (k : Str) : ∀ (p : Part), PMx p → (sz k p).sum ≤ cnt p * bd (dep p)
  | .emp, _ => by
    show (0 : Int) ≤ 1 * bd 0
    have := bd_pos 0
    omega
  | .dev _ as, h => by
    have := szA_sum k h.2
    show (szA k as).sum ≤ ((1 + as.length : Nat) : Int) * bd 0
    show _ ≤ ((1 + as.length : Nat) : Int) * 2 ^ 40
    omega
  | .br _ _ ps, h => by
    have ih := szs_sum k ps h.2.2
    have hn := szs_nn (k := k) (PsMx.ok h.2.2)
    have hu := lw_up hn
    have h0 := sum_nn hn
    have hb := bd_pos (deps ps)
    show (sz k (.br _ _ ps)).sum ≤ ((1 + cnts ps : Nat) : Int) * (3 * bd (deps ps))
    have e : ((1 + cnts ps : Nat) : Int) * (3 * bd (deps ps)) = 3 * bd (deps ps) + 3 * ((cnts ps : Int) * bd (deps ps)) := by
      rw [Int.natCast_add, Int.add_mul]
      rw [show (cnts ps : Int) * (3 * bd (deps ps)) = 3 * ((cnts ps : Int) * bd (deps ps)) by rw [← Int.mul_assoc, Int.mul_comm (cnts ps : Int) 3, Int.mul_assoc]]
      show 1 * _ + _ = _
      omega
    rw [e]
    have hc : 0 ≤ (cnts ps : Int) * bd (deps ps) := Int.mul_nonneg (by omega) (by omega)
    unfold sz
    split
    · show lw _ + 0 ≤ _
      omega
    · show (0 : Int) ≤ _
      omega
theorem szs_sum (k : Str) : ∀ (ps : List Part), PsMx ps → (szs k ps).sum ≤ cnts ps * bd (deps ps)
  | [], _ => by show (0 : Int) ≤ 0 * _; omega
  | p :: r, h => by
    have h1 := sz_sum k p h.1
    have h2 := szs_sum k r h.2
    have b1 := bd_mono (show dep p ≤ max (dep p) (deps r) by omega)
    have b2 := bd_mono (show deps r ≤ max (dep p) (deps r) by omega)
    rw [szs, List.sum_append]
    show _ ≤ ((cnt p + cnts r : Nat) : Int) * bd (max (dep p) (deps r))
    rw [Int.natCast_add, Int.add_mul]
    have m1 := Int.mul_le_mul_of_nonneg_left b1 (show (0 : Int) ≤ cnt p by omega)
    have m2 := Int.mul_le_mul_of_nonneg_left b2 (show (0 : Int) ≤ cnts r by omega)
    omega
end
/-- a tree as the law draws it -/
structure TrOk (ps : List Part) : Prop where
  mx : PsMx ps
  cn : cnts ps ≤ 63
  dp : deps ps ≤ 6
  nd : (nmss ps).Nodup
theorem TrOk.ok {ps : List Part} (h : TrOk ps) : PsOk ps := h.mx.ok
theorem sz_bound {k : Str} {ps : List Part} (hm : PsMx ps) (hc : cnts ps ≤ 63) (hd : deps ps ≤ 6) : (szs k ps).sum ≤ 2 ^ 56 := by
  have h1 := szs_sum k ps hm
  have h2 := bd_mono hd
  have h3 : bd 6 = 729 * 2 ^ 40 := by decide
  have m1 := Int.mul_le_mul_of_nonneg_left h2 (show (0 : Int) ≤ cnts ps by omega)
  rw [h3] at m1
  have h4 : (cnts ps : Int) * (729 * 2 ^ 40) ≤ 63 * (729 * 2 ^ 40) := Int.mul_le_mul_of_nonneg_right (by omega) (by decide)
  have h5 : (63 : Int) * (729 * 2 ^ 40) ≤ 2 ^ 56 := by decide
  omega
theorem TrOk.sum {ps : List Part} (h : TrOk ps) (k : Str) : (szs k ps).sum ≤ 2 ^ 56 := sz_bound h.mx h.cn h.dp
theorem TrOk.lw {ps : List Part} (h : TrOk ps) (k : Str) : lw (szs k ps) ≤ 2 ^ 58 := by
  have h1 := h.sum k
  have h2 := lw_up (szs_nn (k := k) h.ok)
  have : (4096 : Int) + 2 * 2 ^ 56 ≤ 2 ^ 58 := by decide
  omega
theorem cnts_kids' (p : Part) : cnts p.kids ≤ cnt p := by
  cases p with
  | emp => exact Nat.zero_le _
  | dev n as => exact Nat.zero_le _
  | br n ms ps => show cnts ps ≤ 1 + cnts ps; omega
theorem nmss_mem : ∀ {ps : List Part} {p : Part}, p ∈ ps → (nms p).Sublist (nmss ps)
  | q :: r, p, h => by
    rw [nmss]
    rcases List.mem_cons.mp h with rfl | h
    · exact List.sublist_append_left _ _
    · exact (nmss_mem h).trans (List.sublist_append_right _ _)
theorem TrOk.kids {ps ps2 : List Part} {n : Str} {ms : List Str} (h : TrOk ps) (hp : Part.br n ms ps2 ∈ ps) : TrOk ps2 where
  mx := (psMx_iff.mp h.mx _ hp).2.2
  cn := by
    have : 1 + cnts ps2 ≤ cnts ps := cnt_mem hp
    have := h.cn
    omega
  dp := by
    have : deps ps2 + 1 ≤ deps ps := dep_mem hp
    have := h.dp
    omega
  nd := by
    have := h.nd.sublist (nmss_mem hp)
    exact (List.nodup_cons.mp this).2
/-! ### turns -/
structure Turns (zs : List Int) (js : List Nat) : Prop where
  pm : js.Perm (List.range zs.length)
  de : js.Pairwise fun i j => zs.getD j 0 ≤ zs.getD i 0
theorem zs_range (zs : List Int) : (List.range zs.length).map (fun j => zs.getD j 0) = zs := by
  refine List.ext_getElem? fun i => ?_
  by_cases h : i < zs.length
  · rw [List.getElem?_map, List.getElem?_range h, List.getElem?_eq_getElem h]
    show some (zs.getD i 0) = _
    rw [List.getD_eq_getElem?_getD, List.getElem?_eq_getElem h]
    rfl
  · rw [List.getElem?_eq_none (by rw [List.length_map, List.length_range]; omega), List.getElem?_eq_none (by omega)]
theorem Turns.perm {zs : List Int} {js : List Nat} (h : Turns zs js) : zs.Perm (js.map fun j => zs.getD j 0) := by
  have := (h.pm.map fun j => zs.getD j 0).symm
  rwa [zs_range] at this
theorem Turns.nodup {zs : List Int} {js : List Nat} (h : Turns zs js) : js.Nodup := h.pm.nodup_iff.mpr List.nodup_range
theorem Turns.lt {zs : List Int} {js : List Nat} (h : Turns zs js) {j : Nat} (hj : j ∈ js) : j < zs.length := List.mem_range.mp (h.pm.mem_iff.mp hj)
theorem Placed.perm {xs ys r : List Blk} (h : xs.Perm ys) (p : Placed xs r) : Placed ys r := ⟨h.pairwise p.ap fun h => h.symm, fun b hb => p.wi b (h.mem_iff.mpr hb)⟩
/-- sizes as they are grown: those of areas as they are, those of windows not less -/
inductive GrZ (k : Str) : List Part → List Int → Prop where
  | nil : GrZ k [] []
  | emp {ps zs} : GrZ k ps zs → GrZ k (.emp :: ps) zs
  | dev {n as ps zs} : GrZ k ps zs → GrZ k (.dev n as :: ps) (szA k as ++ zs)
  | br0 {n ms qs ps zs} : lw (szs k qs) = 0 → GrZ k ps zs → GrZ k (.br n ms qs :: ps) zs
  | br1 {n ms qs ps zs z} : 0 < lw (szs k qs) → lw (szs k qs) ≤ z → GrZ k ps zs → GrZ k (.br n ms qs :: ps) (z :: zs)
theorem GrZ.shr {k : Str} {ps : List Part} {zs : List Int} (h : GrZ k ps zs) : Shr zs (szs k ps) := by
  induction h with
  | nil => exact .nil
  | emp _ ih => exact ih
  | dev _ ih => exact (Shr.refl _).append ih
  | @br0 n ms qs ps zs h0 _ ih =>
    show Shr zs ((if lw (szs k qs) > 0 then [lw (szs k qs)] else []) ++ szs k ps)
    rw [if_neg (by omega)]
    exact ih
  | @br1 n ms qs ps zs z h0 h1 _ ih =>
    show Shr (z :: zs) ((if lw (szs k qs) > 0 then [lw (szs k qs)] else []) ++ szs k ps)
    rw [if_pos h0]
    exact .keep h1 ih
theorem GrZ.refl (k : Str) : ∀ ps : List Part, GrZ k ps (szs k ps)
  | [] => .nil
  | .emp :: r => .emp (GrZ.refl k r)
  | .dev n as :: r => .dev (GrZ.refl k r)
  | .br n ms qs :: r => by
    show GrZ k _ ((if lw (szs k qs) > 0 then [lw (szs k qs)] else []) ++ szs k r)
    have := lw_nonneg (szs k qs)
    by_cases h : lw (szs k qs) > 0
    · rw [if_pos h]; exact .br1 h (Int.le_refl _) (GrZ.refl k r)
    · rw [if_neg h]; exact .br0 (by omega) (GrZ.refl k r)
theorem GrZ.append {k : Str} {ps qs : List Part} {xs ys : List Int} (h : GrZ k ps xs) (g : GrZ k qs ys) : GrZ k (ps ++ qs) (xs ++ ys) := by
  induction h with
  | nil => exact g
  | emp _ ih => exact .emp ih
  | dev _ ih => rw [List.append_assoc]; exact .dev ih
  | br0 h0 _ ih => exact .br0 h0 ih
  | br1 h0 h1 _ ih => exact .br1 h0 h1 ih
end Bw

/-! promises of the law's own defs: draws and trees -/
namespace Bw
open PySem PySem.Spec PyProof.Rows L2
section
variable {K : PySem.W.Frag} {σ : L2.St} {H : Hp} {Q : VK} {a p : Addr} {xs : List V} {v x y : V} {i : Int} {j : Nat} {trs : List (TE × TE)}
theorem s_setL {F : Hp → Prop} (h : H a = some (.lst xs)) (e : ixN xs.length i = some j) (q : ∀ H', Ext [a] H H' → H' a = some (.lst (xs.set j v)) → F H') : rSetL (.ref a) (.int i) v H F := ⟨a, xs, i, j, rfl, rfl, h, e, q _ (Ext.mutL h) upd_same⟩
def DispE (p : Addr) (ps : List (V × V)) (H2 : Hp) (Q : VK) : Prop := H2 p = some (.dK []) ∧ ∃ kvs : List (Key × V), ps = kvs.map (fun kv => (kV kv.1, kv.2)) ∧ kvs.length ≤ 15 ∧ Q (.ref p) (upd H2 p (.dK (mergeK [] kvs)))
theorem s_disp (q : ∀ p H1, H p = none → Ext [] H H1 → H1 p = some (.dK []) → tPairs trs σ H1 fun ps H2 => DispE p ps H2 Q) : tDisp trs σ H Q := fun p hp => q p _ hp (Ext.new hp) upd_same
theorem s_dispE {ps : List (V × V)} {kvs : List (Key × V)} (h : H p = some (.dK [])) (hk : ps = kvs.map (fun kv => (kV kv.1, kv.2))) (hl : kvs.length ≤ 15) (q : ∀ H', Ext [p] H H' → H' p = some (.dK (mergeK [] kvs)) → Q (.ref p) H') : DispE p ps H Q :=
  ⟨h, kvs, hk, hl, q _ (Ext.mutD h) upd_same⟩
theorem s_ixAny (h : H a = some (.lst xs)) (e : atI xs i = some v) (q : Q v H) : rIx K (.ref a) (.int i) H Q := .inl (s_ixL h e q)
end
/-! ### the source of draws -/
structure Src (H : Hp) (a l c : Addr) (n : Nat) : Prop where
  ex : ∃ t ns ms, H a = some (.dK [(.inr "large", .ref l), (.inr "cells", .ref c), (.inr "turn", .int t)]) ∧ H l = some (.lst ((ns : List Int).map V.int)) ∧ H c = some (.lst ((ms : List Int).map V.int)) ∧ ms ≠ [] ∧ 0 ≤ t ∧ t + n ≤ 2 ^ 60 ∧ ms.length ≤ 1000
  lc : l ≠ c
theorem Src.al {H : Hp} {a l c : Addr} {n : Nat} (s : Src H a l c n) : a ≠ l := fun z => by
  obtain ⟨_, _, _, h1, h2, _⟩ := s.ex
  rw [z, h2] at h1
  cases h1
theorem Src.ac {H : Hp} {a l c : Addr} {n : Nat} (s : Src H a l c n) : a ≠ c := fun z => by
  obtain ⟨_, _, _, h1, _, h2, _⟩ := s.ex
  rw [z, h2] at h1
  cases h1
theorem Src.le {H : Hp} {a l c : Addr} {n m : Nat} (s : Src H a l c n) (h : m ≤ n) : Src H a l c m := by
  obtain ⟨⟨t, ns, ms, h1, h2, h3, h4, h5, h6, h7⟩, lc⟩ := s
  exact ⟨⟨t, ns, ms, h1, h2, h3, h4, h5, by omega, h7⟩, lc⟩
theorem Src.ext {H H' : Hp} {a l c : Addr} {n : Nat} {M : List Addr} (s : Src H a l c n) (e : Ext M H H') (ha : a ∉ M) (hl : l ∉ M) (hc : c ∉ M) : Src H' a l c n := by
  obtain ⟨⟨t, ns, ms, h1, h2, h3, h⟩, lc⟩ := s
  exact ⟨⟨t, ns, ms, e.at h1 ha, e.at h2 hl, e.at h3 hc, h⟩, lc⟩
theorem Src.e0 {H H' : Hp} {a l c : Addr} {n : Nat} (s : Src H a l c n) (e : Ext [] H H') : Src H' a l c n := s.ext e (fun h => nomatch h) (fun h => nomatch h) (fun h => nomatch h)
theorem Src.ne {H : Hp} {a l c p : Addr} {n : Nat} (s : Src H a l c n) (h : H p = none) : p ≠ a ∧ p ≠ l ∧ p ≠ c := by
  obtain ⟨t, ns, ms, h1, h2, h3, _⟩ := s.ex
  exact ⟨(ne_some h1 h).symm, (ne_some h2 h).symm, (ne_some h3 h).symm⟩
theorem Src.e1 {H H' : Hp} {a l c p : Addr} {n : Nat} (s : Src H a l c n) (e : Ext [p] H H') (h : p ≠ a ∧ p ≠ l ∧ p ≠ c) : Src H' a l c n :=
  s.ext e (fun z => h.1 (List.mem_singleton.mp z).symm) (fun z => h.2.1 (List.mem_singleton.mp z).symm) (fun z => h.2.2 (List.mem_singleton.mp z).symm)
def spSource (K : PySem.W.Frag) : Sp := fun vs H Q _ => ∃ p ns, vs = [.ref p] ∧ SqL K H p ((ns : List Int).map V.int) ∧ ns.length ≤ 100 ∧ ∀ a l c H', Src H' a l c (2 ^ 59) → Q (.ref a) H'
def spBelow : Sp := fun vs H Q _ => ∃ a l c n m, vs = [.ref a, .int m] ∧ 0 < m ∧ m ≤ 2 ^ 60 ∧ Src H a l c (n + 1) ∧ ∀ r H', 0 ≤ r → r < m → Ext [a, l] H H' → Src H' a l c n → Q (.int r) H'
def spPick : Sp := fun vs H Q _ => ∃ a l c n p xs, vs = [.ref a, .ref p] ∧ H p = some (.lst xs) ∧ p ≠ a ∧ p ≠ l ∧ xs ≠ [] ∧ xs.length ≤ 1000 ∧ Src H a l c (n + 1) ∧ ∀ x H', x ∈ xs → Ext [a, l] H H' → Src H' a l c n → Q x H'
def ExpsOk (es : List Int) : Prop := (es ≠ [] ∧ es.length ≤ 1000) ∧ ∀ e ∈ es, 5 ≤ e ∧ e ≤ 40
def spArea : Sp := fun vs H Q _ => ∃ a l c n p es, vs = [.ref a, .ref p] ∧ H p = some (.lst ((es : List Int).map V.int)) ∧ p ≠ a ∧ p ≠ l ∧ ExpsOk es ∧ Src H a l c (n + 2) ∧ ∀ v x H', ArOk x → Dt H' v (encA x) → Ext [a, l] H H' → Src H' a l c n → Q v H'
end Bw

/-! promises of the law's own defs: trees, rooms, placing, what is left -/
namespace Bw
open PySem PySem.Spec PyProof.Rows L2
/-! letters -/
def lets : Str := "abcdefghijklmnopqrstuvwxyz"
def ltr (i : Nat) : Str := ⟨#[lets.cps.toList.getD i 0]⟩
theorem ltr_ok : ∀ i, i < 26 → PyData.strOk (ltr i) = true := by decide +kernel
theorem ltr_inj' : ∀ i, i < 26 → ∀ j, j < 26 → ltr i = ltr j → i = j := by decide +kernel
theorem ltr_inj {i j : Nat} (hi : i < 26) (hj : j < 26) (h : ltr i = ltr j) : i = j := ltr_inj' i hi j hj h
section
variable {H : Hp} {Q : VK}
theorem s_ixLet {i : Nat} (hi : i < 26) (q : Q (.str (ltr i)) H) : rIxS (.str lets) (.int i) H Q :=
  ⟨lets, (i : Nat), lets.cps.toList.getD i 0, rfl, rfl, by decide +kernel, by
    have h : i < lets.cps.toList.length := by rw [show lets.cps.toList.length = 26 from by decide +kernel]; exact hi
    refine atI_nat ?_
    rw [List.getElem?_eq_getElem h, List.getD_eq_getElem?_getD, List.getElem?_eq_getElem h]
    rfl, q⟩
end
/-! trees -/
def Nums (H : Hp) (q : Addr) (d b D B : Nat) : Prop := H q = some (.lst [.int d, .int b, .int D, .int B])
def spPart (f : Nat) : Sp := fun vs H Q _ => ∃ a l c n q, ∃ d b D B : Nat, ∃ above : Int, ∃ p es, vs = [.ref a, .ref q, .int above, .ref p] ∧ Src H a l c (n + 40 * 4 ^ f) ∧ Nums H q d b D B ∧ (q ≠ a ∧ q ≠ l ∧ q ≠ c) ∧ H p = some (.lst ((es : List Int).map V.int)) ∧ p ≠ a ∧ p ≠ l ∧ p ≠ q ∧ ExpsOk es ∧ d ≤ D ∧ b ≤ B ∧ D ≤ 8 ∧ B ≤ 4 ∧ B - b < f ∧
  ∀ v (pt : Part) d' b' H', d ≤ d' → d' ≤ D → b ≤ b' → b' ≤ B → Dt H' v pt.enc → Nums H' q d' b' D B → PMx pt → nms pt = (List.range' (d + b) (d' + b' - (d + b))).map ltr → cnt pt ≤ 1 + 3 * (d' - d) + 3 * (b' - b) → dep pt ≤ b' - b → Ext [a, l, q] H H' → Src H' a l c n → Q v H'
def spTree : Sp := fun vs H Q _ => ∃ a l c n p es, vs = [.ref a, .int 8, .int 4, .ref p] ∧ H p = some (.lst ((es : List Int).map V.int)) ∧ p ≠ a ∧ p ≠ l ∧ ExpsOk es ∧ Src H a l c (n + 2 ^ 20) ∧ ∀ v ms ps H', TrOk ps → (∀ m ∈ ms, PyData.strOk m = true) → Dt H' v (encT ms ps) → Ext [a, l] H H' → Src H' a l c n → Q v H'
def spDeep : Sp := fun vs H Q _ => ∃ a l c n p es, vs = [.ref a, .ref p] ∧ H p = some (.lst ((es : List Int).map V.int)) ∧ p ≠ a ∧ p ≠ l ∧ ExpsOk es ∧ Src H a l c (n + 2 ^ 20) ∧ ∀ v ms ps H', TrOk ps → (∀ m ∈ ms, PyData.strOk m = true) → Dt H' v (encT ms ps) → Ext [a, l] H H' → Src H' a l c n → Q v H'
def spLPlaced (f : Nat) : Sp := fun vs H Q _ => ∃ v u ps ab, vs = [v, u] ∧ Dt H v (.tuple (encs ps)) ∧ Dt H u (.tuple ab) ∧ ab.length + f ≤ 100 ∧ cnts ps ≤ 1000 ∧ deps ps + 1 ≤ f ∧
  ∀ p xs L H', Ext [] H H' → H p = none → H' p = some (.lst xs) → DtAll H' xs L → IsPl L (plss ps) → Q (.ref p) H'
/-! rooms -/
def encR (r : List Blk) : PyData := .tuple (r.map encB)
def encRR (rf re : List Blk) : PyData := .tuple [.tuple (rf.map encB), .tuple (re.map encB)]
def spUnits : Sp := fun vs H Q _ => ∃ a l c n, vs = [.ref a, .int 32] ∧ Src H a l c (n + 200) ∧ ∀ p (bs : List Bool) H', H p = none → bs.length = 32 → H' p = some (.lst (bs.map V.bl)) → Ext [a, l] H H' → Src H' a l c n → Q (.ref p) H'
def spRoom : Sp := fun vs H Q _ => ∃ p, ∃ bs : List Bool, ∃ u f0 : Int, vs = [.ref p, .int u, .int f0] ∧ H p = some (.lst (bs.map V.bl)) ∧ bs.length = 32 ∧ P2 u ∧ 16 ≤ u ∧ u ≤ 2 ^ 20 ∧ 32 * u ∣ f0 ∧ 0 ≤ f0 ∧ f0 + 32 * u ≤ 281474976710656 ∧ ∀ v rm H', RoomOk rm → rm.length ≤ 32 → Dt H' v (.tuple (rm.map encB)) → Ext [] H H' → Q v H'
def spRooms : Sp := fun vs H Q _ => ∃ a l c n, vs = [.ref a] ∧ Src H a l c (n + 1000) ∧ ∀ v rf re H', RoomOk rf → RoomOk re → rf.length ≤ 32 → re.length ≤ 32 → Dt H' v (encRR rf re) → Ext [a, l] H H' → Src H' a l c n → Q v H'
def isHalves (b c : Blk) : Bool := decide (b.2 = c.2) && (decide (b.1 + b.2 = c.1) && decide (b.1 % (2 * b.2) = 0))
def spHalves : Sp := fun vs H Q _ => ∃ v u, ∃ b c : Blk, vs = [v, u] ∧ Dt H v (encB b) ∧ Dt H u (encB c) ∧ 0 < b.2 ∧ Q (.bl (isHalves b c)) H
def spBoth : Sp := fun vs H Q _ => ∃ v u, ∃ rm : List Blk, ∃ b : Blk, vs = [v, u] ∧ Dt H v (.tuple (rm.map encB)) ∧ Dt H u (encB b) ∧ RoomOk rm ∧ IsBlk b ∧ (∀ x ∈ rm, x.1 + x.2 ≤ b.1) ∧ rm.length ≤ 100 ∧
  ∀ v' rm' H', RoomOk rm' → (∀ x ∈ rm', x.1 + x.2 ≤ b.1 + b.2) → rm'.length ≤ rm.length + 1 → Dt H' v' (.tuple (rm'.map encB)) → Ext [] H H' → Q v' H'
def spFitting : Sp := fun vs H Q _ => ∃ a l c n p zs v rm f0, vs = [.ref a, .ref p, v, .int f0] ∧ H p = some (.lst ((zs : List Int).map V.int)) ∧ zs.length ≤ 63 ∧ (∀ z ∈ zs, P2 z ∧ 16 ≤ z ∧ z ≤ 2 ^ 58) ∧ Dt H v (.tuple (rm.map encB)) ∧ RoomOk rm ∧ rm.length ≤ 100 ∧ 0 ≤ f0 ∧ f0 ≤ 2 ^ 40 ∧ Src H a l c (n + 100) ∧
  ∀ v' rm' H', RoomOk rm' → rm'.length ≤ 100 → Dt H' v' (.tuple (rm'.map encB)) → Ext [a, l] H H' → Src H' a l c n → Q v' H'
/-! placing -/
def spFree : Sp := fun vs H Q _ => ∃ p xs, ∃ sp : List Blk, ∃ s, vs = [.ref p, .int s] ∧ H p = some (.lst xs) ∧ DtAll H xs (sp.map encB) ∧ 0 < s ∧ s ≤ 2 ^ 60 ∧ sp.length ≤ 1000 ∧
  ∀ q ns H', H q = none → Ext [] H H' → H' q = some (.lst ((ns : List Int).map V.int)) → ns.length ≤ 100 → (∀ x ∈ ns, ∃ p ∈ sp, FitAt s p x) → (ns = [] → ∀ p ∈ sp, ∀ x, ¬ FitAt s p x) → Q (.ref q) H'
def spCut : Sp := fun vs H Q _ => ∃ p xs, ∃ sp : List Blk, ∃ st s, vs = [.ref p, .int st, .int s] ∧ H p = some (.lst xs) ∧ DtAll H xs (sp.map encB) ∧ sp.length ≤ 1000 ∧ ∀ q ys H', H q = none → Ext [] H H' → H' q = some (.lst ys) → DtAll H' ys ((cutS st s sp).map encB) → Q (.ref q) H'
def spTurns : Sp := fun vs H Q _ => ∃ p zs, vs = [.ref p] ∧ H p = some (.lst ((zs : List Int).map V.int)) ∧ zs.length ≤ 1000 ∧ ∀ q (js : List Nat) H', H q = none → Ext [] H H' → H' q = some (.lst (js.map fun j => V.int (j : Nat))) → Turns zs js → Q (.ref q) H'
def spPut : Sp := fun vs H Q _ => ∃ a l c n v rm p zs, vs = [.ref a, v, .ref p] ∧ Dt H v (.tuple (rm.map encB)) ∧ RoomOk rm ∧ rm.length ≤ 100 ∧ H p = some (.lst ((zs : List Int).map V.int)) ∧ p ≠ a ∧ p ≠ l ∧ zs.length ≤ 63 ∧ (∀ z ∈ zs, P2 z ∧ 16 ≤ z ∧ z ≤ 2 ^ 60) ∧ Src H a l c (n + 100) ∧
  (¬ Fits rm zs → ∀ H', Ext [a, l] H H' → Src H' a l c n → Q .non H') ∧
  (∀ q xs bs H', H q = none → Ext [a, l] H H' → H' q = some (.lst xs) → DtAll H' xs (bs.map encB) → bs.map (·.2) = zs → Placed bs rm → (∀ b ∈ bs, IsBlk b) → Src H' a l c n → Fits rm zs → Q (.ref q) H')
def spGrown : Sp := fun vs H Q _ => ∃ a l c n v ps kk u rm, vs = [.ref a, v, .str kk, u] ∧ Dt H v (.tuple (encs ps)) ∧ TrOk ps ∧ (kk = kF ∨ kk = kN) ∧ Dt H u (.tuple (rm.map encB)) ∧ RoomOk rm ∧ rm.length ≤ 100 ∧ Src H a l c (n + 300) ∧
  (¬ Fits rm (szs kk ps) → ∀ H', Ext [a, l] H H' → Src H' a l c n → Q .non H') ∧
  (∀ q xs bs zs H', H q = none → Ext [a, l] H H' → H' q = some (.lst xs) → DtAll H' xs (bs.map encB) → bs.map (·.2) = zs → GrZ kk ps zs → Placed bs rm → (∀ b ∈ bs, IsBlk b) → Src H' a l c n → Fits rm (szs kk ps) → Q (.ref q) H')
def RoomsAt (H : Hp) (a l : Addr) (u : V) (rf re : List Blk) : Prop := ∃ r x y, u = .ref r ∧ ((H r = some (.lst [x, y]) ∧ r ≠ a ∧ r ≠ l) ∨ H r = some (.tup [x, y])) ∧ Dt H x (.tuple (rf.map encB)) ∧ Dt H y (.tuple (re.map encB))
def spDrawn (f : Nat) : Sp := fun vs H Q _ => ∃ a l c n v ps u rf re, vs = [.ref a, v, u] ∧ Dt H v (.tuple (encs ps)) ∧ TrOk ps ∧ deps ps < f ∧ RoomsAt H a l u rf re ∧ RoomOk rf ∧ RoomOk re ∧ rf.length ≤ 100 ∧ re.length ≤ 100 ∧ Src H a l c (n + 1000 * (cnts ps + 1)) ∧
  (¬ (Fits rf (szs kF ps) ∧ Fits re (szs kN ps)) → ∀ H', Ext [a, l] H H' → Src H' a l c n → Q .non H') ∧
  (∀ q xs rs H', H q = none → Ext [a, l] H H' → H' q = some (.lst xs) → DtAll H' xs ((rs : List Row).map Row.enc) → rs.map Row.nm = nmss ps → (∀ A : Str → Row, (∀ r ∈ rs, A r.nm = r) → Asg ps rf re A) → Src H' a l c n → Fits rf (szs kF ps) ∧ Fits re (szs kN ps) → Q (.ref q) H')
/-! lesser trees -/
mutual
def woP (n : Str) : Part → Part
  | .emp => .emp
  | .dev m as => if m = n then .emp else .dev m as
  | .br m ms ps => .br m ms (woPs n ps)
def woPs (n : Str) : List Part → List Part
  | [] => []
  | p :: r => woP n p :: woPs n r
end
def haA (k : Str) (s : Int) (a : Area) : Area := if a = (k, s) then (a.1, s / 2) else a
mutual
def haP (k : Str) (s : Int) : Part → Part
  | .emp => .emp
  | .dev m as => .dev m (as.map (haA k s))
  | .br m ms ps => .br m ms (haPs k s ps)
def haPs (k : Str) (s : Int) : List Part → List Part
  | [] => []
  | p :: r => haP k s p :: haPs k s r
end
theorem woPs_map (n : Str) : ∀ ps : List Part, woPs n ps = ps.map (woP n)
  | [] => rfl
  | p :: r => by rw [woPs, woPs_map n r]; rfl
theorem haPs_map (k : Str) (s : Int) : ∀ ps : List Part, haPs k s ps = ps.map (haP k s)
  | [] => rfl
  | p :: r => by rw [haPs, haPs_map k s r]; rfl
def spWithout (f : Nat) : Sp := fun vs H Q _ => ∃ v ps nm, vs = [v, .str nm] ∧ Dt H v (.tuple (encs ps)) ∧ deps ps < f ∧ cnts ps ≤ 1000 ∧ ∀ v' H', Ext [] H H' → Dt H' v' (.tuple (encs (woPs nm ps))) → Q v' H'
def spHalved (f : Nat) : Sp := fun vs H Q _ => ∃ v ps kk s, vs = [v, .str kk, .int s] ∧ Dt H v (.tuple (encs ps)) ∧ deps ps < f ∧ cnts ps ≤ 1000 ∧ (kk = kF ∨ kk = kN) ∧ PsOk ps ∧ ∀ v' H', Ext [] H H' → Dt H' v' (.tuple (encs (haPs kk s ps))) → Q v' H'
def RowFor (q : Part) (r : Row) : Prop := match q with
  | .emp => False
  | .dev n as => ∃ bs, r = .dev n bs ∧ bs.length = as.length
  | .br n _ _ => ∃ f e, r = .br n f e
structure RowsOk (rs : List Row) (A : Str → Row) (qs : List Part) : Prop where
  ag : ∀ r ∈ rs, A r.nm = r
  mem : ∀ q ∈ plss qs, A q.nm ∈ rs
  for_ : ∀ q ∈ plss qs, RowFor q (A q.nm)
  len : rs.length ≤ 100
def spLeft : Sp := fun vs H Q _ => ∃ v u ms qs rs A, vs = [v, u] ∧ Dt H v (encT ms qs) ∧ cnts qs ≤ 63 ∧ deps qs ≤ 6 ∧ Dt H u (.tuple ((rs : List Row).map Row.enc)) ∧ RowsOk rs A qs ∧
  ∀ v' H', Ext [] H H' → Dt H' v' (.tuple ((plss qs).map fun q => (leftRow q (A q.nm)).enc)) → Q v' H'
def spNoMore : Sp := fun vs H Q _ => ∃ v u x y ms ps qs rf re rs A, vs = [v, u, x, y] ∧ Dt H v (encT ms ps) ∧ Dt H u (encRR rf re) ∧ Dt H x (encT ms qs) ∧ Dt H y (.tuple ((rs : List Row).map Row.enc)) ∧ TrOk ps ∧ cnts qs ≤ 63 ∧ deps qs ≤ 6 ∧ PsOk qs ∧ (nmss qs).Nodup ∧ LsAll ps qs ∧ RowsOk rs A qs ∧ Asg ps rf re A ∧
  RoomOk rf ∧ RoomOk re ∧ rf.length ≤ 100 ∧ re.length ≤ 100 ∧ Fits rf (szs kF ps) ∧ Fits re (szs kN ps) ∧ ∀ H', Ext [] H H' → Q (.bl true) H'
def spWindowsRight : Sp := fun vs H Q _ => ∃ v u ms ps rs A, vs = [v, u] ∧ Dt H v (encT ms ps) ∧ cnts ps ≤ 63 ∧ deps ps ≤ 6 ∧ Dt H u (.tuple ((rs : List Row).map Row.enc)) ∧ RowsOk rs A ps ∧ AsgPs A ps ∧ ∀ H', Ext [] H H' → Q (.bl true) H'
def spLaw (K : PySem.W.Frag) : Sp := fun vs H Q _ => ∃ p ns, vs = [.ref p] ∧ SqL K H p ((ns : List Int).map V.int) ∧ ns.length ≤ 63 ∧ ∀ H', Q (.bl true) H'
end Bw

/-! the program's small defs -/
namespace Bw
open PySem PySem.Spec PyProof.Rows L2
open C8 (Cal pe_c pe_gc)
open StX (pa_star tStar)
open RZ (pi_zipA iZipA)
-- the tactics of this text, by key
local macro_rules | `(tactic| walk_at "nm") => `(tactic| first | (intro hmem; cases hmem; done) | (simp only [List.mem_cons, List.mem_singleton, List.not_mem_nil, or_false, not_or, not_false_eq_true]; done) | (simp only [List.mem_cons, List.mem_singleton, List.not_mem_nil, or_false, not_or]; (repeat' apply And.intro) <;> first | assumption | exact Ne.symm (by assumption) | exact ne_some (by assumption) (by assumption) | exact Ne.symm (ne_some (by assumption) (by assumption))))
local macro_rules | `(tactic| walk_at "hx") => `(tactic| first | assumption | exact Dt.non | exact Dt.int _ | exact Dt.str _ | exact Dt.bl _ | (refine Dt.ext (by assumption) ?_; walk_at "hx") | (refine DtAll.ext (by assumption) ?_; walk_at "hx") | (refine Ext.at0 (by assumption) ?_; walk_at "hx") | (refine Ext.tupC (by assumption) ?_; walk_at "hx") | (refine Ext.atC (by assumption) ?_ (by walk_at "nm"); walk_at "hx"))
local macro_rules | `(tactic| walk_at "dm") => `(tactic| first | exact fun _ h => h | (refine dom_step (by assumption) ?_; walk_at "dm"))
local macro_rules | `(tactic| walk_at "fr") => `(tactic| first | assumption | (refine fr_of (by assumption) ?_; walk_at "dm"))
local macro_rules | `(tactic| walk_at "ex") => `(tactic| first | assumption | exact Ext.refl | exact Ext.mono0 (by assumption) | (refine Ext.then0 ?_ (by assumption); walk_at "ex") | (refine Ext.transC ?_ (by assumption); walk_at "ex") | (refine Ext.c1 ?_ (by assumption) (by walk_at "fr"); walk_at "ex") | (refine Ext.cm ?_ (by assumption) (by simp only [List.mem_cons, true_or, or_true]; done); walk_at "ex"))
local macro_rules | `(tactic| walk_at "r1") => `(tactic| first
  | (with_reducible refine s_var rfl ?_) | (with_reducible refine s_c ?_) | (with_reducible refine s_op ?_) | (with_reducible refine s_un ?_) | (with_reducible refine s_I0 ?_) | (with_reducible refine s_U ?_)
  | (with_reducible refine s_eqI ?_) | (with_reducible refine s_eqS ?_) | (with_reducible refine s_eqB ?_) | (with_reducible refine s_neI ?_) | (with_reducible refine s_neS ?_) | (with_reducible refine s_neB ?_)
  | (with_reducible refine s_isN1 ?_) | (with_reducible refine s_isN0 ?_) | (with_reducible refine s_notN1 ?_) | (with_reducible refine s_notN0 ?_) | (with_reducible refine s_isBl ?_) | (with_reducible refine s_notBl ?_)
  | (with_reducible refine s_test ?_) | (with_reducible refine s_B ?_) | (with_reducible refine s_bl ?_) | (with_reducible refine s_and ?_) | (with_reducible refine s_or ?_) | (with_reducible refine s_not ?_)
  | (with_reducible refine s_andV ?_) | (with_reducible refine s_orV ?_) | (with_reducible refine s_notV ?_) | (with_reducible refine s_ifE ?_) | (with_reducible refine s_chain ?_)
  | (with_reducible refine s_next ?_) | (with_reducible refine s_seq ?_) | (with_reducible refine s_drop ?_) | (with_reducible refine s_ret ?_) | (with_reducible refine s_retN ?_) | (with_reducible refine s_ifS ?_) | (with_reducible refine s_asg ?_)
  | ((with_reducible refine g_name ?_); refine s_name (by first | rfl) ?_) | (with_reducible refine s_parS ?_) | (with_reducible refine s_par ?_) | ((with_reducible refine g_nx ?_); refine s_nx rfl ?_) | (with_reducible refine s_gsub ?_) | (with_reducible refine s_gnil ?_) | (with_reducible refine s_gcons ?_)
  | (with_reducible refine s_call ?_) | (with_reducible refine s_cb ?_) | (with_reducible refine s_nil ?_) | (with_reducible refine s_cons ?_) | (with_reducible refine s_tupT ?_) | (with_reducible refine s_lstT ?_)
  | (with_reducible refine s_sl ?_) | (with_reducible refine s_nopart ?_) | (with_reducible refine s_part ?_) | (with_reducible refine s_int ?_) | (with_reducible refine s_bm ?_) | (with_reducible refine s_dget ?_) | (with_reducible refine s_dputS ?_)
  | (with_reducible refine s_forS ?_) | (with_reducible refine s_lc ?_) | (with_reducible refine s_iTup ?_) | (with_reducible refine s_iList ?_) | (with_reducible refine s_iRng1 ?_) | (with_reducible refine s_iRng2 ?_) | (with_reducible refine s_tYes ?_) | (with_reducible refine s_intI ?_) | (with_reducible refine s_intB ?_) | (with_reducible refine s_min2 ?_) | (with_reducible refine s_max2 ?_) | (with_reducible refine s_abs ?_) | (with_reducible refine s_revL ?_) | (with_reducible refine s_iEnumT ?_) | (with_reducible refine s_iEnum ?_) | (with_reducible refine s_iZipA ?_) | (with_reducible refine s_iZipM ?_) | (with_reducible refine s_iZip ?_) | (with_reducible refine s_iStr ?_) | (with_reducible refine s_star ?_) | (with_reducible refine s_lc2 ?_) | (with_reducible refine s_dc ?_) | (with_reducible refine s_bm ?_)
  | (with_reducible refine isi_int _ ?_) | (with_reducible refine isi_intB _ ?_) | (with_reducible refine isi_str _ ?_) | (with_reducible refine isi_non ?_)
  | (with_reducible refine iteT ?_) | (with_reducible refine iteF ?_) | (with_reducible refine iteNT ?_) | (with_reducible refine iteNF ?_))
local macro_rules | `(tactic| walk_at "r2") => `(tactic| first
  | ((with_reducible refine g_ixT ?_); first | (refine s_ixT (by walk_at "hx") rfl ?_) | (refine s_ixDs (by walk_at "hx") rfl ?_) | (refine s_ixDi (by walk_at "hx") rfl ?_) | (refine s_ixD (by walk_at "hx") rfl (fun _ _ => ?_)) | (refine s_ixD0s (by walk_at "hx") ?_))
  | ((with_reducible refine g_form ?_); first | (refine isDev_non ?_) | (refine isBr_non ?_) | (refine isDev_dev (by walk_at "hx") ?_) | (refine isDev_br (by walk_at "hx") ?_) | (refine isBr_dev (by walk_at "hx") ?_) | (refine isBr_br (by walk_at "hx") ?_))
  | ((with_reducible refine g_isi ?_); first | (with_reducible refine isi_dt (by walk_at "hx") ?_) | (with_reducible refine isi_tup (by walk_at "hx") ?_))
  | ((with_reducible refine g_len ?_); first | (with_reducible refine s_lenL (by walk_at "hx") ?_) | (with_reducible refine s_lenT (by walk_at "hx") ?_) | (with_reducible refine s_lenD (by walk_at "hx") ?_))
  | ((with_reducible refine g_ty ?_); first | (refine s_tyK (by assumption) ?_) | (with_reducible refine s_tyL (by walk_at "hx") ?_))
  | ((with_reducible refine g_tix ?_); first | (refine s_idx0 (by assumption) ?_) | (refine s_idx1 (by assumption) ?_))
  | ((with_reducible refine g_enT ?_); with_reducible refine s_enT (by walk_at "hx") ?_) | ((with_reducible refine g_enL ?_); with_reducible refine s_enL (by walk_at "hx") ?_)
  | ((with_reducible refine g_za ?_); first | (with_reducible refine s_zaT2 (by walk_at "hx") (by walk_at "hx") ?_) | (with_reducible refine s_zaL (by walk_at "hx") (by walk_at "hx") ?_))
  | ((with_reducible refine g_zm ?_); first | (with_reducible refine s_zmT (by walk_at "hx") (by walk_at "hx") ?_) | (with_reducible refine s_zmL (by walk_at "hx") (by walk_at "hx") ?_))
  | ((with_reducible refine g_zl ?_); with_reducible refine s_zl (by walk_at "hx") (by walk_at "hx") ?_)
  | ((with_reducible refine g_itT ?_); with_reducible refine s_itT (by walk_at "hx") ?_) | ((with_reducible refine g_itL ?_); with_reducible refine s_itL (by walk_at "hx") ?_)
  | ((with_reducible refine g_gtup ?_); refine s_gtup (by walk_at "hx") rfl ?_))
local macro_rules | `(tactic| walk_at "rd") => `(tactic| repeat (first | walk_at "r1" | walk_at "r2"))
local macro_rules | `(tactic| walk_at "sz") => `(tactic| (simp only [List.length_cons, List.length_nil, List.length_append, List.length_map, sizeLine_eq] <;> omega))
section
variable {P : Program} {w : World} {K : PySem.W.Frag} {mg : Str → Option Value} {base : Heap} {kd : Addr}
/-! is_integer: of an int, whether it lies within -/
def spIsInteger : Sp := fun vs H Q _ => ∃ i lo hi, vs = [.int i, .int lo, .int hi] ∧ (lo ≤ i ∧ i ≤ hi) ∧ Q (.bl true) H
abbrev sx_is_integer : Stmt := top 4
abbrev N_is_integer : List Str := ["value", "low", "high"]
theorem sc_is_integer : FnScope N_is_integer ["value", "low", "high"] (defScope sx_is_integer) := ⟨rfl, rfl, rfl, by decide +kernel, rfl, by decide +kernel, by decide +kernel⟩
theorem ok_is_integer (bi : Bi mg kd) (T : At K mg "is_integer" sx_is_integer ["value", "low", "high"]) : Cal P w K mg base 1 "is_integer" spIsInteger [] := by
  refine T.ok sc_is_integer (fun vs H Q E h => ?_) (fun f cdv A outer s H vs Q E hr h => ?_)
  · obtain ⟨i, lo, hi, rfl, _⟩ := h
    rfl
  obtain ⟨i, lo, hi, rfl, ⟨h1, h2⟩, q⟩ := h
  have nd := sc_is_integer.nd
  refine ⟨_, (pss_one (ps_ret (pe_and (pe_callB call_isi (by rfl) bi.isinstance (by decide +kernel) (pa_cons (pv 0) (pa_cons (pe_bltn (v := .ty "int") (by rfl) bi.int (by decide +kernel) rfl) pa_nil))) (pe_and (pe_not (pe_callB call_isi (by rfl) bi.isinstance (by decide +kernel) (pa_cons (pv 0) (pa_cons (pe_bltn (v := .ty "bool") (by rfl) bi.bool (by decide +kernel) rfl) pa_nil)))) (pe_one (pe_chain op_le op_le (pv 1) (pv 0) (pv 2))))))), ?_⟩
  walk_at "rd"
  refine ifd1 h1 ?_
  walk_at "rd"
  rw [decide_eq_true h2]
  exact q
/-! is_size -/
def spIsSize : Sp := fun vs H Q _ => ∃ i, vs = [.int i] ∧ P2 i ∧ 16 ≤ i ∧ i ≤ 281474976710656 ∧ Q (.bl true) H
abbrev sx_is_size : Stmt := top 6
abbrev N_is_size : List Str := ["value"]
theorem sc_is_size : FnScope N_is_size ["value"] (defScope sx_is_size) := ⟨rfl, rfl, rfl, by decide +kernel, rfl, by decide +kernel, by decide +kernel⟩
theorem ok_is_size (bi : Bi mg kd) (T : At K mg "is_size" sx_is_size ["value"]) (c_is_integer : Cal P w K mg base 1 "is_integer" spIsInteger []) : Cal P w K mg base 2 "is_size" spIsSize [] := by
  refine T.ok sc_is_size (fun vs H Q E h => ?_) (fun f cdv A outer s H vs Q E hr h => ?_)
  · obtain ⟨i, rfl, _⟩ := h
    rfl
  obtain ⟨i, rfl, hp, h1, h2, q⟩ := h
  have nd := sc_is_size.nd
  refine ⟨_, (pss_one (ps_ret (pe_and (pe_c c_is_integer hr (by omega) (by rfl) (pa_cons (pv 0) (pa_cons (pe_gc (by rfl) bi.LEAST) (pa_cons (pe_gc (by rfl) bi.SPACE) pa_nil)))) (pe_one (pe_cmpR op_eq (pe_op op_and (pv 0) (pe_op op_sub (pv 0) pe_int)) pe_int (nomark _)))))), ?_⟩
  walk_at "rd"
  refine ⟨i, 16, 281474976710656, rfl, ⟨h1, h2⟩, ?_⟩
  walk_at "rd"
  obtain ⟨k, rfl⟩ := hp
  rw [PySem.W.kbt_mask, Int.emod_self]
  exact q
/-! is_block -/
def spIsBlock : Sp := fun vs H Q _ => ∃ v b, vs = [v] ∧ Dt H v (encB b) ∧ IsBlk b ∧ Q (.bl true) H
abbrev sx_is_block : Stmt := top 7
abbrev N_is_block : List Str := ["value"]
theorem sc_is_block : FnScope N_is_block ["value"] (defScope sx_is_block) := ⟨rfl, rfl, rfl, by decide +kernel, rfl, by decide +kernel, by decide +kernel⟩
theorem ok_is_block (bi : Bi mg kd) (T : At K mg "is_block" sx_is_block ["value"]) (c_is_integer : Cal P w K mg base 1 "is_integer" spIsInteger []) (c_is_size : Cal P w K mg base 2 "is_size" spIsSize []) : Cal P w K mg base 3 "is_block" spIsBlock [] := by
  refine T.ok sc_is_block (fun vs H Q E h => ?_) (fun f cdv A outer s H vs Q E hr h => ?_)
  · obtain ⟨v, b, rfl, _⟩ := h
    rfl
  obtain ⟨v, b, rfl, hd, hb, q⟩ := h
  have nd := sc_is_block.nd
  unfold encB at hd
  refine ⟨_, (pss_cons (ps_if (PW.pt (pw_or (pt_not (pt_val (pe_callB call_isi (by rfl) bi.isinstance (by decide +kernel) (pa_cons (pv 0) (pa_cons (pe_bltn (v := .ty "tuple") (by rfl) bi.tuple (by decide +kernel) rfl) pa_nil))))) (pw_or (pt_cmpR op_ne (pe_callB (call_lenR (K := K) rfl) (by rfl) bi.len (by decide +kernel) (pa_cons (pv 0) pa_nil)) pe_int (nomark _)) (pw_or1 (pt_not (pt_val (pe_c c_is_size hr (by omega) (by rfl) (pa_cons (pe_ix ix_tup (pv 0) pe_int (fun _ _ => rfl)) pa_nil)))))))) (pss_one (ps_ret pe_bl)) pss_nil)
      (pss_one (ps_ret (pe_and (pe_c c_is_integer hr (by omega) (by rfl) (pa_cons (pe_ix ix_tup (pv 0) pe_int (fun _ _ => rfl)) (pa_cons pe_int (pa_cons (pe_op op_sub (pe_gc (by rfl) bi.SPACE) pe_int) pa_nil)))) (pe_one (pe_cmpR op_eq (pe_op op_mod (pe_ix ix_tup (pv 0) pe_int (fun _ _ => rfl)) (pe_ix ix_tup (pv 0) pe_int (fun _ _ => rfl))) pe_int (nomark _))))))), ?_⟩
  walk_at "rd"
  have hb1 := hb.hi
  have hb2 := hb.lo
  have hb3 := hb.big
  refine ifn0 rfl ?_
  walk_at "rd"
  refine ⟨b.2, rfl, hb.p2, hb.big, by omega, ?_⟩
  walk_at "rd"
  refine ⟨b.1, 0, 281474976710656 - 1, rfl, ⟨hb2, by omega⟩, ?_⟩
  walk_at "rd"
  refine s_I (by omega) ?_
  walk_at "rd"
  rw [decide_eq_true hb.al]
  exact q
/-! capacity -/
def spCapacity : Sp := fun vs H Q _ => ∃ v room s, vs = [v, .int s] ∧ Dt H v (.tuple (room.map encB)) ∧ room.length ≤ 1000 ∧ ∀ H', Ext [] H H' → Q (.int (capR room s)) H'
abbrev sx_capacity : Stmt := top 8
abbrev N_capacity : List Str := ["room", "size", "start", "own"]
theorem sc_capacity : FnScope N_capacity ["room", "size"] (defScope sx_capacity) := ⟨rfl, rfl, rfl, by decide +kernel, rfl, by decide +kernel, by decide +kernel⟩
theorem ok_capacity (bi : Bi mg kd) (T : At K mg "capacity" sx_capacity ["room", "size"]) : Cal P w K mg base 1 "capacity" spCapacity [] := by
  refine T.ok sc_capacity (fun vs H Q E h => ?_) (fun f cdv A outer s H vs Q E hr h => ?_)
  · obtain ⟨v, room, z, rfl, _⟩ := h
    rfl
  obtain ⟨v, room, z, rfl, hd, hlen, q⟩ := h
  have nd := sc_capacity.nd
  obtain ⟨a, xs, rfl, ha, hs⟩ := hd.tupE
  refine ⟨_, (pss_one (ps_ret (pe_callB (cr_sum rfl) (by rfl) bi.sum (by decide +kernel) (pa_cons (pe_lc (own := [("start", 2), ("own", 3)]) (g := gTup K 2 (gCons (gName 2) (gCons (gName 3) (gNil)))) (by rfl) nd (pi_tup (pv 0)) (blkOk_by (own := [("start", 2), ("own", 3)]) (N := N_capacity) (sc := defScope sx_capacity) (by decide +kernel)) (fun _ _ _ _ _ => (pg_tup rfl (pgs_cons (pg_name (i := 2) nd rfl (Or.inl rfl)) (pgs_cons (pg_name (i := 3) nd rfl (Or.inl rfl)) pgs_nil)))) (fun _ _ _ _ _ => pts_one (pt_cmpR op_ge (pv 3) (pv 1) (nomark _))) (fun _ _ _ _ _ => (pv 3))) pa_nil)))), ?_⟩
  walk_at "rd"
  have hxl : xs.length = room.length := by rw [hs.len, List.length_map]
  refine lc_W walk_tup [] (fun i acc _ => acc = ((((room.take i).filter fun b => decide (b.2 ≥ z)).map (·.2)).map V.int)) (fun H' e => SqT.of (e.tup _ _ ha)) (fun _ _ => rfl) (fun i x D acc H1 H2 hi hD e hacc hl hR y => ?_) (fun D acc H' hD e hacc hl hR => ?_)
  · obtain ⟨rfl, hx⟩ := y
    obtain ⟨d, hd', hxd⟩ := hs.getV hx
    obtain ⟨b, hb, rfl⟩ := map_at hd'
    obtain ⟨t, rfl, ht⟩ := (hxd.ext e).blkE
    subst hR
    walk_at "rd"
    refine ⟨rfl, ?_⟩
    walk_at "rd"
    refine ifd (fun c => ?_) (fun c => ?_)
    · walk_at "rd"
      refine lc_put hD e hacc hl (by omega) (fun _ _ => ?_)
      rw [take1 hb, List.filter_append, List.filter_cons, if_pos (decide_eq_true (show b.2 ≥ z from c)), List.map_append, List.map_append]
      rfl
    · refine lc_skip e hacc hl ?_
      rw [take1 hb, List.filter_append, List.filter_cons, if_neg (by simpa using c), List.map_append, List.map_append, List.filter_nil, List.map_nil, List.map_nil, List.append_nil]
  · rw [hxl, List.take_length] at hR
    subst hR
    walk_at "rd"
    exact s_sumL hacc (q _ e)
/-! wanted_from -/
def spWantedFrom : Sp := fun vs H Q _ => ∃ v ns s, vs = [v, .int s] ∧ Dt H v (.tuple (ns.map PyData.int)) ∧ ns.length ≤ 1000 ∧ ∀ H', Ext [] H H' → Q (.int (wfS ns s)) H'
abbrev sx_wanted_from : Stmt := top 10
abbrev N_wanted_from : List Str := ["sizes", "size", "own"]
theorem sc_wanted_from : FnScope N_wanted_from ["sizes", "size"] (defScope sx_wanted_from) := ⟨rfl, rfl, rfl, by decide +kernel, rfl, by decide +kernel, by decide +kernel⟩
theorem ok_wanted_from (bi : Bi mg kd) (T : At K mg "wanted_from" sx_wanted_from ["sizes", "size"]) : Cal P w K mg base 1 "wanted_from" spWantedFrom [] := by
  refine T.ok sc_wanted_from (fun vs H Q E h => ?_) (fun f cdv A outer s H vs Q E hr h => ?_)
  · obtain ⟨v, room, z, rfl, _⟩ := h
    rfl
  obtain ⟨v, ns, z, rfl, hd, hlen, q⟩ := h
  have nd := sc_wanted_from.nd
  obtain ⟨a, xs, rfl, ha, hs⟩ := hd.tupE
  have exs := hs.ints_eq
  subst exs
  refine ⟨_, (pss_one (ps_ret (pe_callB (cr_sum rfl) (by rfl) bi.sum (by decide +kernel) (pa_cons (pe_lc (own := [("own", 2)]) (g := gName 2) (by rfl) nd (pi_tup (pv 0)) (blkOk_by (own := [("own", 2)]) (N := N_wanted_from) (sc := defScope sx_wanted_from) (by decide +kernel)) (fun _ _ _ _ _ => (pg_name (i := 2) nd rfl (Or.inl rfl))) (fun _ _ _ _ _ => pts_one (pt_cmpR op_ge (pv 2) (pv 1) (nomark _))) (fun _ _ _ _ _ => (pv 2))) pa_nil)))), ?_⟩
  walk_at "rd"
  refine lc_W walk_tup [] (fun i acc _ => acc = ((ns.take i).filter fun b => decide (b ≥ z)).map V.int) (fun H' e => SqT.of (e.tup _ _ ha)) (fun _ _ => rfl) (fun i x D acc H1 H2 hi hD e hacc hl hR y => ?_) (fun D acc H' hD e hacc hl hR => ?_)
  · obtain ⟨rfl, hx⟩ := y
    obtain ⟨n, hn, rfl⟩ := map_at hx
    rw [List.length_map] at hi
    subst hR
    walk_at "rd"
    refine ⟨rfl, ?_⟩
    walk_at "rd"
    refine ifd (fun c => ?_) (fun c => ?_)
    · walk_at "rd"
      refine lc_put hD e hacc hl (by omega) (fun _ _ => ?_)
      rw [take1 hn, List.filter_append, List.filter_cons, if_pos (decide_eq_true (show n ≥ z from c)), List.map_append]
      rfl
    · refine lc_skip e hacc hl ?_
      rw [take1 hn, List.filter_append, List.filter_cons, if_neg (by simpa using c), List.map_append, List.filter_nil, List.map_nil, List.append_nil]
  · rw [List.length_map, List.take_length] at hR
    subst hR
    walk_at "rd"
    exact s_sumL hacc (q _ e)
end
end Bw

/-! the program: reason, has_form .. only -/
namespace Bw
open PySem PySem.Spec PyProof.Rows L2
open C8 (Cal pe_c pe_gc)
open StX (pa_star tStar)
open RZ (pi_zipA iZipA)
-- the tactics of this text, by key
local macro_rules | `(tactic| walk_at "nm") => `(tactic| first | (intro hmem; cases hmem; done) | (simp only [List.mem_cons, List.mem_singleton, List.not_mem_nil, or_false, not_or, not_false_eq_true]; done) | (simp only [List.mem_cons, List.mem_singleton, List.not_mem_nil, or_false, not_or]; (repeat' apply And.intro) <;> first | assumption | exact Ne.symm (by assumption) | exact ne_some (by assumption) (by assumption) | exact Ne.symm (ne_some (by assumption) (by assumption))))
local macro_rules | `(tactic| walk_at "hx") => `(tactic| first | assumption | exact Dt.non | exact Dt.int _ | exact Dt.str _ | exact Dt.bl _ | (refine Dt.ext (by assumption) ?_; walk_at "hx") | (refine DtAll.ext (by assumption) ?_; walk_at "hx") | (refine Ext.at0 (by assumption) ?_; walk_at "hx") | (refine Ext.tupC (by assumption) ?_; walk_at "hx") | (refine Ext.atC (by assumption) ?_ (by walk_at "nm"); walk_at "hx"))
local macro_rules | `(tactic| walk_at "dm") => `(tactic| first | exact fun _ h => h | (refine dom_step (by assumption) ?_; walk_at "dm"))
local macro_rules | `(tactic| walk_at "fr") => `(tactic| first | assumption | (refine fr_of (by assumption) ?_; walk_at "dm"))
local macro_rules | `(tactic| walk_at "ex") => `(tactic| first | assumption | exact Ext.refl | exact Ext.mono0 (by assumption) | (refine Ext.then0 ?_ (by assumption); walk_at "ex") | (refine Ext.transC ?_ (by assumption); walk_at "ex") | (refine Ext.c1 ?_ (by assumption) (by walk_at "fr"); walk_at "ex") | (refine Ext.cm ?_ (by assumption) (by simp only [List.mem_cons, true_or, or_true]; done); walk_at "ex"))
local macro_rules | `(tactic| walk_at "r1") => `(tactic| first
  | (with_reducible refine s_var rfl ?_) | (with_reducible refine s_c ?_) | (with_reducible refine s_op ?_) | (with_reducible refine s_un ?_) | (with_reducible refine s_I0 ?_) | (with_reducible refine s_U ?_)
  | (with_reducible refine s_eqI ?_) | (with_reducible refine s_eqS ?_) | (with_reducible refine s_eqB ?_) | (with_reducible refine s_neI ?_) | (with_reducible refine s_neS ?_) | (with_reducible refine s_neB ?_)
  | (with_reducible refine s_isN1 ?_) | (with_reducible refine s_isN0 ?_) | (with_reducible refine s_notN1 ?_) | (with_reducible refine s_notN0 ?_) | (with_reducible refine s_isBl ?_) | (with_reducible refine s_notBl ?_)
  | (with_reducible refine s_test ?_) | (with_reducible refine s_B ?_) | (with_reducible refine s_bl ?_) | (with_reducible refine s_and ?_) | (with_reducible refine s_or ?_) | (with_reducible refine s_not ?_)
  | (with_reducible refine s_andV ?_) | (with_reducible refine s_orV ?_) | (with_reducible refine s_notV ?_) | (with_reducible refine s_ifE ?_) | (with_reducible refine s_chain ?_)
  | (with_reducible refine s_next ?_) | (with_reducible refine s_seq ?_) | (with_reducible refine s_drop ?_) | (with_reducible refine s_ret ?_) | (with_reducible refine s_retN ?_) | (with_reducible refine s_ifS ?_) | (with_reducible refine s_asg ?_)
  | ((with_reducible refine g_name ?_); refine s_name (by first | rfl) ?_) | (with_reducible refine s_parS ?_) | (with_reducible refine s_par ?_) | ((with_reducible refine g_nx ?_); refine s_nx rfl ?_) | (with_reducible refine s_gsub ?_) | (with_reducible refine s_gnil ?_) | (with_reducible refine s_gcons ?_)
  | (with_reducible refine s_call ?_) | (with_reducible refine s_cb ?_) | (with_reducible refine s_nil ?_) | (with_reducible refine s_cons ?_) | (with_reducible refine s_tupT ?_) | (with_reducible refine s_lstT ?_)
  | (with_reducible refine s_sl ?_) | (with_reducible refine s_nopart ?_) | (with_reducible refine s_part ?_) | (with_reducible refine s_int ?_) | (with_reducible refine s_bm ?_) | (with_reducible refine s_dget ?_) | (with_reducible refine s_dputS ?_)
  | (with_reducible refine s_forS ?_) | (with_reducible refine s_lc ?_) | (with_reducible refine s_iTup ?_) | (with_reducible refine s_iList ?_) | (with_reducible refine s_iRng1 ?_) | (with_reducible refine s_iRng2 ?_) | (with_reducible refine s_tYes ?_) | (with_reducible refine s_intI ?_) | (with_reducible refine s_intB ?_) | (with_reducible refine s_min2 ?_) | (with_reducible refine s_max2 ?_) | (with_reducible refine s_abs ?_) | (with_reducible refine s_revL ?_) | (with_reducible refine s_iEnumT ?_) | (with_reducible refine s_iEnum ?_) | (with_reducible refine s_iZipA ?_) | (with_reducible refine s_iZipM ?_) | (with_reducible refine s_iZip ?_) | (with_reducible refine s_iStr ?_) | (with_reducible refine s_star ?_) | (with_reducible refine s_lc2 ?_) | (with_reducible refine s_dc ?_) | (with_reducible refine s_bm ?_)
  | (with_reducible refine isi_int _ ?_) | (with_reducible refine isi_intB _ ?_) | (with_reducible refine isi_str _ ?_) | (with_reducible refine isi_non ?_)
  | (with_reducible refine iteT ?_) | (with_reducible refine iteF ?_) | (with_reducible refine iteNT ?_) | (with_reducible refine iteNF ?_))
local macro_rules | `(tactic| walk_at "r2") => `(tactic| first
  | ((with_reducible refine g_ixT ?_); first | (refine s_ixT (by walk_at "hx") rfl ?_) | (refine s_ixDs (by walk_at "hx") rfl ?_) | (refine s_ixDi (by walk_at "hx") rfl ?_) | (refine s_ixD (by walk_at "hx") rfl (fun _ _ => ?_)) | (refine s_ixD0s (by walk_at "hx") ?_))
  | ((with_reducible refine g_form ?_); first | (refine isDev_non ?_) | (refine isBr_non ?_) | (refine isDev_dev (by walk_at "hx") ?_) | (refine isDev_br (by walk_at "hx") ?_) | (refine isBr_dev (by walk_at "hx") ?_) | (refine isBr_br (by walk_at "hx") ?_))
  | ((with_reducible refine g_isi ?_); first | (with_reducible refine isi_dt (by walk_at "hx") ?_) | (with_reducible refine isi_tup (by walk_at "hx") ?_))
  | ((with_reducible refine g_len ?_); first | (with_reducible refine s_lenL (by walk_at "hx") ?_) | (with_reducible refine s_lenT (by walk_at "hx") ?_) | (with_reducible refine s_lenD (by walk_at "hx") ?_))
  | ((with_reducible refine g_ty ?_); first | (refine s_tyK (by assumption) ?_) | (with_reducible refine s_tyL (by walk_at "hx") ?_))
  | ((with_reducible refine g_tix ?_); first | (refine s_idx0 (by assumption) ?_) | (refine s_idx1 (by assumption) ?_))
  | ((with_reducible refine g_enT ?_); with_reducible refine s_enT (by walk_at "hx") ?_) | ((with_reducible refine g_enL ?_); with_reducible refine s_enL (by walk_at "hx") ?_)
  | ((with_reducible refine g_za ?_); first | (with_reducible refine s_zaT2 (by walk_at "hx") (by walk_at "hx") ?_) | (with_reducible refine s_zaL (by walk_at "hx") (by walk_at "hx") ?_))
  | ((with_reducible refine g_zm ?_); first | (with_reducible refine s_zmT (by walk_at "hx") (by walk_at "hx") ?_) | (with_reducible refine s_zmL (by walk_at "hx") (by walk_at "hx") ?_))
  | ((with_reducible refine g_zl ?_); with_reducible refine s_zl (by walk_at "hx") (by walk_at "hx") ?_)
  | ((with_reducible refine g_itT ?_); with_reducible refine s_itT (by walk_at "hx") ?_) | ((with_reducible refine g_itL ?_); with_reducible refine s_itL (by walk_at "hx") ?_)
  | ((with_reducible refine g_gtup ?_); refine s_gtup (by walk_at "hx") rfl ?_))
local macro_rules | `(tactic| walk_at "rd") => `(tactic| repeat (first | walk_at "r1" | walk_at "r2"))
local macro_rules | `(tactic| walk_at "sz") => `(tactic| (simp only [List.length_cons, List.length_nil, List.length_append, List.length_map, sizeLine_eq] <;> omega))
section
variable {P : Program} {w : World} {K : PySem.W.Frag} {mg : Str → Option Value} {base : Heap} {kd : Addr} {k : Nat}
/-! reason -/
def spReason : Sp := fun vs H Q _ => ∃ v u room sizes, vs = [v, u] ∧ Dt H v (.tuple (room.map encB)) ∧ room.length ≤ 1000 ∧ Dt H u (.tuple (sizes.map PyData.int)) ∧ sizes.length < 64 ∧ (Fits room sizes → ∀ H', Ext [] H H' → Q .non H') ∧ (¬ Fits room sizes → ∀ t H', Ext [] H H' → Q (.ref t) H')
abbrev sx_reason : Stmt := top 11
abbrev N_reason : List Str := ["room", "sizes", "size", "wanted", "held"]
theorem sc_reason : FnScope N_reason ["room", "sizes"] (defScope sx_reason) := ⟨rfl, rfl, rfl, by decide +kernel, rfl, by decide +kernel, by decide +kernel⟩
theorem ok_reason (bi : Bi mg kd) (T : At K mg "reason" sx_reason ["room", "sizes"]) (c_wanted_from : Cal P w K mg base k "wanted_from" spWantedFrom []) (c_capacity : Cal P w K mg base k "capacity" spCapacity []) : Cal P w K mg base (k + 1) "reason" spReason [] := by
  refine T.ok sc_reason (fun vs H Q E h => ?_) (fun f cdv A outer s H vs Q E hr h => ?_)
  · obtain ⟨v, u, room, z, rfl, _⟩ := h
    rfl
  obtain ⟨v, u, room, sizes, rfl, hv, hvl, hu, hul, q1, q2⟩ := h
  have nd := sc_reason.nd
  have hu0 := hu
  obtain ⟨a, xs, rfl, ha, hs⟩ := hu.tupE
  have exs := hs.ints_eq
  subst exs
  refine ⟨_, (pss_cons (ps_for PassesOwn.never rfl (pi_list (pe_revL (pe_callB (cr_sortedSet rfl) (by rfl) bi.sorted (by decide +kernel) (pa_cons (pe_callTy (cr_setT rfl) (by rfl) bi.set (by decide +kernel) (pa_cons (pv 1) pa_nil)) pa_nil)))) (pg_name (i := 2) nd rfl (Or.inl rfl)) (pss_cons (ps_par (i := 3) (j := 4) (by rfl) nd rfl rfl (by decide) rfl rfl (pa_cons (pe_c c_wanted_from hr (by omega) (by rfl) (pa_cons (pv 1) (pa_cons (pv 2) pa_nil))) (pa_cons (pe_c c_capacity hr (by omega) (by rfl) (pa_cons (pv 0) (pa_cons (pv 2) pa_nil))) pa_nil)) (by rfl))
      (pss_one (ps_if (pt_cmpR op_gt (pv 3) (pv 4) (nomark _)) (pss_one (ps_ret (pe_tup (pa_cons (pv 2) (pa_cons (pv 3) (pa_cons (pv 4) pa_nil)))))) pss_nil))))
      (pss_one (ps_ret pe_non))), ?_⟩
  walk_at "rd"
  refine s_setT (by walk_at "hx") (by omega) (fun p c H1 hc e1 h1 => ?_)
  walk_at "rd"
  refine s_sortSet h1 (by omega) (fun ns p2 H2 hns hmem hlen hp2 e2 h2 => ?_)
  refine s_revE h2 (fun p3 H3 hp3 e3 h3 => ?_)
  rw [← List.map_reverse] at h3
  walk_at "rd"
  refine f_W walk_list (fun i σ H' => ∃ x y z, σ = [some v, some (.ref a), x, y, z] ∧ Ext [] H3 H' ∧ ∀ s ∈ (ns.reverse).take i, wfS sizes s ≤ capR room s) ⟨_, _, _, rfl, .refl, fun s hs => by cases hs⟩ (fun i σ H' _ h => SqL.of (h.elim fun _ h => h.elim fun _ h => h.elim fun _ h => h.2.1.at0 h3)) (fun i x σ H4 H5 hi hP y => ?_) (fun σ H' hP => ?_)
  · obtain ⟨x', y', z', rfl, e, hall⟩ := hP
    obtain ⟨rfl, hx⟩ := y
    obtain ⟨z, hz, rfl⟩ := map_at hx
    walk_at "rd"
    refine ⟨_, _, _, rfl, (by walk_at "hx"), by omega, fun H6 e6 => ?_⟩
    walk_at "rd"
    refine ⟨_, _, _, rfl, (by walk_at "hx"), by omega, fun H7 e7 => ?_⟩
    walk_at "rd"
    refine ifd (fun c => ?_) (fun c => ?_)
    · walk_at "rd"
      refine s_newX (by walk_at "sz") (fun p H8 _ e8 _ => q2 (fun f => ?_) _ _ (by walk_at "ex"))
      have := f z (by
        have := (hmem z).mp (List.mem_reverse.mp (List.mem_of_getElem? hz))
        exact of_decide_eq_true this)
      omega
    · walk_at "rd"
      refine ⟨_, _, _, rfl, (by walk_at "ex"), fun s hs => ?_⟩
      rw [take1 hz] at hs
      rcases List.mem_append.mp hs with hs | hs
      · exact hall s hs
      · rw [List.mem_singleton.mp hs]; omega
  · obtain ⟨x', y', z', rfl, e, hall⟩ := hP
    walk_at "rd"
    refine q1 (fun s hs => hall s ?_) _ (by walk_at "ex")
    rw [List.length_map, List.take_length]
    exact List.mem_reverse.mpr ((hmem s).mpr (decide_eq_true hs))
/-! has_form -/
def spHasForm : Sp := fun vs H Q _ => ∃ v word many, vs = [v, .str word, .int many] ∧ ((v = .non ∧ Q (.bl false) H) ∨ ∃ s r, Dt H v (.tuple (.str s :: r)) ∧ Q (.bl (decide (((r.length + 1 : Nat) : Int) = many) && decide (s = word))) H)
abbrev sx_has_form : Stmt := top 13
abbrev N_has_form : List Str := ["value", "word", "many"]
theorem sc_has_form : FnScope N_has_form ["value", "word", "many"] (defScope sx_has_form) := ⟨rfl, rfl, rfl, by decide +kernel, rfl, by decide +kernel, by decide +kernel⟩
theorem ok_has_form (bi : Bi mg kd) (T : At K mg "has_form" sx_has_form ["value", "word", "many"]) : Cal P w K mg base (k + 1) "has_form" spHasForm [] := by
  refine T.ok sc_has_form (fun vs H Q E h => ?_) (fun f cdv A outer s H vs Q E hr h => ?_)
  · obtain ⟨v, u, room, rfl, _⟩ := h
    rfl
  have nd := sc_has_form.nd
  obtain ⟨v, word, many, rfl, ⟨rfl, q⟩ | ⟨s, r, hd, q⟩⟩ := h
  · refine ⟨_, (pss_one (ps_ret (pe_and (pe_callB call_isi (by rfl) bi.isinstance (by decide +kernel) (pa_cons (pv 0) (pa_cons (pe_bltn (v := .ty "tuple") (by rfl) bi.tuple (by decide +kernel) rfl) pa_nil))) (pe_and (pe_cmpR op_eq (pe_callB (call_lenR (K := K) rfl) (by rfl) bi.len (by decide +kernel) (pa_cons (pv 0) pa_nil)) (pv 2) (nomark _)) (pe_and (pe_callB call_isi (by rfl) bi.isinstance (by decide +kernel) (pa_cons (pe_ix ix_tup (pv 0) pe_int (fun _ _ => rfl)) (pa_cons (pe_bltn (v := .ty "str") (by rfl) bi.str (by decide +kernel) rfl) pa_nil))) (pe_one (pe_cmpR op_eq (pe_ix ix_tup (pv 0) pe_int (fun _ _ => rfl)) (pv 1) (nomark _)))))))), ?_⟩
    walk_at "rd"
    exact q
  · refine ⟨_, (pss_one (ps_ret (pe_and (pe_callB call_isi (by rfl) bi.isinstance (by decide +kernel) (pa_cons (pv 0) (pa_cons (pe_bltn (v := .ty "tuple") (by rfl) bi.tuple (by decide +kernel) rfl) pa_nil))) (pe_and (pe_cmpR op_eq (pe_callB (call_lenR (K := K) rfl) (by rfl) bi.len (by decide +kernel) (pa_cons (pv 0) pa_nil)) (pv 2) (nomark _)) (pe_and (pe_callB call_isi (by rfl) bi.isinstance (by decide +kernel) (pa_cons (pe_ix ix_tup (pv 0) pe_int (fun _ _ => rfl)) (pa_cons (pe_bltn (v := .ty "str") (by rfl) bi.str (by decide +kernel) rfl) pa_nil))) (pe_one (pe_cmpR op_eq (pe_ix ix_tup (pv 0) pe_int (fun _ _ => rfl)) (pv 1) (nomark _)))))))), ?_⟩
    walk_at "rd"
    refine ifd (fun c => ?_) (fun c => ?_)
    · walk_at "rd"
      rw [show decide (((r.length + 1 : Nat) : Int) = many) = true from decide_eq_true c, Bool.true_and] at q
      exact q
    · rw [show decide (((r.length + 1 : Nat) : Int) = many) = false from decide_eq_false c, Bool.false_and] at q
      exact q
/-! is_device, is_bridge -/
abbrev sx_is_device : Stmt := top 14
abbrev N_is_device : List Str := ["part"]
theorem sc_is_device : FnScope N_is_device ["part"] (defScope sx_is_device) := ⟨rfl, rfl, rfl, by decide +kernel, rfl, by decide +kernel, by decide +kernel⟩
theorem ok_is_device (bi : Bi mg kd) (T : At K mg "is_device" sx_is_device ["part"]) (c_has_form : Cal P w K mg base k "has_form" spHasForm []) : Cal P w K mg base (k + 1) "is_device" (spForm "device" 3) [] := by
  refine T.ok sc_is_device (fun vs H Q E h => ?_) (fun f cdv A outer s H vs Q E hr h => ?_)
  · obtain ⟨v, rfl, _⟩ := h
    rfl
  have nd := sc_is_device.nd
  obtain ⟨v, rfl, h⟩ := h
  refine ⟨_, (pss_one (ps_ret (pe_c c_has_form hr (by omega) (by rfl) (pa_cons (pv 0) (pa_cons pe_str (pa_cons pe_int pa_nil)))))), ?_⟩
  walk_at "rd"
  exact ⟨_, _, _, rfl, h⟩
abbrev sx_is_bridge : Stmt := top 15
abbrev N_is_bridge : List Str := ["part"]
theorem sc_is_bridge : FnScope N_is_bridge ["part"] (defScope sx_is_bridge) := ⟨rfl, rfl, rfl, by decide +kernel, rfl, by decide +kernel, by decide +kernel⟩
theorem ok_is_bridge (bi : Bi mg kd) (T : At K mg "is_bridge" sx_is_bridge ["part"]) (c_has_form : Cal P w K mg base k "has_form" spHasForm []) : Cal P w K mg base (k + 1) "is_bridge" (spForm "bridge" 4) [] := by
  refine T.ok sc_is_bridge (fun vs H Q E h => ?_) (fun f cdv A outer s H vs Q E hr h => ?_)
  · obtain ⟨v, rfl, _⟩ := h
    rfl
  have nd := sc_is_bridge.nd
  obtain ⟨v, rfl, h⟩ := h
  refine ⟨_, (pss_one (ps_ret (pe_c c_has_form hr (by omega) (by rfl) (pa_cons (pv 0) (pa_cons pe_str (pa_cons pe_int pa_nil)))))), ?_⟩
  walk_at "rd"
  exact ⟨_, _, _, rfl, h⟩
/-! parts_of -/
abbrev sx_parts_of : Stmt := top 16
abbrev N_parts_of : List Str := ["part"]
theorem sc_parts_of : FnScope N_parts_of ["part"] (defScope sx_parts_of) := ⟨rfl, rfl, rfl, by decide +kernel, rfl, by decide +kernel, by decide +kernel⟩
theorem ok_parts_of (bi : Bi mg kd) (T : At K mg "parts_of" sx_parts_of ["part"]) (c_is_device : Cal P w K mg base k "is_device" (spForm "device" 3) []) : Cal P w K mg base (k + 1) "parts_of" spPartsOf [] := by
  refine T.ok sc_parts_of (fun vs H Q E h => ?_) (fun f cdv A outer s H vs Q E hr h => ?_)
  · obtain ⟨v, d, ps, rfl, _⟩ := h
    rfl
  have nd := sc_parts_of.nd
  obtain ⟨v, d, ps, rfl, hd, ⟨p, rfl, rfl⟩ | ⟨ms, rfl⟩, q⟩ := h
  · cases p with
    | emp =>
      have := hd.empE
      subst this
      refine ⟨_, (pss_one (ps_ret (pe_ifExp (PW.pt (pw_or (pt_cmpR op_isN1 (pv 0) pe_non (nomark _)) (pw_or1 (pt_val (pe_c c_is_device hr (by omega) (by rfl) (pa_cons (pv 0) pa_nil)))))) (pe_tup pa_nil) (pe_ix ix_tup (pv 0) (pe_un un_neg pe_int) (fun _ _ => rfl))))), ?_⟩
      walk_at "rd"
      exact s_newD (by decide) .nil q
    | dev n as =>
      obtain ⟨t, u, us, rfl, _⟩ := hd.devE
      refine ⟨_, (pss_one (ps_ret (pe_ifExp (PW.pt (pw_or (pt_cmpR op_isN1 (pv 0) pe_non (nomark _)) (pw_or1 (pt_val (pe_c c_is_device hr (by omega) (by rfl) (pa_cons (pv 0) pa_nil)))))) (pe_tup pa_nil) (pe_ix ix_tup (pv 0) (pe_un un_neg pe_int) (fun _ _ => rfl))))), ?_⟩
      walk_at "rd"
      exact s_newD (by decide) .nil q
    | br n ms ps =>
      obtain ⟨t, m, u, us, rfl, ht, hm, hu, hus⟩ := hd.brE
      refine ⟨_, (pss_one (ps_ret (pe_ifExp (PW.pt (pw_or (pt_cmpR op_isN1 (pv 0) pe_non (nomark _)) (pw_or1 (pt_val (pe_c c_is_device hr (by omega) (by rfl) (pa_cons (pv 0) pa_nil)))))) (pe_tup pa_nil) (pe_ix ix_tup (pv 0) (pe_un un_neg pe_int) (fun _ _ => rfl))))), ?_⟩
      walk_at "rd"
      walk_at "rd"
      exact q _ _ .refl (.tup hu hus)
  · unfold encT at hd
    obtain ⟨a, xs, rfl, ha, hs⟩ := hd.tupE
    refine ⟨_, (pss_one (ps_ret (pe_ifExp (PW.pt (pw_or (pt_cmpR op_isN1 (pv 0) pe_non (nomark _)) (pw_or1 (pt_val (pe_c c_is_device hr (by omega) (by rfl) (pa_cons (pv 0) pa_nil)))))) (pe_tup pa_nil) (pe_ix ix_tup (pv 0) (pe_un un_neg pe_int) (fun _ _ => rfl))))), ?_⟩
    walk_at "rd"
    refine isDev_tree (ms := ms) (ps := ps) hd ?_
    walk_at "rd"
    exact q _ _ .refl (by assumption)
end
end Bw

/-! the program: placed_in .. only -/
namespace Bw
open PySem PySem.Spec PyProof.Rows L2
open C8 (Cal pe_c pe_gc)
open StX (pa_star tStar)
open RZ (pi_zipA iZipA)
-- the tactics of this text, by key
local macro_rules | `(tactic| walk_at "nm") => `(tactic| first | (intro hmem; cases hmem; done) | (simp only [List.mem_cons, List.mem_singleton, List.not_mem_nil, or_false, not_or, not_false_eq_true]; done) | (simp only [List.mem_cons, List.mem_singleton, List.not_mem_nil, or_false, not_or]; (repeat' apply And.intro) <;> first | assumption | exact Ne.symm (by assumption) | exact ne_some (by assumption) (by assumption) | exact Ne.symm (ne_some (by assumption) (by assumption))))
local macro_rules | `(tactic| walk_at "hx") => `(tactic| first | assumption | exact Dt.non | exact Dt.int _ | exact Dt.str _ | exact Dt.bl _ | (refine Dt.ext (by assumption) ?_; walk_at "hx") | (refine DtAll.ext (by assumption) ?_; walk_at "hx") | (refine Ext.at0 (by assumption) ?_; walk_at "hx") | (refine Ext.tupC (by assumption) ?_; walk_at "hx") | (refine Ext.atC (by assumption) ?_ (by walk_at "nm"); walk_at "hx"))
local macro_rules | `(tactic| walk_at "dm") => `(tactic| first | exact fun _ h => h | (refine dom_step (by assumption) ?_; walk_at "dm"))
local macro_rules | `(tactic| walk_at "fr") => `(tactic| first | assumption | (refine fr_of (by assumption) ?_; walk_at "dm"))
local macro_rules | `(tactic| walk_at "ex") => `(tactic| first | assumption | exact Ext.refl | exact Ext.mono0 (by assumption) | (refine Ext.then0 ?_ (by assumption); walk_at "ex") | (refine Ext.transC ?_ (by assumption); walk_at "ex") | (refine Ext.c1 ?_ (by assumption) (by walk_at "fr"); walk_at "ex") | (refine Ext.cm ?_ (by assumption) (by simp only [List.mem_cons, true_or, or_true]; done); walk_at "ex"))
local macro_rules | `(tactic| walk_at "r1") => `(tactic| first
  | (with_reducible refine s_var rfl ?_) | (with_reducible refine s_c ?_) | (with_reducible refine s_op ?_) | (with_reducible refine s_un ?_) | (with_reducible refine s_I0 ?_) | (with_reducible refine s_U ?_)
  | (with_reducible refine s_eqI ?_) | (with_reducible refine s_eqS ?_) | (with_reducible refine s_eqB ?_) | (with_reducible refine s_neI ?_) | (with_reducible refine s_neS ?_) | (with_reducible refine s_neB ?_)
  | (with_reducible refine s_isN1 ?_) | (with_reducible refine s_isN0 ?_) | (with_reducible refine s_notN1 ?_) | (with_reducible refine s_notN0 ?_) | (with_reducible refine s_isBl ?_) | (with_reducible refine s_notBl ?_)
  | (with_reducible refine s_test ?_) | (with_reducible refine s_B ?_) | (with_reducible refine s_bl ?_) | (with_reducible refine s_and ?_) | (with_reducible refine s_or ?_) | (with_reducible refine s_not ?_)
  | (with_reducible refine s_andV ?_) | (with_reducible refine s_orV ?_) | (with_reducible refine s_notV ?_) | (with_reducible refine s_ifE ?_) | (with_reducible refine s_chain ?_)
  | (with_reducible refine s_next ?_) | (with_reducible refine s_seq ?_) | (with_reducible refine s_drop ?_) | (with_reducible refine s_ret ?_) | (with_reducible refine s_retN ?_) | (with_reducible refine s_ifS ?_) | (with_reducible refine s_asg ?_)
  | ((with_reducible refine g_name ?_); refine s_name (by first | rfl) ?_) | (with_reducible refine s_parS ?_) | (with_reducible refine s_par ?_) | ((with_reducible refine g_nx ?_); refine s_nx rfl ?_) | (with_reducible refine s_gsub ?_) | (with_reducible refine s_gnil ?_) | (with_reducible refine s_gcons ?_)
  | (with_reducible refine s_call ?_) | (with_reducible refine s_cb ?_) | (with_reducible refine s_nil ?_) | (with_reducible refine s_cons ?_) | (with_reducible refine s_tupT ?_) | (with_reducible refine s_lstT ?_)
  | (with_reducible refine s_sl ?_) | (with_reducible refine s_nopart ?_) | (with_reducible refine s_part ?_) | (with_reducible refine s_int ?_) | (with_reducible refine s_bm ?_) | (with_reducible refine s_dget ?_) | (with_reducible refine s_dputS ?_)
  | (with_reducible refine s_forS ?_) | (with_reducible refine s_lc ?_) | (with_reducible refine s_iTup ?_) | (with_reducible refine s_iList ?_) | (with_reducible refine s_iRng1 ?_) | (with_reducible refine s_iRng2 ?_) | (with_reducible refine s_tYes ?_) | (with_reducible refine s_intI ?_) | (with_reducible refine s_intB ?_) | (with_reducible refine s_min2 ?_) | (with_reducible refine s_max2 ?_) | (with_reducible refine s_abs ?_) | (with_reducible refine s_revL ?_) | (with_reducible refine s_iEnumT ?_) | (with_reducible refine s_iEnum ?_) | (with_reducible refine s_iZipA ?_) | (with_reducible refine s_iZipM ?_) | (with_reducible refine s_iZip ?_) | (with_reducible refine s_iStr ?_) | (with_reducible refine s_star ?_) | (with_reducible refine s_lc2 ?_) | (with_reducible refine s_dc ?_) | (with_reducible refine s_bm ?_)
  | (with_reducible refine isi_int _ ?_) | (with_reducible refine isi_intB _ ?_) | (with_reducible refine isi_str _ ?_) | (with_reducible refine isi_non ?_)
  | (with_reducible refine iteT ?_) | (with_reducible refine iteF ?_) | (with_reducible refine iteNT ?_) | (with_reducible refine iteNF ?_))
local macro_rules | `(tactic| walk_at "r2") => `(tactic| first
  | ((with_reducible refine g_ixT ?_); first | (refine s_ixT (by walk_at "hx") rfl ?_) | (refine s_ixDs (by walk_at "hx") rfl ?_) | (refine s_ixDi (by walk_at "hx") rfl ?_) | (refine s_ixD (by walk_at "hx") rfl (fun _ _ => ?_)) | (refine s_ixD0s (by walk_at "hx") ?_))
  | ((with_reducible refine g_form ?_); first | (refine isDev_non ?_) | (refine isBr_non ?_) | (refine isDev_dev (by walk_at "hx") ?_) | (refine isDev_br (by walk_at "hx") ?_) | (refine isBr_dev (by walk_at "hx") ?_) | (refine isBr_br (by walk_at "hx") ?_))
  | ((with_reducible refine g_isi ?_); first | (with_reducible refine isi_dt (by walk_at "hx") ?_) | (with_reducible refine isi_tup (by walk_at "hx") ?_))
  | ((with_reducible refine g_len ?_); first | (with_reducible refine s_lenL (by walk_at "hx") ?_) | (with_reducible refine s_lenT (by walk_at "hx") ?_) | (with_reducible refine s_lenD (by walk_at "hx") ?_))
  | ((with_reducible refine g_ty ?_); first | (refine s_tyK (by assumption) ?_) | (with_reducible refine s_tyL (by walk_at "hx") ?_))
  | ((with_reducible refine g_tix ?_); first | (refine s_idx0 (by assumption) ?_) | (refine s_idx1 (by assumption) ?_))
  | ((with_reducible refine g_enT ?_); with_reducible refine s_enT (by walk_at "hx") ?_) | ((with_reducible refine g_enL ?_); with_reducible refine s_enL (by walk_at "hx") ?_)
  | ((with_reducible refine g_za ?_); first | (with_reducible refine s_zaT2 (by walk_at "hx") (by walk_at "hx") ?_) | (with_reducible refine s_zaL (by walk_at "hx") (by walk_at "hx") ?_))
  | ((with_reducible refine g_zm ?_); first | (with_reducible refine s_zmT (by walk_at "hx") (by walk_at "hx") ?_) | (with_reducible refine s_zmL (by walk_at "hx") (by walk_at "hx") ?_))
  | ((with_reducible refine g_zl ?_); with_reducible refine s_zl (by walk_at "hx") (by walk_at "hx") ?_)
  | ((with_reducible refine g_itT ?_); with_reducible refine s_itT (by walk_at "hx") ?_) | ((with_reducible refine g_itL ?_); with_reducible refine s_itL (by walk_at "hx") ?_)
  | ((with_reducible refine g_gtup ?_); refine s_gtup (by walk_at "hx") rfl ?_))
local macro_rules | `(tactic| walk_at "rd") => `(tactic| repeat (first | walk_at "r1" | walk_at "r2"))
local macro_rules | `(tactic| walk_at "sz") => `(tactic| (simp only [List.length_cons, List.length_nil, List.length_append, List.length_map, sizeLine_eq] <;> omega))
section
variable {P : Program} {w : World} {K : PySem.W.Frag} {mg : Str → Option Value} {base : Heap} {kd : Addr} {k : Nat}
/-! placed_in -/
abbrev sx_placed_in : Stmt := top 17
abbrev N_placed_in : List Str := ["parts", "above", "found", "slot", "part", "path"]
theorem sc_placed_in : FnScope N_placed_in ["parts", "above"] (defScope sx_placed_in) := ⟨rfl, rfl, rfl, by decide +kernel, rfl, by decide +kernel, by decide +kernel⟩
theorem ok_placed_in0 (T : At K mg "placed_in" sx_placed_in ["parts", "above"]) : Cal P w K mg base (k + 1) "placed_in" (spPlacedIn 0) [] := by
  refine T.ok sc_placed_in (fun vs H Q E h => ?_) (fun f cdv A outer s H vs Q E hr h => ?_)
  · obtain ⟨v, u, ps, ab, rfl, _⟩ := h
    rfl
  obtain ⟨v, u, ps, ab, rfl, _, _, _, _, h | h, _⟩ := h <;> omega
theorem ok_placed_in {d : Nat} (bi : Bi mg kd) (T : At K mg "placed_in" sx_placed_in ["parts", "above"]) (c_parts_of : Cal P w K mg base k "parts_of" spPartsOf []) (c_placed_in : Cal P w K mg base k "placed_in" (spPlacedIn d) []) : Cal P w K mg base (k + 1) "placed_in" (spPlacedIn (d + 1)) [] := by
  refine T.ok sc_placed_in (fun vs H Q E h => ?_) (fun f cdv A outer s H vs Q E hr h => ?_)
  · obtain ⟨v, u, ps, ab, rfl, _⟩ := h
    rfl
  obtain ⟨v, u, ps, ab, rfl, hv, hu, hab, hcn, hdp, q⟩ := h
  have nd := sc_placed_in.nd
  obtain ⟨a, xs, rfl, ha, hs⟩ := hv.tupE
  refine ⟨_, (pss_cons (ps_set (i := 2) nd rfl (Or.inl rfl) (pe_lst pa_nil))
      (pss_cons (ps_for PassesOwn.never rfl (pi_enumT (by rfl) bi.enumerate (pa_cons (pv 0) pa_nil)) (pg_tup rfl (pgs_cons (pg_name (i := 3) nd rfl (Or.inl rfl)) (pgs_cons (pg_name (i := 4) nd rfl (Or.inl rfl)) pgs_nil))) (pss_one (ps_if (pt_cmpR op_notN1 (pv 4) pe_non (nomark _)) (pss_cons (ps_set (i := 5) nd rfl (Or.inl rfl) (pe_tup (pa_star (pv 1) (pa_cons (pv 3) pa_nil))))
      (pss_cons (ps_expr (pe_bm PySem.F.plainAttrs_list PySem.F.slot_list_append PySem.F.type_list_append mt_append (pv 2) (pa_cons (pe_tup (pa_cons (pv 5) (pa_cons (pv 4) pa_nil))) pa_nil)))
      (pss_one (ps_expr (pe_bm PySem.F.plainAttrs_list PySem.F.slot_list_extend PySem.F.type_list_extend mt_extend (pv 2) (pa_cons (pe_c c_placed_in hr (by omega) (by rfl) (pa_cons (pe_c c_parts_of hr (by omega) (by rfl) (pa_cons (pv 4) pa_nil)) (pa_cons (pv 5) pa_nil))) pa_nil)))))) pss_nil)))
      (pss_one (ps_ret (pv 2))))), ?_⟩
  walk_at "rd"
  refine s_newX (by walk_at "sz") (fun F H1 hF e1 h1 => ?_)
  walk_at "rd"
  have hxl : xs.length = ps.length := by rw [hs.len, encs_len]
  have hpl := len_cnts ps
  refine f_W walk_enumT (fun i σ H' => ∃ x y z ys L, σ = [some (.ref a), some u, some (.ref F), x, y, z] ∧ Ext [] H H' ∧ H' F = some (.lst ys) ∧ DtAll H' ys L ∧ IsPl L (plss (ps.take i))) ⟨_, _, _, _, _, rfl, e1, h1, .nil, .nil⟩ (fun i σ H' _ h => SqT.of (h.elim fun _ h => h.elim fun _ h => h.elim fun _ h => h.elim fun _ h => h.elim fun _ h => h.2.1.tup _ _ ha)) (fun i x σ H2 H3 hi hP y => ?_) (fun σ H' hP => ?_)
  · obtain ⟨x', y', z', ys, L, rfl, e, hl, hL, hpl2⟩ := hP
    obtain ⟨T2, x, z, rfl, hT, e2, hT2, hx, hz⟩ := YPair.get y
    cases hx
    obtain ⟨d, hd', hxd⟩ := hs.getV hz
    obtain ⟨p, hp, rfl⟩ := encs_at hd'
    have hpm := mem_at hp
    have hb1 := dep_mem hpm
    have hb2 := cnt_mem hpm
    have hb3 := cnts_kids p
    have hlen : ys.length ≤ 1000 := by
      rw [hL.len, hpl2.len]
      have := plss_len (ps.take i)
      have := cnts_take ps i
      omega
    have hFT : F ≠ T2 := ne_some hl hT
    walk_at "rd"
    by_cases hp0 : p = .emp
    · subst hp0
      have := hxd.empE
      subst this
      walk_at "rd"
      refine ⟨_, _, _, ys, L, rfl, (by walk_at "ex"), (by walk_at "hx"), (by walk_at "hx"), ?_⟩
      rw [plss_take hp]
      show IsPl L (_ ++ [])
      rw [List.append_nil]
      exact hpl2
    · have hxr : ∃ t, z = .ref t := by
        cases p with
        | emp => exact absurd rfl hp0
        | dev n as => obtain ⟨t, _, _, e, _⟩ := hxd.devE; exact ⟨t, e⟩
        | br n ms ps => obtain ⟨t, _, _, _, e, _⟩ := hxd.brE; exact ⟨t, e⟩
      obtain ⟨t, rfl⟩ := hxr
      walk_at "rd"
      refine s_starD (show Dt H3 u _ by walk_at "hx") (fun us hus => ?_)
      walk_at "rd"
      refine s_newD (ds := ab ++ [.int i]) (by rw [List.length_append, hus.len, sizeLine_eq]; show _ + 1 ≤ _; omega) (hus.append (.one (.int _))) (fun pv H4 e4 hpv => ?_)
      walk_at "rd"
      refine s_newD (by walk_at "sz") (.two hpv (hxd.e0 (by walk_at "ex"))) (fun pp H5 e5 hpp => ?_)
      walk_at "rd"
      refine s_append (by walk_at "hx") (by rw [sizeLine_eq]; omega) (fun H6 e6 h6 => ?_)
      walk_at "rd"
      refine ⟨_, _, _, rfl, (hxd.e0 (by walk_at "ex")), .inl ⟨p, rfl, rfl⟩, fun v' H7 e7 hv' => ?_⟩
      walk_at "rd"
      have hdp' : deps p.kids + 2 ≤ d ∨ p.kids = [] ∧ 1 ≤ d := by
        rcases hdp with hdp | ⟨hdp, _⟩
        · cases p with
          | emp => exact absurd rfl hp0
          | dev n as => exact .inr ⟨rfl, by omega⟩
          | br n ms ps' =>
            refine .inl ?_
            have : dep (.br n ms ps') = deps ps' + 1 := rfl
            show deps ps' + 2 ≤ d
            omega
        · rw [hdp] at hpm; cases hpm
      refine ⟨_, _, _, _, rfl, hv', hpv.ext (M := [F]) (by walk_at "ex"), by rw [List.length_append]; show _ + 1 + d ≤ 100; omega, by omega, hdp', fun p8 xs8 L8 H8 e8 hp8 h8 hL8 hPl8 => ?_⟩
      walk_at "rd"
      refine s_extend (show H8 F = _ by walk_at "hx") h8 (by
        rw [List.length_append, hL8.len, hPl8.len, sizeLine_eq]
        have := plss_len p.kids
        show _ + 1 + _ ≤ _
        omega) (fun H9 e9 h9 => ?_)
      walk_at "rd"
      refine ⟨_, _, _, _, _, rfl, (by walk_at "ex"), h9, ((hL.ext (M := [F]) (by walk_at "ex")).append (.one (hpp.ext (M := [F]) (by walk_at "ex")))).append (hL8.ext (M := [F]) (by walk_at "ex")), ?_⟩
      rw [plss_take hp, pls_kids hp0, show p :: plss p.kids = [p] ++ plss p.kids from rfl, ← List.append_assoc]
      exact (hpl2.append (.cons _ p .nil)).append hPl8
  · obtain ⟨x', y', z', ys, L, rfl, e, hl, hL, hpl2⟩ := hP
    walk_at "rd"
    rw [hxl, List.take_length] at hpl2
    exact q _ _ _ _ (by walk_at "ex") hF hl hL hpl2
end
end Bw

/-! the program: placed .. only, power_from, area_sizes -/
namespace Bw
open PySem PySem.Spec PyProof.Rows L2
open C8 (Cal pe_c pe_gc)
open StX (pa_star tStar)
open RZ (pi_zipA iZipA)
-- the tactics of this text, by key
local macro_rules | `(tactic| walk_at "nm") => `(tactic| first | (intro hmem; cases hmem; done) | (simp only [List.mem_cons, List.mem_singleton, List.not_mem_nil, or_false, not_or, not_false_eq_true]; done) | (simp only [List.mem_cons, List.mem_singleton, List.not_mem_nil, or_false, not_or]; (repeat' apply And.intro) <;> first | assumption | exact Ne.symm (by assumption) | exact ne_some (by assumption) (by assumption) | exact Ne.symm (ne_some (by assumption) (by assumption))))
local macro_rules | `(tactic| walk_at "hx") => `(tactic| first | assumption | exact Dt.non | exact Dt.int _ | exact Dt.str _ | exact Dt.bl _ | (refine Dt.ext (by assumption) ?_; walk_at "hx") | (refine DtAll.ext (by assumption) ?_; walk_at "hx") | (refine Ext.at0 (by assumption) ?_; walk_at "hx") | (refine Ext.tupC (by assumption) ?_; walk_at "hx") | (refine Ext.atC (by assumption) ?_ (by walk_at "nm"); walk_at "hx"))
local macro_rules | `(tactic| walk_at "dm") => `(tactic| first | exact fun _ h => h | (refine dom_step (by assumption) ?_; walk_at "dm"))
local macro_rules | `(tactic| walk_at "fr") => `(tactic| first | assumption | (refine fr_of (by assumption) ?_; walk_at "dm"))
local macro_rules | `(tactic| walk_at "ex") => `(tactic| first | assumption | exact Ext.refl | exact Ext.mono0 (by assumption) | (refine Ext.then0 ?_ (by assumption); walk_at "ex") | (refine Ext.transC ?_ (by assumption); walk_at "ex") | (refine Ext.c1 ?_ (by assumption) (by walk_at "fr"); walk_at "ex") | (refine Ext.cm ?_ (by assumption) (by simp only [List.mem_cons, true_or, or_true]; done); walk_at "ex"))
local macro_rules | `(tactic| walk_at "r1") => `(tactic| first
  | (with_reducible refine s_var rfl ?_) | (with_reducible refine s_c ?_) | (with_reducible refine s_op ?_) | (with_reducible refine s_un ?_) | (with_reducible refine s_I0 ?_) | (with_reducible refine s_U ?_)
  | (with_reducible refine s_eqI ?_) | (with_reducible refine s_eqS ?_) | (with_reducible refine s_eqB ?_) | (with_reducible refine s_neI ?_) | (with_reducible refine s_neS ?_) | (with_reducible refine s_neB ?_)
  | (with_reducible refine s_isN1 ?_) | (with_reducible refine s_isN0 ?_) | (with_reducible refine s_notN1 ?_) | (with_reducible refine s_notN0 ?_) | (with_reducible refine s_isBl ?_) | (with_reducible refine s_notBl ?_)
  | (with_reducible refine s_test ?_) | (with_reducible refine s_B ?_) | (with_reducible refine s_bl ?_) | (with_reducible refine s_and ?_) | (with_reducible refine s_or ?_) | (with_reducible refine s_not ?_)
  | (with_reducible refine s_andV ?_) | (with_reducible refine s_orV ?_) | (with_reducible refine s_notV ?_) | (with_reducible refine s_ifE ?_) | (with_reducible refine s_chain ?_)
  | (with_reducible refine s_next ?_) | (with_reducible refine s_seq ?_) | (with_reducible refine s_drop ?_) | (with_reducible refine s_ret ?_) | (with_reducible refine s_retN ?_) | (with_reducible refine s_ifS ?_) | (with_reducible refine s_asg ?_)
  | ((with_reducible refine g_name ?_); refine s_name (by first | rfl) ?_) | (with_reducible refine s_parS ?_) | (with_reducible refine s_par ?_) | ((with_reducible refine g_nx ?_); refine s_nx rfl ?_) | (with_reducible refine s_gsub ?_) | (with_reducible refine s_gnil ?_) | (with_reducible refine s_gcons ?_)
  | (with_reducible refine s_call ?_) | (with_reducible refine s_cb ?_) | (with_reducible refine s_nil ?_) | (with_reducible refine s_cons ?_) | (with_reducible refine s_tupT ?_) | (with_reducible refine s_lstT ?_)
  | (with_reducible refine s_sl ?_) | (with_reducible refine s_nopart ?_) | (with_reducible refine s_part ?_) | (with_reducible refine s_int ?_) | (with_reducible refine s_bm ?_) | (with_reducible refine s_dget ?_) | (with_reducible refine s_dputS ?_)
  | (with_reducible refine s_forS ?_) | (with_reducible refine s_lc ?_) | (with_reducible refine s_iTup ?_) | (with_reducible refine s_iList ?_) | (with_reducible refine s_iRng1 ?_) | (with_reducible refine s_iRng2 ?_) | (with_reducible refine s_tYes ?_) | (with_reducible refine s_intI ?_) | (with_reducible refine s_intB ?_) | (with_reducible refine s_min2 ?_) | (with_reducible refine s_max2 ?_) | (with_reducible refine s_abs ?_) | (with_reducible refine s_revL ?_) | (with_reducible refine s_iEnumT ?_) | (with_reducible refine s_iEnum ?_) | (with_reducible refine s_iZipA ?_) | (with_reducible refine s_iZipM ?_) | (with_reducible refine s_iZip ?_) | (with_reducible refine s_iStr ?_) | (with_reducible refine s_star ?_) | (with_reducible refine s_lc2 ?_) | (with_reducible refine s_dc ?_) | (with_reducible refine s_bm ?_)
  | (with_reducible refine isi_int _ ?_) | (with_reducible refine isi_intB _ ?_) | (with_reducible refine isi_str _ ?_) | (with_reducible refine isi_non ?_)
  | (with_reducible refine iteT ?_) | (with_reducible refine iteF ?_) | (with_reducible refine iteNT ?_) | (with_reducible refine iteNF ?_))
local macro_rules | `(tactic| walk_at "r2") => `(tactic| first
  | ((with_reducible refine g_ixT ?_); first | (refine s_ixT (by walk_at "hx") rfl ?_) | (refine s_ixDs (by walk_at "hx") rfl ?_) | (refine s_ixDi (by walk_at "hx") rfl ?_) | (refine s_ixD (by walk_at "hx") rfl (fun _ _ => ?_)) | (refine s_ixD0s (by walk_at "hx") ?_))
  | ((with_reducible refine g_form ?_); first | (refine isDev_non ?_) | (refine isBr_non ?_) | (refine isDev_dev (by walk_at "hx") ?_) | (refine isDev_br (by walk_at "hx") ?_) | (refine isBr_dev (by walk_at "hx") ?_) | (refine isBr_br (by walk_at "hx") ?_))
  | ((with_reducible refine g_isi ?_); first | (with_reducible refine isi_dt (by walk_at "hx") ?_) | (with_reducible refine isi_tup (by walk_at "hx") ?_))
  | ((with_reducible refine g_len ?_); first | (with_reducible refine s_lenL (by walk_at "hx") ?_) | (with_reducible refine s_lenT (by walk_at "hx") ?_) | (with_reducible refine s_lenD (by walk_at "hx") ?_))
  | ((with_reducible refine g_ty ?_); first | (refine s_tyK (by assumption) ?_) | (with_reducible refine s_tyL (by walk_at "hx") ?_))
  | ((with_reducible refine g_tix ?_); first | (refine s_idx0 (by assumption) ?_) | (refine s_idx1 (by assumption) ?_))
  | ((with_reducible refine g_enT ?_); with_reducible refine s_enT (by walk_at "hx") ?_) | ((with_reducible refine g_enL ?_); with_reducible refine s_enL (by walk_at "hx") ?_)
  | ((with_reducible refine g_za ?_); first | (with_reducible refine s_zaT2 (by walk_at "hx") (by walk_at "hx") ?_) | (with_reducible refine s_zaL (by walk_at "hx") (by walk_at "hx") ?_))
  | ((with_reducible refine g_zm ?_); first | (with_reducible refine s_zmT (by walk_at "hx") (by walk_at "hx") ?_) | (with_reducible refine s_zmL (by walk_at "hx") (by walk_at "hx") ?_))
  | ((with_reducible refine g_zl ?_); with_reducible refine s_zl (by walk_at "hx") (by walk_at "hx") ?_)
  | ((with_reducible refine g_itT ?_); with_reducible refine s_itT (by walk_at "hx") ?_) | ((with_reducible refine g_itL ?_); with_reducible refine s_itL (by walk_at "hx") ?_)
  | ((with_reducible refine g_gtup ?_); refine s_gtup (by walk_at "hx") rfl ?_))
local macro_rules | `(tactic| walk_at "rd") => `(tactic| repeat (first | walk_at "r1" | walk_at "r2"))
local macro_rules | `(tactic| walk_at "sz") => `(tactic| (simp only [List.length_cons, List.length_nil, List.length_append, List.length_map, sizeLine_eq] <;> omega))
section
variable {P : Program} {w : World} {K : PySem.W.Frag} {mg : Str → Option Value} {base : Heap} {kd : Addr} {k : Nat}
/-! placed -/
abbrev sx_placed : Stmt := top 18
abbrev N_placed : List Str := ["tree"]
theorem sc_placed : FnScope N_placed ["tree"] (defScope sx_placed) := ⟨rfl, rfl, rfl, by decide +kernel, rfl, by decide +kernel, by decide +kernel⟩
theorem ok_placed (bi : Bi mg kd) (T : At K mg "placed" sx_placed ["tree"]) (c_parts_of : Cal P w K mg base k "parts_of" spPartsOf []) (c_placed_in : Cal P w K mg base k "placed_in" (spPlacedIn 8) []) : Cal P w K mg base (k + 1) "placed" spPlaced [] := by
  refine T.ok sc_placed (fun vs H Q E h => ?_) (fun f cdv A outer s H vs Q E hr h => ?_)
  · obtain ⟨v, ms, ps, rfl, _⟩ := h
    rfl
  obtain ⟨v, ms, ps, rfl, hv, hcn, hdp, q⟩ := h
  have nd := sc_placed.nd
  refine ⟨_, (pss_one (ps_ret (pe_callTy (call_tupR (K := K) rfl) (by rfl) bi.tuple (by decide +kernel) (pa_cons (pe_c c_placed_in hr (by omega) (by rfl) (pa_cons (pe_c c_parts_of hr (by omega) (by rfl) (pa_cons (pv 0) pa_nil)) (pa_cons (pe_tup pa_nil) pa_nil))) pa_nil)))), ?_⟩
  walk_at "rd"
  refine ⟨_, _, _, rfl, hv, .inr ⟨ms, rfl⟩, fun v1 H1 e1 h1 => ?_⟩
  walk_at "rd"
  refine s_newD (by walk_at "sz") .nil (fun v2 H2 e2 h2 => ?_)
  walk_at "rd"
  refine ⟨_, _, _, _, rfl, h1.e0 (by walk_at "ex"), h2, (by decide), hcn, .inl (by omega), fun p xs L H3 e3 hp h3 hL hPl => ?_⟩
  walk_at "rd"
  exact s_tupOfD h3 hL fun v H4 e4 h4 => q _ _ _ (by walk_at "ex") h4 hPl
/-! with_parts -/
abbrev sx_with_parts : Stmt := top 19
abbrev N_with_parts : List Str := ["part", "parts"]
theorem sc_with_parts : FnScope N_with_parts ["part", "parts"] (defScope sx_with_parts) := ⟨rfl, rfl, rfl, by decide +kernel, rfl, by decide +kernel, by decide +kernel⟩
theorem ok_with_parts (bi : Bi mg kd) (T : At K mg "with_parts" sx_with_parts ["part", "parts"]) : Cal P w K mg base (k + 1) "with_parts" spWithParts [] := by
  refine T.ok sc_with_parts (fun vs H Q E h => ?_) (fun f cdv A outer s H vs Q E hr h => ?_)
  · obtain ⟨v, u, ds, e, rfl, _⟩ := h
    rfl
  obtain ⟨v, u, ds, e, rfl, hv, hu, hl, q⟩ := h
  have nd := sc_with_parts.nd
  refine ⟨_, (pss_one (ps_ret (pe_tup (pa_star (pe_slice sl_tupA (pv 0) po_none (po_some (pe_un un_neg pe_int))) (pa_cons (pv 1) pa_nil))))), ?_⟩
  walk_at "rd"
  refine s_slD hv (fun v1 H1 e1 h1 => ?_)
  refine s_starD h1 (fun xs hxs => ?_)
  walk_at "rd"
  exact s_newD (by
    rw [List.length_append, hxs.len, sizeLine_eq]
    have : (cutD ds none (some (-1))).length ≤ ds.length := by
      unfold cutD
      rw [List.length_take, List.length_drop]
      omega
    show _ + 1 ≤ _
    omega) (hxs.append (.one (hu.e0 (by walk_at "ex")))) (fun v2 H2 e2 h2 => q _ _ (by walk_at "ex") h2)
/-! part_only -/
abbrev sx_part_only : Stmt := top 20
abbrev N_part_only : List Str := ["part", "names", "one"]
theorem sc_part_only : FnScope N_part_only ["part", "names"] (defScope sx_part_only) := ⟨rfl, rfl, rfl, by decide +kernel, rfl, by decide +kernel, by decide +kernel⟩
theorem ok_part_only0 (T : At K mg "part_only" sx_part_only ["part", "names"]) : Cal P w K mg base (k + 1) "part_only" (spPartOnly 0) [] := by
  refine T.ok sc_part_only (fun vs H Q E h => ?_) (fun f cdv A outer s H vs Q E hr h => ?_)
  · obtain ⟨v, u, ns, d, d', rfl, _⟩ := h
    rfl
  obtain ⟨v, u, ns, d, d', rfl, _, _, ⟨p, _, _, h, _⟩ | ⟨ms, ps, _, _, h, _⟩, _⟩ := h <;> omega
theorem ok_part_only {dd : Nat} (bi : Bi mg kd) (T : At K mg "part_only" sx_part_only ["part", "names"]) (c_is_device : Cal P w K mg base k "is_device" (spForm "device" 3) []) (c_with_parts : Cal P w K mg base k "with_parts" spWithParts [])
    (c_parts_of : Cal P w K mg base k "parts_of" spPartsOf []) (c_part_only : Cal P w K mg base k "part_only" (spPartOnly dd) []) : Cal P w K mg base (k + 1) "part_only" (spPartOnly (dd + 1)) [] := by
  refine T.ok sc_part_only (fun vs H Q E h => ?_) (fun f cdv A outer s H vs Q E hr h => ?_)
  · obtain ⟨v, u, ns, d, d', rfl, _⟩ := h
    rfl
  have nd := sc_part_only.nd
  obtain ⟨v, u, ns, d, d', rfl, hu, hv, h, q⟩ := h
  -- the case of an inner node
  have inner : ∀ (t : Addr) (ps : List Part) (ds : List PyData), v = .ref t → d = .tuple (ds ++ [.tuple (encs ps)]) → d' = .tuple (ds ++ [.tuple (encs (onlyPs ns ps))]) → cutD (ds ++ [.tuple (encs ps)]) none (some (-1)) = ds → ds.length ≤ 5 → Node d ps → (∀ p ∈ ps, dep p < dd ∧ cnt p ≤ 1000) → ps.length ≤ 1000 →
      (∀ (Q : VK) H, Dt H v d → Q (.bl false) H → spForm "device" 3 [v] H Q C8.E0) → ∃ t, PSs (cxOf CX0 P w K mg base N_part_only "part_only" (defScope sx_part_only) f cdv A outer s H E).nox (defBody sx_part_only) t ∧ t ⟨fun _ H' => Q .non H', Q, fun _ _ => False, fun _ _ => False⟩ (L2.start N_part_only [v, V.ref u]) H := by
    intro t ps ds hvt hd hd' hcut hdl hN hps hpl hdev
    subst hvt
    refine ⟨_, (pss_cons (ps_if (pt_val (pe_c c_is_device hr (by omega) (by rfl) (pa_cons (pv 0) pa_nil))) (pss_one (ps_ret (pe_ifExp (pt_cmpR op_in_seq (pe_ix ix_tup (pv 0) pe_int (fun _ _ => rfl)) (pv 1) (by rfl)) (pv 0) pe_non))) pss_nil)
      (pss_one (ps_ret (pe_ifExp (pt_cmpR op_isN1 (pv 0) pe_non (nomark _)) pe_non (pe_c c_with_parts hr (by omega) (by rfl) (pa_cons (pv 0) (pa_cons (pe_callTy (call_tupR (K := K) rfl) (by rfl) bi.tuple (by decide +kernel) (pa_cons (pe_lc (own := [("one", 2)]) (g := gName 2) (by rfl) nd (pi_tup (pe_c c_parts_of hr (by omega) (by rfl) (pa_cons (pv 0) pa_nil))) (blkOk_by (own := [("one", 2)]) (N := N_part_only) (sc := defScope sx_part_only) (by decide +kernel)) (fun _ _ _ _ _ => (pg_name (i := 2) nd rfl (Or.inl rfl))) (fun _ _ _ _ _ => pts_nil) (fun _ _ _ _ _ => (pe_c c_part_only hr (by omega) (by rfl) (pa_cons (pv 2) (pa_cons (pv 1) pa_nil))))) pa_nil)) pa_nil))))))), ?_⟩
    walk_at "rd"
    refine hdev _ _ hv ?_
    walk_at "rd"
    refine ⟨_, _, _, rfl, hv, hN, fun v1 H1 e1 h1 => ?_⟩
    obtain ⟨a, xs, rfl, ha, hs⟩ := h1.tupE
    have hxl : xs.length = ps.length := by rw [hs.len, encs_len]
    walk_at "rd"
    refine lc_W walk_tup [] (fun i acc H' => DtAll H' acc (((ps.take i).map (onlyP ns)).map Part.enc)) (fun H' e => SqT.of (e.tup _ _ ha)) (fun _ _ => .nil) (fun i x D acc H2 H3 hi hD e hacc hl hR y => ?_) (fun D acc H' hD e hacc hl hR => ?_)
    · obtain ⟨rfl, hx⟩ := y
      obtain ⟨d2, hd2, hxd⟩ := hs.getV hx
      obtain ⟨p, hp, rfl⟩ := encs_at hd2
      walk_at "rd"
      refine ⟨rfl, ?_⟩
      walk_at "rd"
      refine ⟨_, _, ns, _, _, rfl, (by walk_at "hx"), hxd.e0 (by walk_at "ex"), .inl ⟨p, rfl, rfl, (hps p (mem_at hp)).1, (hps p (mem_at hp)).2⟩, fun v' H4 e4 h4 => ?_⟩
      refine lc_put hD (by walk_at "ex") (by walk_at "hx") hl (by omega) (fun H5 e5 => ?_)
      rw [take1 hp, List.map_append, List.map_append]
      exact (hR.ext (M := [D]) (by walk_at "ex")).append (.one (h4.ext e5))
    · rw [hxl, List.take_length] at hR
      walk_at "rd"
      refine s_tupOfD hacc hR (fun v2 H4 e4 h4 => ?_)
      walk_at "rd"
      refine ⟨_, _, _, _, rfl, (by rw [← hd]; exact hv.e0 (by walk_at "ex")), h4, by rw [List.length_append]; show _ + 1 ≤ 10; omega, fun v3 H5 e5 h5 => q _ _ (by walk_at "ex") ?_⟩
      rw [hcut, ← onlyPs_map, ← encs_map] at h5
      rw [hd']
      exact h5
  rcases h with ⟨p, rfl, rfl, hdp, hcn⟩ | ⟨ms, ps, rfl, rfl, hdp, hcn⟩
  · cases p with
    | emp =>
      have := hv.empE
      subst this
      refine ⟨_, (pss_cons (ps_if (pt_val (pe_c c_is_device hr (by omega) (by rfl) (pa_cons (pv 0) pa_nil))) (pss_one (ps_ret (pe_ifExp (pt_cmpR op_in_seq (pe_ix ix_tup (pv 0) pe_int (fun _ _ => rfl)) (pv 1) (by rfl)) (pv 0) pe_non))) pss_nil)
      (pss_one (ps_ret (pe_ifExp (pt_cmpR op_isN1 (pv 0) pe_non (nomark _)) pe_non (pe_c c_with_parts hr (by omega) (by rfl) (pa_cons (pv 0) (pa_cons (pe_callTy (call_tupR (K := K) rfl) (by rfl) bi.tuple (by decide +kernel) (pa_cons (pe_lc (own := [("one", 2)]) (g := gName 2) (by rfl) nd (pi_tup (pe_c c_parts_of hr (by omega) (by rfl) (pa_cons (pv 0) pa_nil))) (blkOk_by (own := [("one", 2)]) (N := N_part_only) (sc := defScope sx_part_only) (by decide +kernel)) (fun _ _ _ _ _ => (pg_name (i := 2) nd rfl (Or.inl rfl))) (fun _ _ _ _ _ => pts_nil) (fun _ _ _ _ _ => (pe_c c_part_only hr (by omega) (by rfl) (pa_cons (pv 2) (pa_cons (pv 1) pa_nil))))) pa_nil)) pa_nil))))))), ?_⟩
      walk_at "rd"
      exact q _ _ .refl .non
    | dev n as =>
      obtain ⟨t, u2, us, rfl, ht, hu2, hus⟩ := hv.devE
      refine ⟨_, (pss_cons (ps_if (pt_val (pe_c c_is_device hr (by omega) (by rfl) (pa_cons (pv 0) pa_nil))) (pss_one (ps_ret (pe_ifExp (pt_cmpR op_in_seq (pe_ix ix_tup (pv 0) pe_int (fun _ _ => rfl)) (pv 1) (by rfl)) (pv 0) pe_non))) pss_nil)
      (pss_one (ps_ret (pe_ifExp (pt_cmpR op_isN1 (pv 0) pe_non (nomark _)) pe_non (pe_c c_with_parts hr (by omega) (by rfl) (pa_cons (pv 0) (pa_cons (pe_callTy (call_tupR (K := K) rfl) (by rfl) bi.tuple (by decide +kernel) (pa_cons (pe_lc (own := [("one", 2)]) (g := gName 2) (by rfl) nd (pi_tup (pe_c c_parts_of hr (by omega) (by rfl) (pa_cons (pv 0) pa_nil))) (blkOk_by (own := [("one", 2)]) (N := N_part_only) (sc := defScope sx_part_only) (by decide +kernel)) (fun _ _ _ _ _ => (pg_name (i := 2) nd rfl (Or.inl rfl))) (fun _ _ _ _ _ => pts_nil) (fun _ _ _ _ _ => (pe_c c_part_only hr (by omega) (by rfl) (pa_cons (pv 2) (pa_cons (pv 1) pa_nil))))) pa_nil)) pa_nil))))))), ?_⟩
      walk_at "rd"
      refine s_inS hu ?_
      walk_at "rd"
      refine ifd (fun c => ?_) (fun c => ?_)
      · walk_at "rd"
        refine q _ _ .refl ?_
        show Dt H _ (Part.enc (if n ∈ ns then .dev n as else .emp))
        rw [if_pos c]
        exact hv
      · walk_at "rd"
        refine q _ _ .refl ?_
        show Dt H _ (Part.enc (if n ∈ ns then .dev n as else .emp))
        rw [if_neg c]
        exact .non
    | br n ms ps =>
      obtain ⟨t, m, u2, us, rfl, ht, hm, hu2, hus⟩ := hv.brE
      have hc : cnts ps + 1 ≤ cnt (.br n ms ps) := cnts_kids (.br n ms ps)
      have hl := len_cnts ps
      have hd : deps ps + 1 < dd + 1 := hdp
      refine inner t ps [.str "bridge", .str n, .tuple (ms.map .str)] rfl (by unfold Part.enc; rfl) (by unfold onlyP Part.enc; rfl) rfl (by walk_at "sz") (.inl ⟨_, rfl, rfl⟩) (fun p hp => ?_) (by omega) (fun Q H hh q => isDev_br hh q)
      have := dep_mem hp
      have := cnt_mem hp
      omega
  · unfold encT at hv
    obtain ⟨t, xs, rfl, _⟩ := hv.tupE
    have hl := len_cnts ps
    refine inner t ps [.str "tree", .tuple (ms.map .str)] rfl rfl rfl rfl (by walk_at "sz") (.inr ⟨ms, rfl⟩) (fun p hp => ?_) (by omega) (fun Q H hh q => isDev_tree hh q)
    have := dep_mem hp
    have := cnt_mem hp
    omega
/-! only -/
abbrev sx_only : Stmt := top 21
abbrev N_only : List Str := ["tree", "names"]
theorem sc_only : FnScope N_only ["tree", "names"] (defScope sx_only) := ⟨rfl, rfl, rfl, by decide +kernel, rfl, by decide +kernel, by decide +kernel⟩
theorem ok_only (bi : Bi mg kd) (T : At K mg "only" sx_only ["tree", "names"]) (c_part_only : Cal P w K mg base k "part_only" (spPartOnly 8) []) : Cal P w K mg base (k + 1) "only" spOnly [] := by
  refine T.ok sc_only (fun vs H Q E h => ?_) (fun f cdv A outer s H vs Q E hr h => ?_)
  · obtain ⟨v, u, ns, ms, ps, rfl, _⟩ := h
    rfl
  have nd := sc_only.nd
  obtain ⟨v, u, ns, ms, ps, rfl, hu, hv, hdp, hcn, q⟩ := h
  obtain ⟨a, xs, rfl, ha, hs⟩ := hu.tupE
  have exs := hs.strs_eq
  subst exs
  refine ⟨_, (pss_one (ps_ret (pe_c c_part_only hr (by omega) (by rfl) (pa_cons (pv 0) (pa_cons (pv 1) pa_nil))))), ?_⟩
  walk_at "rd"
  exact ⟨_, _, ns, _, _, rfl, ha, hv, .inr ⟨ms, ps, rfl, rfl, by omega, hcn⟩, q⟩
/-! power_from -/
abbrev sx_power_from : Stmt := top 24
abbrev N_power_from : List Str := ["number", "found"]
theorem sc_power_from : FnScope N_power_from ["number"] (defScope sx_power_from) := ⟨rfl, rfl, rfl, by decide +kernel, rfl, by decide +kernel, by decide +kernel⟩
theorem ok_power_from (bi : Bi mg kd) (T : At K mg "power_from" sx_power_from ["number"]) : Cal P w K mg base (k + 1) "power_from" spPowerFrom [] := by
  refine T.ok sc_power_from (fun vs H Q E h => ?_) (fun f cdv A outer s H vs Q E hr h => ?_)
  · obtain ⟨n, rfl, _⟩ := h
    rfl
  have nd := sc_power_from.nd
  obtain ⟨n, rfl, q⟩ := h
  refine ⟨_, (pss_cons (ps_set (i := 1) nd rfl (Or.inl rfl) (pe_gc (by rfl) bi.GRAIN))
      (pss_cons (ps_while PassesOwn.never (pt_cmpR op_lt (pv 1) (pv 0) (nomark _)) (pss_one (ps_set (i := 1) nd rfl (Or.inl rfl) (pe_op op_mul pe_int (pv 1)))))
      (pss_one (ps_ret (pv 1))))), ?_⟩
  walk_at "rd"
  refine s_while (fun m σ H' => H' = H ∧ ∃ w, σ = [some (.int n), some (.int w)] ∧ PwAt n w ∧ m = (n - w).toNat) (m0 := (n - 4096).toNat) ⟨rfl, _, rfl, pwAt0 n, rfl⟩ (fun m σ H' h => ?_)
  obtain ⟨rfl, w, rfl, hw, rfl⟩ := h
  walk_at "rd"
  refine ifd (fun c => ?_) (fun c => ?_)
  · refine ⟨_, fun σ' H' h => h, ?_⟩
    walk_at "rd"
    refine s_I (.inl ⟨by decide, by decide⟩) ?_
    walk_at "rd"
    have := hw.1
    exact ⟨_, by omega, rfl, _, rfl, hw.next c, rfl⟩
  · walk_at "rd"
    rw [hw.done c]
    exact q
/-! area_sizes -/
abbrev sx_area_sizes : Stmt := top 25
abbrev N_area_sizes : List Str := ["device", "kind", "own", "size"]
theorem sc_area_sizes : FnScope N_area_sizes ["device", "kind"] (defScope sx_area_sizes) := ⟨rfl, rfl, rfl, by decide +kernel, rfl, by decide +kernel, by decide +kernel⟩
theorem ok_area_sizes (bi : Bi mg kd) (T : At K mg "area_sizes" sx_area_sizes ["device", "kind"]) : Cal P w K mg base (k + 1) "area_sizes" spAreaSizes [] := by
  refine T.ok sc_area_sizes (fun vs H Q E h => ?_) (fun f cdv A outer s H vs Q E hr h => ?_)
  · obtain ⟨v, n, as, kk, rfl, _⟩ := h
    rfl
  have nd := sc_area_sizes.nd
  obtain ⟨v, n, as, kk, rfl, hv, hlen, q⟩ := h
  obtain ⟨t, a, xs, rfl, ht, ha, hs⟩ := hv.devE
  refine ⟨_, (pss_one (ps_ret (pe_lc (own := [("own", 2), ("size", 3)]) (g := gTup K 2 (gCons (gName 2) (gCons (gName 3) (gNil)))) (by rfl) nd (pi_tup (pe_ix ix_tup (pv 0) pe_int (fun _ _ => rfl))) (blkOk_by (own := [("own", 2), ("size", 3)]) (N := N_area_sizes) (sc := defScope sx_area_sizes) (by decide +kernel)) (fun _ _ _ _ _ => (pg_tup rfl (pgs_cons (pg_name (i := 2) nd rfl (Or.inl rfl)) (pgs_cons (pg_name (i := 3) nd rfl (Or.inl rfl)) pgs_nil)))) (fun _ _ _ _ _ => pts_one (pt_cmpR op_eq (pv 2) (pv 1) (nomark _))) (fun _ _ _ _ _ => (pv 3))))), ?_⟩
  walk_at "rd"
  have hxl : xs.length = as.length := by rw [hs.len, List.length_map]
  refine lc_W walk_tup [] (fun i acc _ => acc = (szA kk (as.take i)).map V.int) (fun H' e => SqT.of (e.tup _ _ ha)) (fun _ _ => rfl) (fun i x D acc H1 H2 hi hD e hacc hl hR y => ?_) (fun D acc H' hD e hacc hl hR => ?_)
  · obtain ⟨rfl, hx⟩ := y
    obtain ⟨d, hd', hxd⟩ := hs.getV hx
    obtain ⟨b, hb, rfl⟩ := map_at hd'
    obtain ⟨t2, rfl, ht2⟩ := (hxd.ext e).areaE
    subst hR
    walk_at "rd"
    refine ⟨rfl, ?_⟩
    walk_at "rd"
    refine ifd (fun c => ?_) (fun c => ?_)
    · walk_at "rd"
      refine lc_put hD e hacc hl (by omega) (fun _ _ => ?_)
      unfold szA
      rw [take1 hb, List.filter_append, List.filter_cons, if_pos (decide_eq_true c), List.map_append, List.map_append]
      rfl
    · refine lc_skip e hacc hl ?_
      unfold szA
      rw [take1 hb, List.filter_append, List.filter_cons, if_neg (by simpa using c), List.map_append, List.map_append, List.filter_nil, List.map_nil, List.map_nil, List.append_nil]
  · rw [hxl, List.take_length] at hR
    subst hR
    walk_at "rd"
    exact q _ _ hD e hacc
end
end Bw

/-! the program: least_size .. refusal -/
namespace Bw
open PySem PySem.Spec PyProof.Rows L2
open C8 (Cal pe_c pe_gc)
open StX (pa_star tStar)
open RZ (pi_zipA iZipA)
-- the tactics of this text, by key
local macro_rules | `(tactic| walk_at "nm") => `(tactic| first | (intro hmem; cases hmem; done) | (simp only [List.mem_cons, List.mem_singleton, List.not_mem_nil, or_false, not_or, not_false_eq_true]; done) | (simp only [List.mem_cons, List.mem_singleton, List.not_mem_nil, or_false, not_or]; (repeat' apply And.intro) <;> first | assumption | exact Ne.symm (by assumption) | exact ne_some (by assumption) (by assumption) | exact Ne.symm (ne_some (by assumption) (by assumption))))
local macro_rules | `(tactic| walk_at "hx") => `(tactic| first | assumption | exact Dt.non | exact Dt.int _ | exact Dt.str _ | exact Dt.bl _ | (refine Dt.ext (by assumption) ?_; walk_at "hx") | (refine DtAll.ext (by assumption) ?_; walk_at "hx") | (refine Ext.at0 (by assumption) ?_; walk_at "hx") | (refine Ext.tupC (by assumption) ?_; walk_at "hx") | (refine Ext.atC (by assumption) ?_ (by walk_at "nm"); walk_at "hx"))
local macro_rules | `(tactic| walk_at "dm") => `(tactic| first | exact fun _ h => h | (refine dom_step (by assumption) ?_; walk_at "dm"))
local macro_rules | `(tactic| walk_at "fr") => `(tactic| first | assumption | (refine fr_of (by assumption) ?_; walk_at "dm"))
local macro_rules | `(tactic| walk_at "ex") => `(tactic| first | assumption | exact Ext.refl | exact Ext.mono0 (by assumption) | (refine Ext.then0 ?_ (by assumption); walk_at "ex") | (refine Ext.transC ?_ (by assumption); walk_at "ex") | (refine Ext.c1 ?_ (by assumption) (by walk_at "fr"); walk_at "ex") | (refine Ext.cm ?_ (by assumption) (by simp only [List.mem_cons, true_or, or_true]; done); walk_at "ex"))
local macro_rules | `(tactic| walk_at "r1") => `(tactic| first
  | (with_reducible refine s_var rfl ?_) | (with_reducible refine s_c ?_) | (with_reducible refine s_op ?_) | (with_reducible refine s_un ?_) | (with_reducible refine s_I0 ?_) | (with_reducible refine s_U ?_)
  | (with_reducible refine s_eqI ?_) | (with_reducible refine s_eqS ?_) | (with_reducible refine s_eqB ?_) | (with_reducible refine s_neI ?_) | (with_reducible refine s_neS ?_) | (with_reducible refine s_neB ?_)
  | (with_reducible refine s_isN1 ?_) | (with_reducible refine s_isN0 ?_) | (with_reducible refine s_notN1 ?_) | (with_reducible refine s_notN0 ?_) | (with_reducible refine s_isBl ?_) | (with_reducible refine s_notBl ?_)
  | (with_reducible refine s_test ?_) | (with_reducible refine s_B ?_) | (with_reducible refine s_bl ?_) | (with_reducible refine s_and ?_) | (with_reducible refine s_or ?_) | (with_reducible refine s_not ?_)
  | (with_reducible refine s_andV ?_) | (with_reducible refine s_orV ?_) | (with_reducible refine s_notV ?_) | (with_reducible refine s_ifE ?_) | (with_reducible refine s_chain ?_)
  | (with_reducible refine s_next ?_) | (with_reducible refine s_seq ?_) | (with_reducible refine s_drop ?_) | (with_reducible refine s_ret ?_) | (with_reducible refine s_retN ?_) | (with_reducible refine s_ifS ?_) | (with_reducible refine s_asg ?_)
  | ((with_reducible refine g_name ?_); refine s_name (by first | rfl) ?_) | (with_reducible refine s_parS ?_) | (with_reducible refine s_par ?_) | ((with_reducible refine g_nx ?_); refine s_nx rfl ?_) | (with_reducible refine s_gsub ?_) | (with_reducible refine s_gnil ?_) | (with_reducible refine s_gcons ?_)
  | (with_reducible refine s_call ?_) | (with_reducible refine s_cb ?_) | (with_reducible refine s_nil ?_) | (with_reducible refine s_cons ?_) | (with_reducible refine s_tupT ?_) | (with_reducible refine s_lstT ?_)
  | (with_reducible refine s_sl ?_) | (with_reducible refine s_nopart ?_) | (with_reducible refine s_part ?_) | (with_reducible refine s_int ?_) | (with_reducible refine s_bm ?_) | (with_reducible refine s_dget ?_) | (with_reducible refine s_dputS ?_)
  | (with_reducible refine s_forS ?_) | (with_reducible refine s_lc ?_) | (with_reducible refine s_iTup ?_) | (with_reducible refine s_iList ?_) | (with_reducible refine s_iRng1 ?_) | (with_reducible refine s_iRng2 ?_) | (with_reducible refine s_tYes ?_) | (with_reducible refine s_intI ?_) | (with_reducible refine s_intB ?_) | (with_reducible refine s_min2 ?_) | (with_reducible refine s_max2 ?_) | (with_reducible refine s_abs ?_) | (with_reducible refine s_revL ?_) | (with_reducible refine s_iEnumT ?_) | (with_reducible refine s_iEnum ?_) | (with_reducible refine s_iZipA ?_) | (with_reducible refine s_iZipM ?_) | (with_reducible refine s_iZip ?_) | (with_reducible refine s_iStr ?_) | (with_reducible refine s_star ?_) | (with_reducible refine s_lc2 ?_) | (with_reducible refine s_dc ?_) | (with_reducible refine s_bm ?_)
  | (with_reducible refine isi_int _ ?_) | (with_reducible refine isi_intB _ ?_) | (with_reducible refine isi_str _ ?_) | (with_reducible refine isi_non ?_)
  | (with_reducible refine iteT ?_) | (with_reducible refine iteF ?_) | (with_reducible refine iteNT ?_) | (with_reducible refine iteNF ?_))
local macro_rules | `(tactic| walk_at "r2") => `(tactic| first
  | ((with_reducible refine g_ixT ?_); first | (refine s_ixT (by walk_at "hx") rfl ?_) | (refine s_ixDs (by walk_at "hx") rfl ?_) | (refine s_ixDi (by walk_at "hx") rfl ?_) | (refine s_ixD (by walk_at "hx") rfl (fun _ _ => ?_)) | (refine s_ixD0s (by walk_at "hx") ?_))
  | ((with_reducible refine g_form ?_); first | (refine isDev_non ?_) | (refine isBr_non ?_) | (refine isDev_dev (by walk_at "hx") ?_) | (refine isDev_br (by walk_at "hx") ?_) | (refine isBr_dev (by walk_at "hx") ?_) | (refine isBr_br (by walk_at "hx") ?_))
  | ((with_reducible refine g_isi ?_); first | (with_reducible refine isi_dt (by walk_at "hx") ?_) | (with_reducible refine isi_tup (by walk_at "hx") ?_))
  | ((with_reducible refine g_len ?_); first | (with_reducible refine s_lenL (by walk_at "hx") ?_) | (with_reducible refine s_lenT (by walk_at "hx") ?_) | (with_reducible refine s_lenD (by walk_at "hx") ?_))
  | ((with_reducible refine g_ty ?_); first | (refine s_tyK (by assumption) ?_) | (with_reducible refine s_tyL (by walk_at "hx") ?_))
  | ((with_reducible refine g_tix ?_); first | (refine s_idx0 (by assumption) ?_) | (refine s_idx1 (by assumption) ?_))
  | ((with_reducible refine g_enT ?_); with_reducible refine s_enT (by walk_at "hx") ?_) | ((with_reducible refine g_enL ?_); with_reducible refine s_enL (by walk_at "hx") ?_)
  | ((with_reducible refine g_za ?_); first | (with_reducible refine s_zaT2 (by walk_at "hx") (by walk_at "hx") ?_) | (with_reducible refine s_zaL (by walk_at "hx") (by walk_at "hx") ?_))
  | ((with_reducible refine g_zm ?_); first | (with_reducible refine s_zmT (by walk_at "hx") (by walk_at "hx") ?_) | (with_reducible refine s_zmL (by walk_at "hx") (by walk_at "hx") ?_))
  | ((with_reducible refine g_zl ?_); with_reducible refine s_zl (by walk_at "hx") (by walk_at "hx") ?_)
  | ((with_reducible refine g_itT ?_); with_reducible refine s_itT (by walk_at "hx") ?_) | ((with_reducible refine g_itL ?_); with_reducible refine s_itL (by walk_at "hx") ?_)
  | ((with_reducible refine g_gtup ?_); refine s_gtup (by walk_at "hx") rfl ?_))
local macro_rules | `(tactic| walk_at "rd") => `(tactic| repeat (first | walk_at "r1" | walk_at "r2"))
local macro_rules | `(tactic| walk_at "sz") => `(tactic| (simp only [List.length_cons, List.length_nil, List.length_append, List.length_map, sizeLine_eq] <;> omega))
section
variable {P : Program} {w : World} {K : PySem.W.Frag} {mg : Str → Option Value} {base : Heap} {kd : Addr} {k : Nat}
abbrev sx_least_size : Stmt := top 26
abbrev N_least_size : List Str := ["bridge", "kind", "sizes"]
theorem sc_least_size : FnScope N_least_size ["bridge", "kind"] (defScope sx_least_size) := ⟨rfl, rfl, rfl, by decide +kernel, rfl, by decide +kernel, by decide +kernel⟩
theorem ok_least_size0 (T : At K mg "least_size" sx_least_size ["bridge", "kind"]) : Cal P w K mg base (k + 1) "least_size" (spLeastSize 0) [] := by
  refine T.ok sc_least_size (fun vs H Q E h => ?_) (fun f cdv A outer s H vs Q E hr h => ?_)
  · obtain ⟨v, n, ms, ps, kk, rfl, _⟩ := h
    rfl
  obtain ⟨v, n, ms, ps, kk, rfl, _, h, _⟩ := h
  omega
theorem ok_least_size {d : Nat} (bi : Bi mg kd) (T : At K mg "least_size" sx_least_size ["bridge", "kind"]) (c_sizes_on : Cal P w K mg base k "sizes_on" (spSizesOn d) []) (c_parts_of : Cal P w K mg base k "parts_of" spPartsOf [])
    (c_power_from : Cal P w K mg base k "power_from" spPowerFrom []) : Cal P w K mg base (k + 1) "least_size" (spLeastSize (d + 1)) [] := by
  refine T.ok sc_least_size (fun vs H Q E h => ?_) (fun f cdv A outer s H vs Q E hr h => ?_)
  · obtain ⟨v, n, ms, ps, kk, rfl, _⟩ := h
    rfl
  have nd := sc_least_size.nd
  obtain ⟨v, n, ms, ps, kk, rfl, hv, hdp, hcn, q⟩ := h
  refine ⟨_, (pss_cons (ps_set (i := 2) nd rfl (Or.inl rfl) (pe_c c_sizes_on hr (by omega) (by rfl) (pa_cons (pe_c c_parts_of hr (by omega) (by rfl) (pa_cons (pv 0) pa_nil)) (pa_cons (pv 1) pa_nil))))
      (pss_one (ps_ret (pe_ifExp (pt_cmpR (op_eqD hr.units) (pv 2) (pe_lst pa_nil) (nomark _)) pe_int (pe_c c_power_from hr (by omega) (by rfl) (pa_cons (pe_callB (cr_sum rfl) (by rfl) bi.sum (by decide +kernel) (pa_cons (pv 2) pa_nil)) pa_nil)))))), ?_⟩
  walk_at "rd"
  refine ⟨_, _, _, rfl, hv, .inl ⟨_, rfl, rfl⟩, fun v1 H1 e1 h1 => ?_⟩
  walk_at "rd"
  refine ⟨_, ps, _, rfl, h1, by omega, hcn, fun p H2 hp e2 h2 => ?_⟩
  walk_at "rd"
  refine s_newX (by walk_at "sz") (fun p3 H3 hp3 e3 h3 => ?_)
  refine s_eqNil (by walk_at "hx") .ints (plain_ints _) h3 ?_
  walk_at "rd"
  refine ifd (fun c => ?_) (fun c => ?_)
  · walk_at "rd"
    have hz : szs kk ps = [] := List.map_eq_nil_iff.mp c
    have q1 := q H3 (by walk_at "ex")
    rw [hz] at q1
    exact q1
  · walk_at "rd"
    have hz : szs kk ps ≠ [] := fun z => c (by rw [z]; rfl)
    refine s_sumL (show H3 p = _ by walk_at "hx") ?_
    walk_at "rd"
    refine ⟨_, rfl, ?_⟩
    have q1 := q H3 (by walk_at "ex")
    rw [lw_pos hz] at q1
    exact q1
abbrev sx_sizes_on : Stmt := top 27
abbrev N_sizes_on : List Str := ["parts", "kind", "found", "part", "size"]
theorem sc_sizes_on : FnScope N_sizes_on ["parts", "kind"] (defScope sx_sizes_on) := ⟨rfl, rfl, rfl, by decide +kernel, rfl, by decide +kernel, by decide +kernel⟩
theorem ok_sizes_on {d : Nat} (bi : Bi mg kd) (T : At K mg "sizes_on" sx_sizes_on ["parts", "kind"]) (c_is_device : Cal P w K mg base k "is_device" (spForm "device" 3) []) (c_is_bridge : Cal P w K mg base k "is_bridge" (spForm "bridge" 4) [])
    (c_area_sizes : Cal P w K mg base k "area_sizes" spAreaSizes []) (c_least_size : Cal P w K mg base k "least_size" (spLeastSize d) []) : Cal P w K mg base (k + 1) "sizes_on" (spSizesOn d) [] := by
  refine T.ok sc_sizes_on (fun vs H Q E h => ?_) (fun f cdv A outer s H vs Q E hr h => ?_)
  · obtain ⟨v, ps, kk, rfl, _⟩ := h
    rfl
  have nd := sc_sizes_on.nd
  obtain ⟨v, ps, kk, rfl, hv, hdp, hcn, q⟩ := h
  obtain ⟨a, xs, rfl, ha, hs⟩ := hv.tupE
  have hxl : xs.length = ps.length := by rw [hs.len, encs_len]
  refine ⟨_, (pss_cons (ps_set (i := 2) nd rfl (Or.inl rfl) (pe_lst pa_nil))
      (pss_cons (ps_for PassesOwn.never rfl (pi_tup (pv 0)) (pg_name (i := 3) nd rfl (Or.inl rfl)) (pss_one (ps_if (pt_val (pe_c c_is_device hr (by omega) (by rfl) (pa_cons (pv 3) pa_nil))) (pss_one (ps_expr (pe_bm PySem.F.plainAttrs_list PySem.F.slot_list_extend PySem.F.type_list_extend mt_extend (pv 2) (pa_cons (pe_c c_area_sizes hr (by omega) (by rfl) (pa_cons (pv 3) (pa_cons (pv 1) pa_nil))) pa_nil)))) (pss_one (ps_if (pt_val (pe_c c_is_bridge hr (by omega) (by rfl) (pa_cons (pv 3) pa_nil))) (pss_cons (ps_set (i := 4) nd rfl (Or.inl rfl) (pe_c c_least_size hr (by omega) (by rfl) (pa_cons (pv 3) (pa_cons (pv 1) pa_nil))))
      (pss_one (ps_expr (pe_bm PySem.F.plainAttrs_list PySem.F.slot_list_extend PySem.F.type_list_extend mt_extend (pv 2) (pa_cons (pe_op op_rep (pe_lst (pa_cons (pv 4) pa_nil)) (pe_callTy call_intR (by rfl) bi.int (by decide +kernel) (pa_cons (pe_cmpR op_gt (pv 4) pe_int (nomark _)) pa_nil))) pa_nil))))) pss_nil)))))
      (pss_one (ps_ret (pv 2))))), ?_⟩
  walk_at "rd"
  refine s_newX (by walk_at "sz") (fun F H1 hF e1 h1 => ?_)
  walk_at "rd"
  refine f_W walk_tup (fun i σ H' => ∃ x y, σ = [some (.ref a), some (.str kk), some (.ref F), x, y] ∧ Ext [] H H' ∧ H' F = some (.lst ((szs kk (ps.take i)).map V.int))) ⟨_, _, rfl, e1, h1⟩ (fun i σ H' _ h => SqT.of (h.elim fun _ h => h.elim fun _ h => h.2.1.tup _ _ ha)) (fun i x σ H2 H3 hi hP y => ?_) (fun σ H' hP => ?_)
  · obtain ⟨x', y', rfl, e, hl⟩ := hP
    obtain ⟨rfl, hx⟩ := y
    obtain ⟨d2, hd2, hxd0⟩ := hs.getV hx
    obtain ⟨p, hp, rfl⟩ := encs_at hd2
    have hxd := hxd0.ext e
    have hpm := mem_at hp
    have hb1 := dep_mem hpm
    have hb2 := cnt_mem hpm
    have hlen := szs_len kk (ps.take i)
    have hct := cnts_take ps i
    have hstep := szs_take kk hp
    walk_at "rd"
    cases p with
    | emp =>
      have := hxd.empE
      subst this
      walk_at "rd"
      refine ⟨_, _, rfl, e, ?_⟩
      rw [hstep]
      show _ = some (HO.lst (((_ ++ [] : List Int)).map V.int))
      rw [List.append_nil]
      exact hl
    | dev n as =>
      have hla : as.length ≤ 1000 := by
        have : 1 + as.length ≤ cnts ps := hb2
        omega
      walk_at "rd"
      refine ⟨_, n, as, _, rfl, hxd, hla, fun p2 H4 hp2 e4 h4 => ?_⟩
      have hla2 := szA_len kk as
      walk_at "rd"
      refine s_extend (show H4 F = _ by walk_at "hx") h4 (by rw [List.length_map, List.length_map, sizeLine_eq]; omega) (fun H5 e5 h5 => ?_)
      walk_at "rd"
      refine ⟨_, _, rfl, by walk_at "ex", ?_⟩
      rw [hstep, List.map_append]
      exact h5
    | br n ms ps2 =>
      have hd2 : deps ps2 + 1 ≤ deps ps := hb1
      have hc2 : 1 + cnts ps2 ≤ cnts ps := hb2
      walk_at "rd"
      refine ⟨_, n, ms, ps2, _, rfl, hxd, by omega, by omega, fun H4 e4 => ?_⟩
      walk_at "rd"
      refine s_newX (by walk_at "sz") (fun p5 H5 hp5 e5 h5 => ?_)
      walk_at "rd"
      refine s_rep (show H5 p5 = _ by walk_at "hx") (by split <;> decide) (by split <;> decide) (by rw [sizeLine_eq]; show 1 * _ ≤ _; split <;> decide) (fun p6 H6 hp6 e6 h6 => ?_)
      have hl6 : (List.replicate (if decide (lw (szs kk ps2) > 0) = true then 1 else 0 : Int).toNat [V.int (lw (szs kk ps2))]).flatten = (sz kk (.br n ms ps2)).map V.int := by
        unfold sz
        by_cases c : lw (szs kk ps2) > 0
        · rw [if_pos (decide_eq_true c), if_pos c]; rfl
        · rw [if_neg (by simpa using c), if_neg c]; rfl
      rw [hl6] at h6
      have hlb := sz_len kk (.br n ms ps2)
      walk_at "rd"
      refine s_extend (show H6 F = _ by walk_at "hx") h6 (by rw [List.length_map, List.length_map, sizeLine_eq]; omega) (fun H7 e7 h7 => ?_)
      walk_at "rd"
      refine ⟨_, _, rfl, by walk_at "ex", ?_⟩
      rw [hstep, List.map_append]
      exact h7
  · obtain ⟨x', y', rfl, e, hl⟩ := hP
    rw [hxl, List.take_length] at hl
    walk_at "rd"
    exact q _ _ hF e hl
abbrev sx_bridges_of : Stmt := top 28
abbrev N_bridges_of : List Str := ["tree", "path", "part"]
theorem sc_bridges_of : FnScope N_bridges_of ["tree"] (defScope sx_bridges_of) := ⟨rfl, rfl, rfl, by decide +kernel, rfl, by decide +kernel, by decide +kernel⟩
theorem ok_bridges_of (bi : Bi mg kd) (T : At K mg "bridges_of" sx_bridges_of ["tree"]) (c_placed : Cal P w K mg base k "placed" spPlaced []) (c_is_bridge : Cal P w K mg base k "is_bridge" (spForm "bridge" 4) []) : Cal P w K mg base (k + 1) "bridges_of" spBridgesOf [] := by
  refine T.ok sc_bridges_of (fun vs H Q E h => ?_) (fun f cdv A outer s H vs Q E hr h => ?_)
  · obtain ⟨v, ms, ps, rfl, _⟩ := h
    rfl
  have nd := sc_bridges_of.nd
  obtain ⟨v, ms, ps, rfl, hv, hcn, hdp, q⟩ := h
  refine ⟨_, (pss_one (ps_ret (pe_lc (own := [("path", 1), ("part", 2)]) (g := gTup K 2 (gCons (gName 1) (gCons (gName 2) (gNil)))) (by rfl) nd (pi_tup (pe_c c_placed hr (by omega) (by rfl) (pa_cons (pv 0) pa_nil))) (blkOk_by (own := [("path", 1), ("part", 2)]) (N := N_bridges_of) (sc := defScope sx_bridges_of) (by decide +kernel)) (fun _ _ _ _ _ => (pg_tup rfl (pgs_cons (pg_name (i := 1) nd rfl (Or.inl rfl)) (pgs_cons (pg_name (i := 2) nd rfl (Or.inl rfl)) pgs_nil)))) (fun _ _ _ _ _ => pts_one (pt_val (pe_c c_is_bridge hr (by omega) (by rfl) (pa_cons (pv 2) pa_nil)))) (fun _ _ _ _ _ => (pv 2))))), ?_⟩
  walk_at "rd"
  refine ⟨_, _, _, rfl, hv, hcn, hdp, fun v1 L H1 e1 h1 hL => ?_⟩
  obtain ⟨a, xs, rfl, ha, hs⟩ := h1.tupE
  have hxl : xs.length = (plss ps).length := by rw [hs.len, hL.len]
  have hpl := plss_len ps
  walk_at "rd"
  refine lc_W walk_tup [] (fun i acc H' => DtAll H' acc ((((plss ps).take i).filter Part.isBr).map Part.enc)) (fun H' e => SqT.of (e.tup _ _ ha)) (fun _ _ => .nil) (fun i x D acc H2 H3 hi hD e hacc hl hR y => ?_) (fun D acc H' hD e hacc hl hR => ?_)
  · obtain ⟨rfl, hx⟩ := y
    obtain ⟨d, hd', hxd⟩ := hs.getV hx
    obtain ⟨path, p, hp, rfl⟩ := hL.get hd'
    obtain ⟨b, ys, rfl, hb, hys⟩ := (hxd.ext e).tupE
    cases hys with
    | cons g1 g2 => cases g2 with
      | cons g2 g3 =>
        cases g3
        walk_at "rd"
        refine ⟨rfl, ?_⟩
        walk_at "rd"
        refine isBr_enc g2 ?_
        refine s_bl ?_
        cases hb : p.isBr with
        | false =>
          refine iteF ?_
          refine lc_skip e hacc hl ?_
          rw [take1 hp, List.filter_append, List.filter_cons, hb, if_neg (by decide), List.filter_nil, List.append_nil]
          exact hR
        | true =>
          refine iteT ?_
          walk_at "rd"
          refine lc_put hD e hacc hl (by omega) (fun H5 e5 => ?_)
          rw [take1 hp, List.filter_append, List.filter_cons, hb, if_pos rfl, List.filter_nil, List.map_append]
          exact (hR.ext e5).append (.one (g2.ext e5))
  · rw [hxl, List.take_length] at hR
    walk_at "rd"
    exact q _ _ _ (by walk_at "fr") (by walk_at "ex") hacc hR
abbrev sx_least_windows : Stmt := top 29
abbrev N_least_windows : List Str := ["tree", "one"]
theorem sc_least_windows : FnScope N_least_windows ["tree"] (defScope sx_least_windows) := ⟨rfl, rfl, rfl, by decide +kernel, rfl, by decide +kernel, by decide +kernel⟩
theorem ok_least_windows (bi : Bi mg kd) (T : At K mg "least_windows" sx_least_windows ["tree"]) (c_bridges_of : Cal P w K mg base k "bridges_of" spBridgesOf []) (c_least_size : Cal P w K mg base k "least_size" (spLeastSize 6) []) : Cal P w K mg base (k + 1) "least_windows" spLeastWindows [] := by
  refine T.ok sc_least_windows (fun vs H Q E h => ?_) (fun f cdv A outer s H vs Q E hr h => ?_)
  · obtain ⟨v, ms, ps, rfl, _⟩ := h
    rfl
  have nd := sc_least_windows.nd
  obtain ⟨v, ms, ps, rfl, hv, hcn, hdp, q⟩ := h
  refine ⟨_, (pss_one (ps_ret (pe_callTy (call_tupR (K := K) rfl) (by rfl) bi.tuple (by decide +kernel) (pa_cons (pe_lc (own := [("one", 1)]) (g := gName 1) (by rfl) nd (pi_list (pe_c c_bridges_of hr (by omega) (by rfl) (pa_cons (pv 0) pa_nil))) (blkOk_by (own := [("one", 1)]) (N := N_least_windows) (sc := defScope sx_least_windows) (by decide +kernel)) (fun _ _ _ _ _ => (pg_name (i := 1) nd rfl (Or.inl rfl))) (fun _ _ _ _ _ => pts_nil) (fun _ _ _ _ _ => (pe_tup (pa_cons (pe_ix (ix_tupK (K := K) rfl) (pv 1) pe_int (fun _ _ => rfl)) (pa_cons (pe_c c_least_size hr (by omega) (by rfl) (pa_cons (pv 1) (pa_cons pe_str pa_nil))) (pa_cons (pe_c c_least_size hr (by omega) (by rfl) (pa_cons (pv 1) (pa_cons pe_str pa_nil))) pa_nil)))))) pa_nil)))), ?_⟩
  walk_at "rd"
  refine ⟨_, _, _, rfl, hv, hcn, hdp, fun a xs H1 ha0 e1 ha hs => ?_⟩
  have hxl : xs.length = (brs ps).length := by rw [hs.len, List.length_map]
  have hpl := plss_len ps
  have hbl : (brs ps).length ≤ (plss ps).length := List.length_filter_le _ _
  walk_at "rd"
  refine lc_W walk_list [] (fun i acc H' => DtAll H' acc (((brs ps).take i).map encW)) (fun H' e => SqL.of (e.at0 ha)) (fun _ _ => .nil) (fun i x D acc H2 H3 hi hD e hacc hl hR y => ?_) (fun D acc H' hD e hacc hl hR => ?_)
  · obtain ⟨rfl, hx⟩ := y
    obtain ⟨d, hd', hxd0⟩ := hs.getV hx
    obtain ⟨p, hp, rfl⟩ := map_at hd'
    have hpf := List.mem_filter.mp (mem_at hp)
    have hbd := plss_bound ps p hpf.1
    have hxd := hxd0.ext e
    cases p with
    | emp => cases hpf.2
    | dev n as => cases hpf.2
    | br n ms2 ps2 =>
      have hd2 : deps ps2 + 1 ≤ deps ps := hbd.1
      have hc2 : 1 + cnts ps2 ≤ cnts ps := hbd.2
      obtain ⟨t, m, u, us, rfl, ht, hm, hu, hus⟩ := hxd.brE
      walk_at "rd"
      refine ⟨rfl, ?_⟩
      walk_at "rd"
      refine ⟨_, n, ms2, ps2, _, rfl, hxd, by omega, by omega, fun H4 e4 => ?_⟩
      walk_at "rd"
      refine ⟨_, n, ms2, ps2, _, rfl, hxd.ext e4, by omega, by omega, fun H5 e5 => ?_⟩
      walk_at "rd"
      refine s_newD (by walk_at "sz") (.cons (.str n) (.cons (.int (lw (szs kF ps2))) (.cons (.int (lw (szs kN ps2))) .nil))) (fun vt H6 e6 h6 => ?_)
      refine lc_put hD (by walk_at "ex") (by walk_at "hx") hl (by omega) (fun H7 e7 => ?_)
      rw [take1 hp, List.map_append]
      exact (hR.ext (M := [D]) (by walk_at "ex")).append (.one (h6.ext e7))
  · rw [hxl, List.take_length] at hR
    walk_at "rd"
    exact s_tupOfD hacc hR fun v' H4 e4 h4 => q _ _ (by walk_at "ex") h4
abbrev sx_wanted : Stmt := top 30
abbrev N_wanted : List Str := ["tree", "kind"]
theorem sc_wanted : FnScope N_wanted ["tree", "kind"] (defScope sx_wanted) := ⟨rfl, rfl, rfl, by decide +kernel, rfl, by decide +kernel, by decide +kernel⟩
theorem ok_wanted (bi : Bi mg kd) (T : At K mg "wanted" sx_wanted ["tree", "kind"]) (c_sizes_on : Cal P w K mg base k "sizes_on" (spSizesOn 6) []) (c_parts_of : Cal P w K mg base k "parts_of" spPartsOf []) : Cal P w K mg base (k + 1) "wanted" spWanted [] := by
  refine T.ok sc_wanted (fun vs H Q E h => ?_) (fun f cdv A outer s H vs Q E hr h => ?_)
  · obtain ⟨v, ms, ps, kk, rfl, _⟩ := h
    rfl
  have nd := sc_wanted.nd
  obtain ⟨v, ms, ps, kk, rfl, hv, hcn, hdp, q⟩ := h
  refine ⟨_, (pss_one (ps_ret (pe_callTy (call_tupR (K := K) rfl) (by rfl) bi.tuple (by decide +kernel) (pa_cons (pe_c c_sizes_on hr (by omega) (by rfl) (pa_cons (pe_c c_parts_of hr (by omega) (by rfl) (pa_cons (pv 0) pa_nil)) (pa_cons (pv 1) pa_nil))) pa_nil)))), ?_⟩
  walk_at "rd"
  refine ⟨_, _, _, rfl, hv, .inr ⟨ms, rfl⟩, fun v1 H1 e1 h1 => ?_⟩
  walk_at "rd"
  refine ⟨_, ps, _, rfl, h1, hdp, hcn, fun p H2 hp e2 h2 => ?_⟩
  exact s_tupOfD h2 .ints fun v' H4 e4 h4 => q _ _ (by walk_at "ex") h4
abbrev sx_refusal : Stmt := top 31
abbrev N_refusal : List Str := ["tree", "rooms", "kind", "room", "why"]
theorem sc_refusal : FnScope N_refusal ["tree", "rooms"] (defScope sx_refusal) := ⟨rfl, rfl, rfl, by decide +kernel, rfl, by decide +kernel, by decide +kernel⟩
theorem ok_refusal (bi : Bi mg kd) (hK : ∀ H, SqT K H kd [.str kF, .str kN]) (T : At K mg "refusal" sx_refusal ["tree", "rooms"]) (c_reason : Cal P w K mg base k "reason" spReason []) (c_wanted : Cal P w K mg base k "wanted" spWanted []) : Cal P w K mg base (k + 1) "refusal" spRefusal [] := by
  refine T.ok sc_refusal (fun vs H Q E h => ?_) (fun f cdv A outer s H vs Q E hr h => ?_)
  · obtain ⟨v, u, ms, ps, rf, re, rfl, _⟩ := h
    rfl
  have nd := sc_refusal.nd
  obtain ⟨v, u, ms, ps, rf, re, rfl, hv, hcn, hdp, hu, hlf, hle, q1, q2⟩ := h
  obtain ⟨a, xs, rfl, ha, hs⟩ := hu.tupE
  have hxl : xs.length = 2 := hs.len
  refine ⟨_, (pss_cons (ps_for PassesOwn.never rfl (pi_zipA (by rfl) bi.zip (pa_cons (pe_gc (by rfl) bi.KINDS) (pa_cons (pv 1) pa_nil))) (pg_tup rfl (pgs_cons (pg_name (i := 2) nd rfl (Or.inl rfl)) (pgs_cons (pg_name (i := 3) nd rfl (Or.inl rfl)) pgs_nil))) (pss_cons (ps_set (i := 4) nd rfl (Or.inl rfl) (pe_c c_reason hr (by omega) (by rfl) (pa_cons (pv 3) (pa_cons (pe_c c_wanted hr (by omega) (by rfl) (pa_cons (pv 0) (pa_cons (pv 2) pa_nil))) pa_nil))))
      (pss_one (ps_if (pt_cmpR op_notN1 (pv 4) pe_non (nomark _)) (pss_one (ps_ret (pe_tup (pa_cons (pv 2) (pa_cons (pv 4) pa_nil))))) pss_nil))))
      (pss_one (ps_ret pe_non))), ?_⟩
  walk_at "rd"
  refine s_zaT (hK _) (SqT.of ha) ?_
  refine f_W (walk_zipT (n := 2) rfl hxl) (fun i σ H' => ∃ x y z, σ = [some v, some (.ref a), x, y, z] ∧ Ext [] H H' ∧ (0 < i → Fits rf (szs kF ps)) ∧ (1 < i → Fits re (szs kN ps))) ⟨_, _, _, rfl, .refl, fun z => absurd z (by decide), fun z => absurd z (by decide)⟩ (fun i σ H' _ h => ⟨hK _, SqT.of (h.elim fun _ h => h.elim fun _ h => h.elim fun _ h => h.2.1.tup _ _ ha)⟩) (fun i x σ H2 H3 hi hP y => ?_) (fun σ H' hP => ?_)
  · obtain ⟨x', y', z', rfl, e, f1, f2⟩ := hP
    obtain ⟨T2, x, z, rfl, hT, e2, hT2, hx, hz⟩ := YPair.get y
    obtain ⟨d, hd', hxd⟩ := hs.getV hz
    have hi2 : i = 0 ∨ i = 1 := by omega
    rcases hi2 with rfl | rfl
    · cases hx
      cases hd'
      walk_at "rd"
      refine ⟨_, ms, ps, _, rfl, hv.e0 (by walk_at "ex"), by omega, hdp, fun v1 H4 e4 h4 => ?_⟩
      walk_at "rd"
      have hsl := szs_len kF ps
      refine ⟨_, _, rf, szs kF ps, rfl, hxd.e0 (by walk_at "ex"), hlf, h4, by omega, fun fit H5 e5 => ?_, fun nofit t H5 e5 => ?_⟩
      · walk_at "rd"
        exact ⟨_, _, _, rfl, (by walk_at "ex"), fun _ => fit, fun z => absurd z (by decide)⟩
      · walk_at "rd"
        exact s_newX (by walk_at "sz") (fun p6 H6 hp6 e6 h6 => q2 (fun z => nofit z.1) _ _ (by walk_at "ex"))
    · cases hx
      cases hd'
      walk_at "rd"
      refine ⟨_, ms, ps, _, rfl, hv.e0 (by walk_at "ex"), by omega, hdp, fun v1 H4 e4 h4 => ?_⟩
      walk_at "rd"
      have hsl := szs_len kN ps
      refine ⟨_, _, re, szs kN ps, rfl, hxd.e0 (by walk_at "ex"), hle, h4, by omega, fun fit H5 e5 => ?_, fun nofit t H5 e5 => ?_⟩
      · walk_at "rd"
        exact ⟨_, _, _, rfl, (by walk_at "ex"), fun _ => f1 (by decide), fun _ => fit⟩
      · walk_at "rd"
        exact s_newX (by walk_at "sz") (fun p6 H6 hp6 e6 h6 => q2 (fun z => nofit z.2) _ _ (by walk_at "ex"))
  · obtain ⟨x', y', z', rfl, e, f1, f2⟩ := hP
    walk_at "rd"
    exact q1 ⟨f1 (by decide), f2 (by decide)⟩ _ e
end
end Bw

/-! the program: is_window .. room_below -/
namespace Bw
open PySem PySem.Spec PyProof.Rows L2
open C8 (Cal pe_c pe_gc)
open StX (pa_star tStar)
open RZ (pi_zipA iZipA)
-- the tactics of this text, by key
local macro_rules | `(tactic| walk_at "nm") => `(tactic| first | (intro hmem; cases hmem; done) | (simp only [List.mem_cons, List.mem_singleton, List.not_mem_nil, or_false, not_or, not_false_eq_true]; done) | (simp only [List.mem_cons, List.mem_singleton, List.not_mem_nil, or_false, not_or]; (repeat' apply And.intro) <;> first | assumption | exact Ne.symm (by assumption) | exact ne_some (by assumption) (by assumption) | exact Ne.symm (ne_some (by assumption) (by assumption))))
local macro_rules | `(tactic| walk_at "hx") => `(tactic| first | assumption | exact Dt.non | exact Dt.int _ | exact Dt.str _ | exact Dt.bl _ | (refine Dt.ext (by assumption) ?_; walk_at "hx") | (refine DtAll.ext (by assumption) ?_; walk_at "hx") | (refine Ext.at0 (by assumption) ?_; walk_at "hx") | (refine Ext.tupC (by assumption) ?_; walk_at "hx") | (refine Ext.atC (by assumption) ?_ (by walk_at "nm"); walk_at "hx"))
local macro_rules | `(tactic| walk_at "dm") => `(tactic| first | exact fun _ h => h | (refine dom_step (by assumption) ?_; walk_at "dm"))
local macro_rules | `(tactic| walk_at "fr") => `(tactic| first | assumption | (refine fr_of (by assumption) ?_; walk_at "dm"))
local macro_rules | `(tactic| walk_at "ex") => `(tactic| first | assumption | exact Ext.refl | exact Ext.mono0 (by assumption) | (refine Ext.then0 ?_ (by assumption); walk_at "ex") | (refine Ext.transC ?_ (by assumption); walk_at "ex") | (refine Ext.c1 ?_ (by assumption) (by walk_at "fr"); walk_at "ex") | (refine Ext.cm ?_ (by assumption) (by simp only [List.mem_cons, true_or, or_true]; done); walk_at "ex"))
local macro_rules | `(tactic| walk_at "r1") => `(tactic| first
  | (with_reducible refine s_var rfl ?_) | (with_reducible refine s_c ?_) | (with_reducible refine s_op ?_) | (with_reducible refine s_un ?_) | (with_reducible refine s_I0 ?_) | (with_reducible refine s_U ?_)
  | (with_reducible refine s_eqI ?_) | (with_reducible refine s_eqS ?_) | (with_reducible refine s_eqB ?_) | (with_reducible refine s_neI ?_) | (with_reducible refine s_neS ?_) | (with_reducible refine s_neB ?_)
  | (with_reducible refine s_isN1 ?_) | (with_reducible refine s_isN0 ?_) | (with_reducible refine s_notN1 ?_) | (with_reducible refine s_notN0 ?_) | (with_reducible refine s_isBl ?_) | (with_reducible refine s_notBl ?_)
  | (with_reducible refine s_test ?_) | (with_reducible refine s_B ?_) | (with_reducible refine s_bl ?_) | (with_reducible refine s_and ?_) | (with_reducible refine s_or ?_) | (with_reducible refine s_not ?_)
  | (with_reducible refine s_andV ?_) | (with_reducible refine s_orV ?_) | (with_reducible refine s_notV ?_) | (with_reducible refine s_ifE ?_) | (with_reducible refine s_chain ?_)
  | (with_reducible refine s_next ?_) | (with_reducible refine s_seq ?_) | (with_reducible refine s_drop ?_) | (with_reducible refine s_ret ?_) | (with_reducible refine s_retN ?_) | (with_reducible refine s_ifS ?_) | (with_reducible refine s_asg ?_)
  | ((with_reducible refine g_name ?_); refine s_name (by first | rfl) ?_) | (with_reducible refine s_parS ?_) | (with_reducible refine s_par ?_) | ((with_reducible refine g_nx ?_); refine s_nx rfl ?_) | (with_reducible refine s_gsub ?_) | (with_reducible refine s_gnil ?_) | (with_reducible refine s_gcons ?_)
  | (with_reducible refine s_call ?_) | (with_reducible refine s_cb ?_) | (with_reducible refine s_nil ?_) | (with_reducible refine s_cons ?_) | (with_reducible refine s_tupT ?_) | (with_reducible refine s_lstT ?_)
  | (with_reducible refine s_sl ?_) | (with_reducible refine s_nopart ?_) | (with_reducible refine s_part ?_) | (with_reducible refine s_int ?_) | (with_reducible refine s_bm ?_) | (with_reducible refine s_dget ?_) | (with_reducible refine s_dputS ?_)
  | (with_reducible refine s_forS ?_) | (with_reducible refine s_lc ?_) | (with_reducible refine s_iTup ?_) | (with_reducible refine s_iList ?_) | (with_reducible refine s_iRng1 ?_) | (with_reducible refine s_iRng2 ?_) | (with_reducible refine s_tYes ?_) | (with_reducible refine s_intI ?_) | (with_reducible refine s_intB ?_) | (with_reducible refine s_min2 ?_) | (with_reducible refine s_max2 ?_) | (with_reducible refine s_abs ?_) | (with_reducible refine s_revL ?_) | (with_reducible refine s_iEnumT ?_) | (with_reducible refine s_iEnum ?_) | (with_reducible refine s_iZipA ?_) | (with_reducible refine s_iZipM ?_) | (with_reducible refine s_iZip ?_) | (with_reducible refine s_iStr ?_) | (with_reducible refine s_star ?_) | (with_reducible refine s_lc2 ?_) | (with_reducible refine s_dc ?_) | (with_reducible refine s_bm ?_)
  | (with_reducible refine isi_int _ ?_) | (with_reducible refine isi_intB _ ?_) | (with_reducible refine isi_str _ ?_) | (with_reducible refine isi_non ?_)
  | (with_reducible refine iteT ?_) | (with_reducible refine iteF ?_) | (with_reducible refine iteNT ?_) | (with_reducible refine iteNF ?_))
local macro_rules | `(tactic| walk_at "r2") => `(tactic| first
  | ((with_reducible refine g_ixT ?_); first | (refine s_ixT (by walk_at "hx") rfl ?_) | (refine s_ixDs (by walk_at "hx") rfl ?_) | (refine s_ixDi (by walk_at "hx") rfl ?_) | (refine s_ixD (by walk_at "hx") rfl (fun _ _ => ?_)) | (refine s_ixD0s (by walk_at "hx") ?_))
  | ((with_reducible refine g_form ?_); first | (refine isDev_non ?_) | (refine isBr_non ?_) | (refine isDev_dev (by walk_at "hx") ?_) | (refine isDev_br (by walk_at "hx") ?_) | (refine isBr_dev (by walk_at "hx") ?_) | (refine isBr_br (by walk_at "hx") ?_))
  | ((with_reducible refine g_isi ?_); first | (with_reducible refine isi_dt (by walk_at "hx") ?_) | (with_reducible refine isi_tup (by walk_at "hx") ?_))
  | ((with_reducible refine g_len ?_); first | (with_reducible refine s_lenL (by walk_at "hx") ?_) | (with_reducible refine s_lenT (by walk_at "hx") ?_) | (with_reducible refine s_lenD (by walk_at "hx") ?_))
  | ((with_reducible refine g_ty ?_); first | (refine s_tyK (by assumption) ?_) | (with_reducible refine s_tyL (by walk_at "hx") ?_))
  | ((with_reducible refine g_tix ?_); first | (refine s_idx0 (by assumption) ?_) | (refine s_idx1 (by assumption) ?_))
  | ((with_reducible refine g_enT ?_); with_reducible refine s_enT (by walk_at "hx") ?_) | ((with_reducible refine g_enL ?_); with_reducible refine s_enL (by walk_at "hx") ?_)
  | ((with_reducible refine g_za ?_); first | (with_reducible refine s_zaT2 (by walk_at "hx") (by walk_at "hx") ?_) | (with_reducible refine s_zaL (by walk_at "hx") (by walk_at "hx") ?_))
  | ((with_reducible refine g_zm ?_); first | (with_reducible refine s_zmT (by walk_at "hx") (by walk_at "hx") ?_) | (with_reducible refine s_zmL (by walk_at "hx") (by walk_at "hx") ?_))
  | ((with_reducible refine g_zl ?_); with_reducible refine s_zl (by walk_at "hx") (by walk_at "hx") ?_)
  | ((with_reducible refine g_itT ?_); with_reducible refine s_itT (by walk_at "hx") ?_) | ((with_reducible refine g_itL ?_); with_reducible refine s_itL (by walk_at "hx") ?_)
  | ((with_reducible refine g_gtup ?_); refine s_gtup (by walk_at "hx") rfl ?_))
local macro_rules | `(tactic| walk_at "rd") => `(tactic| repeat (first | walk_at "r1" | walk_at "r2"))
local macro_rules | `(tactic| walk_at "sz") => `(tactic| (simp only [List.length_cons, List.length_nil, List.length_append, List.length_map, sizeLine_eq] <;> omega))
section
variable {P : Program} {w : World} {K : PySem.W.Frag} {mg : Str → Option Value} {base : Heap} {kd : Addr} {k : Nat}
abbrev sx_is_window : Stmt := top 32
abbrev N_is_window : List Str := ["bridge", "kind", "value"]
theorem sc_is_window : FnScope N_is_window ["bridge", "kind", "value"] (defScope sx_is_window) := ⟨rfl, rfl, rfl, by decide +kernel, rfl, by decide +kernel, by decide +kernel⟩
theorem ok_is_window (bi : Bi mg kd) (T : At K mg "is_window" sx_is_window ["bridge", "kind", "value"]) (c_least_size : Cal P w K mg base k "least_size" (spLeastSize 6) []) (c_is_block : Cal P w K mg base k "is_block" spIsBlock []) : Cal P w K mg base (k + 1) "is_window" spIsWindow [] := by
  refine T.ok sc_is_window (fun vs H Q E h => ?_) (fun f cdv A outer s H vs Q E hr h => ?_)
  · obtain ⟨v, x, n, ms, ps, kk, o, rfl, _⟩ := h
    rfl
  have nd := sc_is_window.nd
  obtain ⟨v, x, n, ms, ps, kk, o, rfl, hv, hdp, hcn, hx, hw, q⟩ := h
  refine ⟨_, (pss_cons (ps_if (pt_cmpR op_eq (pe_c c_least_size hr (by omega) (by rfl) (pa_cons (pv 0) (pa_cons (pv 1) pa_nil))) pe_int (nomark _)) (pss_one (ps_ret (pe_cmpR op_isN1 (pv 2) pe_non (nomark _)))) pss_nil)
      (pss_one (ps_ret (pe_and (pe_c c_is_block hr (by omega) (by rfl) (pa_cons (pv 2) pa_nil)) (pe_one (pe_cmpR op_ge (pe_ix ix_tup (pv 2) pe_int (fun _ _ => rfl)) (pe_gc (by rfl) bi.GRAIN) (nomark _))))))), ?_⟩
  walk_at "rd"
  refine ⟨_, n, ms, ps, _, rfl, hv, hdp, hcn, fun H1 e1 => ?_⟩
  walk_at "rd"
  cases o with
  | none =>
    have := hx.non_eq
    subst this
    refine ifd1 hw ?_
    walk_at "rd"
    exact q _ (by walk_at "ex")
  | some b =>
    have hx1 := hx.e0 e1
    obtain ⟨h1, h2, h3, h4⟩ := hw
    refine ifd0 (by omega) ?_
    walk_at "rd"
    refine ⟨_, b, rfl, hx1, h2, ?_⟩
    unfold encO encB at hx1
    walk_at "rd"
    rw [decide_eq_true (show b.2 ≥ 4096 from h4)]
    exact q _ (by walk_at "ex")
abbrev sx_is_row : Stmt := top 33
abbrev N_is_row : List Str := ["part", "value", "block", "kind", "size"]
theorem sc_is_row : FnScope N_is_row ["part", "value"] (defScope sx_is_row) := ⟨rfl, rfl, rfl, by decide +kernel, rfl, by decide +kernel, by decide +kernel⟩
theorem ok_is_row (bi : Bi mg kd) (T : At K mg "is_row" sx_is_row ["part", "value"]) (c_is_device : Cal P w K mg base k "is_device" (spForm "device" 3) []) (c_is_bridge : Cal P w K mg base k "is_bridge" (spForm "bridge" 4) [])
    (c_is_window : Cal P w K mg base k "is_window" spIsWindow []) (c_is_block : Cal P w K mg base k "is_block" spIsBlock []) : Cal P w K mg base (k + 1) "is_row" spIsRow [] := by
  refine T.ok sc_is_row (fun vs H Q E h => ?_) (fun f cdv A outer s H vs Q E hr h => ?_)
  · obtain ⟨v, x, p, A, rfl, _⟩ := h
    rfl
  have nd := sc_is_row.nd
  obtain ⟨v, x, p, AA, rfl, hv, hp0, hdp, hcn, ha, hx, q⟩ := h
  cases p with
  | emp => exact absurd rfl hp0
  | dev n as =>
    obtain ⟨bs, e, hd⟩ := ha
    obtain ⟨t, u, us, rfl, ht, hu, hus⟩ := hv.devE
    rw [show AA (Part.dev n as).nm = .dev n bs from e] at hx
    unfold Row.enc at hx
    obtain ⟨tx, xx, rfl, htx, hxx⟩ := hx.tupE
    cases hxx with
    | cons g1 g2 => cases g2 with
      | cons g2 g3 =>
        cases g3
        rw [g1.str_eq] at htx
        obtain ⟨b, ys, rfl, hb, hys⟩ := g2.tupE
        have hul : us.length = as.length := by rw [hus.len, List.length_map]
        have hyl : ys.length = as.length := by rw [hys.len, List.length_map, dok_len hd]
        have hal : as.length ≤ 1000 := by
          have : 1 + as.length ≤ 1000 := hcn
          omega
        refine ⟨_, (pss_cons (ps_if (PW.pt (pw_or (pt_not (pt_val (pe_callB call_isi (by rfl) bi.isinstance (by decide +kernel) (pa_cons (pv 1) (pa_cons (pe_bltn (v := .ty "tuple") (by rfl) bi.tuple (by decide +kernel) rfl) pa_nil))))) (pw_or1 (pt_cmpR op_ne (pe_callB (call_lenR (K := K) rfl) (by rfl) bi.len (by decide +kernel) (pa_cons (pv 1) pa_nil)) (pe_ifExp (pt_val (pe_c c_is_device hr (by omega) (by rfl) (pa_cons (pv 0) pa_nil))) pe_int pe_int) (nomark _))))) (pss_one (ps_ret pe_bl)) pss_nil)
      (pss_cons (ps_if (PW.pt (pw_or (pt_not (pt_val (pe_callB call_isi (by rfl) bi.isinstance (by decide +kernel) (pa_cons (pe_ix ix_tup (pv 1) pe_int (fun _ _ => rfl)) (pa_cons (pe_bltn (v := .ty "str") (by rfl) bi.str (by decide +kernel) rfl) pa_nil))))) (pw_or1 (pt_cmpR op_ne (pe_ix ix_tup (pv 1) pe_int (fun _ _ => rfl)) (pe_ix ix_tup (pv 0) pe_int (fun _ _ => rfl)) (nomark _))))) (pss_one (ps_ret pe_bl)) pss_nil)
      (pss_cons (ps_if (pt_val (pe_c c_is_bridge hr (by omega) (by rfl) (pa_cons (pv 0) pa_nil))) (pss_one (ps_ret (pe_and (pe_c c_is_window hr (by omega) (by rfl) (pa_cons (pv 0) (pa_cons pe_str (pa_cons (pe_ix ix_tup (pv 1) pe_int (fun _ _ => rfl)) pa_nil)))) (pe_one (pe_c c_is_window hr (by omega) (by rfl) (pa_cons (pv 0) (pa_cons pe_str (pa_cons (pe_ix ix_tup (pv 1) pe_int (fun _ _ => rfl)) pa_nil)))))))) pss_nil)
      (pss_cons (ps_if (PW.pt (pw_or (pt_not (pt_val (pe_callB call_isi (by rfl) bi.isinstance (by decide +kernel) (pa_cons (pe_ix ix_tup (pv 1) pe_int (fun _ _ => rfl)) (pa_cons (pe_bltn (v := .ty "tuple") (by rfl) bi.tuple (by decide +kernel) rfl) pa_nil))))) (pw_or1 (pt_cmpR op_ne (pe_callB (call_lenR (K := K) rfl) (by rfl) bi.len (by decide +kernel) (pa_cons (pe_ix ix_tup (pv 1) pe_int (fun _ _ => rfl)) pa_nil)) (pe_callB (call_lenR (K := K) rfl) (by rfl) bi.len (by decide +kernel) (pa_cons (pe_ix ix_tup (pv 0) pe_int (fun _ _ => rfl)) pa_nil)) (nomark _))))) (pss_one (ps_ret pe_bl)) pss_nil)
      (pss_one (ps_ret (pe_callB (cr_all rfl) (by rfl) bi.all (by decide +kernel) (pa_cons (pe_lc (own := [("block", 2), ("kind", 3), ("size", 4)]) (g := gTup K 2 (gCons (gName 2) (gCons (gTup K 2 (gCons (gName 3) (gCons (gName 4) (gNil)))) (gNil)))) (by rfl) nd (pi_zipA (by rfl) bi.zip (pa_cons (pe_ix ix_tup (pv 1) pe_int (fun _ _ => rfl)) (pa_cons (pe_ix ix_tup (pv 0) pe_int (fun _ _ => rfl)) pa_nil))) (blkOk_by (own := [("block", 2), ("kind", 3), ("size", 4)]) (N := N_is_row) (sc := defScope sx_is_row) (by decide +kernel)) (fun _ _ _ _ _ => (pg_tup rfl (pgs_cons (pg_name (i := 2) nd rfl (Or.inl rfl)) (pgs_cons (pg_tup rfl (pgs_cons (pg_name (i := 3) nd rfl (Or.inl rfl)) (pgs_cons (pg_name (i := 4) nd rfl (Or.inl rfl)) pgs_nil))) pgs_nil)))) (fun _ _ _ _ _ => pts_nil) (fun _ _ _ _ _ => (pe_and (pe_c c_is_block hr (by omega) (by rfl) (pa_cons (pv 2) pa_nil)) (pe_one (pe_cmpR op_eq (pe_ix (ix_tupK (K := K) rfl) (pv 2) pe_int (fun _ _ => rfl)) (pv 4) (nomark _)))))) pa_nil)))))))), ?_⟩
        walk_at "rd"
        refine ifn0 rfl ?_
        walk_at "rd"
        refine ifn0 rfl ?_
        walk_at "rd"
        refine ifn0 (by rw [hyl, hul]) ?_
        walk_at "rd"
        refine lc_W (walk_zipT hyl hul) [] (fun i acc H' => acc = (List.replicate i true).map V.bl) (fun H' e => ⟨SqT.of (e.tup _ _ hb), SqT.of (e.tup _ _ hu)⟩) (fun _ _ => rfl) (fun i x D acc H2 H3 hi hD e hacc hl hR y => ?_) (fun D acc H' hD e hacc hl hR => ?_)
        · obtain ⟨T2, x1, z1, rfl, hT, e2, hT2, hx1, hz1⟩ := YPair.get y
          obtain ⟨d1, hd1, hxd⟩ := hys.getV hx1
          obtain ⟨c, hc, rfl⟩ := map_at hd1
          obtain ⟨d2, hd2, hzd⟩ := hus.getV hz1
          obtain ⟨a, ha, rfl⟩ := map_at hd2
          obtain ⟨hcb, hca⟩ := dok_at hd hc ha
          have hxd2 := hxd.e0 (show Ext [] H H3 by walk_at "ex")
          obtain ⟨ta, rfl, hta⟩ := (hzd.e0 (show Ext [] H H3 by walk_at "ex")).areaE
          have hxd3 := hxd2
          unfold encB at hxd3
          walk_at "rd"
          refine ⟨rfl, ?_⟩
          walk_at "rd"
          refine ⟨_, c, rfl, hxd2, hcb, ?_⟩
          walk_at "rd"
          rw [decide_eq_true hca]
          refine lc_put hD (by walk_at "ex") (by walk_at "hx") hl (by omega) (fun H5 e5 => ?_)
          rw [hR, List.replicate_succ', List.map_append]
          rfl
        · subst hR
          walk_at "rd"
          refine s_allL hacc ?_
          rw [show (List.replicate as.length true).all id = true from List.all_eq_true.mpr fun x hx => (List.mem_replicate.mp hx).2]
          exact q _ (by walk_at "ex")
  | br n ms ps =>
    obtain ⟨fo, eo, e, w1, w2, _⟩ := ha
    obtain ⟨t, m, u, us, rfl, ht, hm, hu, hus⟩ := hv.brE
    rw [show AA (Part.br n ms ps).nm = .br n fo eo from e] at hx
    unfold Row.enc at hx
    obtain ⟨tx, xx, rfl, htx, hxx⟩ := hx.tupE
    have hd2 : deps ps + 1 ≤ 6 := hdp
    have hc2 : 1 + cnts ps ≤ 1000 := hcn
    cases hxx with
    | cons g1 g2 => cases g2 with
      | cons g2 g3 => cases g3 with
        | cons g3 g4 =>
          cases g4
          rw [g1.str_eq] at htx
          refine ⟨_, (pss_cons (ps_if (PW.pt (pw_or (pt_not (pt_val (pe_callB call_isi (by rfl) bi.isinstance (by decide +kernel) (pa_cons (pv 1) (pa_cons (pe_bltn (v := .ty "tuple") (by rfl) bi.tuple (by decide +kernel) rfl) pa_nil))))) (pw_or1 (pt_cmpR op_ne (pe_callB (call_lenR (K := K) rfl) (by rfl) bi.len (by decide +kernel) (pa_cons (pv 1) pa_nil)) (pe_ifExp (pt_val (pe_c c_is_device hr (by omega) (by rfl) (pa_cons (pv 0) pa_nil))) pe_int pe_int) (nomark _))))) (pss_one (ps_ret pe_bl)) pss_nil)
      (pss_cons (ps_if (PW.pt (pw_or (pt_not (pt_val (pe_callB call_isi (by rfl) bi.isinstance (by decide +kernel) (pa_cons (pe_ix ix_tup (pv 1) pe_int (fun _ _ => rfl)) (pa_cons (pe_bltn (v := .ty "str") (by rfl) bi.str (by decide +kernel) rfl) pa_nil))))) (pw_or1 (pt_cmpR op_ne (pe_ix ix_tup (pv 1) pe_int (fun _ _ => rfl)) (pe_ix ix_tup (pv 0) pe_int (fun _ _ => rfl)) (nomark _))))) (pss_one (ps_ret pe_bl)) pss_nil)
      (pss_cons (ps_if (pt_val (pe_c c_is_bridge hr (by omega) (by rfl) (pa_cons (pv 0) pa_nil))) (pss_one (ps_ret (pe_and (pe_c c_is_window hr (by omega) (by rfl) (pa_cons (pv 0) (pa_cons pe_str (pa_cons (pe_ix ix_tup (pv 1) pe_int (fun _ _ => rfl)) pa_nil)))) (pe_one (pe_c c_is_window hr (by omega) (by rfl) (pa_cons (pv 0) (pa_cons pe_str (pa_cons (pe_ix ix_tup (pv 1) pe_int (fun _ _ => rfl)) pa_nil)))))))) pss_nil)
      (pss_cons (ps_if (PW.pt (pw_or (pt_not (pt_val (pe_callB call_isi (by rfl) bi.isinstance (by decide +kernel) (pa_cons (pe_ix ix_tup (pv 1) pe_int (fun _ _ => rfl)) (pa_cons (pe_bltn (v := .ty "tuple") (by rfl) bi.tuple (by decide +kernel) rfl) pa_nil))))) (pw_or1 (pt_cmpR op_ne (pe_callB (call_lenR (K := K) rfl) (by rfl) bi.len (by decide +kernel) (pa_cons (pe_ix ix_tup (pv 1) pe_int (fun _ _ => rfl)) pa_nil)) (pe_callB (call_lenR (K := K) rfl) (by rfl) bi.len (by decide +kernel) (pa_cons (pe_ix ix_tup (pv 0) pe_int (fun _ _ => rfl)) pa_nil)) (nomark _))))) (pss_one (ps_ret pe_bl)) pss_nil)
      (pss_one (ps_ret (pe_callB (cr_all rfl) (by rfl) bi.all (by decide +kernel) (pa_cons (pe_lc (own := [("block", 2), ("kind", 3), ("size", 4)]) (g := gTup K 2 (gCons (gName 2) (gCons (gTup K 2 (gCons (gName 3) (gCons (gName 4) (gNil)))) (gNil)))) (by rfl) nd (pi_zipA (by rfl) bi.zip (pa_cons (pe_ix ix_tup (pv 1) pe_int (fun _ _ => rfl)) (pa_cons (pe_ix ix_tup (pv 0) pe_int (fun _ _ => rfl)) pa_nil))) (blkOk_by (own := [("block", 2), ("kind", 3), ("size", 4)]) (N := N_is_row) (sc := defScope sx_is_row) (by decide +kernel)) (fun _ _ _ _ _ => (pg_tup rfl (pgs_cons (pg_name (i := 2) nd rfl (Or.inl rfl)) (pgs_cons (pg_tup rfl (pgs_cons (pg_name (i := 3) nd rfl (Or.inl rfl)) (pgs_cons (pg_name (i := 4) nd rfl (Or.inl rfl)) pgs_nil))) pgs_nil)))) (fun _ _ _ _ _ => pts_nil) (fun _ _ _ _ _ => (pe_and (pe_c c_is_block hr (by omega) (by rfl) (pa_cons (pv 2) pa_nil)) (pe_one (pe_cmpR op_eq (pe_ix (ix_tupK (K := K) rfl) (pv 2) pe_int (fun _ _ => rfl)) (pv 4) (nomark _)))))) pa_nil)))))))), ?_⟩
          walk_at "rd"
          refine ifn0 rfl ?_
          walk_at "rd"
          refine ifn0 rfl ?_
          walk_at "rd"
          refine ⟨_, _, n, ms, ps, _, fo, rfl, hv, hd2, by omega, g2, w1, fun H1 e1 => ?_⟩
          walk_at "rd"
          refine ⟨_, _, n, ms, ps, _, eo, rfl, hv.e0 e1, hd2, by omega, g3.e0 e1, w2, fun H2 e2 => ?_⟩
          walk_at "rd"
          exact q _ (by walk_at "ex")
abbrev sx_lies_within : Stmt := top 36
abbrev N_lies_within : List Str := ["block", "other"]
theorem sc_lies_within : FnScope N_lies_within ["block", "other"] (defScope sx_lies_within) := ⟨rfl, rfl, rfl, by decide +kernel, rfl, by decide +kernel, by decide +kernel⟩
theorem ok_lies_within (bi : Bi mg kd) (T : At K mg "lies_within" sx_lies_within ["block", "other"]) : Cal P w K mg base (k + 1) "lies_within" spLiesWithin [] := by
  refine T.ok sc_lies_within (fun vs H Q E h => ?_) (fun f cdv A outer s H vs Q E hr h => ?_)
  · obtain ⟨v, u, b, c, rfl, _⟩ := h
    rfl
  have nd := sc_lies_within.nd
  obtain ⟨v, u, b, c, rfl, hv, hu, q⟩ := h
  unfold encB at hv hu
  refine ⟨_, (pss_one (ps_ret (pe_and (pe_cmpR op_le (pe_ix ix_tup (pv 1) pe_int (fun _ _ => rfl)) (pe_ix ix_tup (pv 0) pe_int (fun _ _ => rfl)) (nomark _)) (pe_one (pe_cmpR op_le (pe_op op_add (pe_ix ix_tup (pv 0) pe_int (fun _ _ => rfl)) (pe_ix ix_tup (pv 0) pe_int (fun _ _ => rfl))) (pe_op op_add (pe_ix ix_tup (pv 1) pe_int (fun _ _ => rfl)) (pe_ix ix_tup (pv 1) pe_int (fun _ _ => rfl))) (nomark _)))))), ?_⟩
  walk_at "rd"
  refine ifd (fun h1 => ?_) (fun h1 => ?_)
  · walk_at "rd"
    exact cb (dec_congr ⟨fun z => ⟨h1, z⟩, fun z => z.2⟩) q
  · exact cb (decide_eq_false (fun z : Within b c => h1 z.1)).symm q
abbrev sx_are_apart : Stmt := top 37
abbrev N_are_apart : List Str := ["blocks", "ordered", "one", "other"]
theorem sc_are_apart : FnScope N_are_apart ["blocks"] (defScope sx_are_apart) := ⟨rfl, rfl, rfl, by decide +kernel, rfl, by decide +kernel, by decide +kernel⟩
theorem ok_are_apart (bi : Bi mg kd) (T : At K mg "are_apart" sx_are_apart ["blocks"]) : Cal P w K mg base (k + 1) "are_apart" spAreApart [] := by
  refine T.ok sc_are_apart (fun vs H Q E h => ?_) (fun f cdv A outer s H vs Q E hr h => ?_)
  · obtain ⟨l, xs, bs, rfl, _⟩ := h
    rfl
  have nd := sc_are_apart.nd
  obtain ⟨l, xs, bs, rfl, hl0, hs, hlen, hap, hpos, q⟩ := h
  refine ⟨_, (pss_cons (ps_set (i := 1) nd rfl (Or.inl rfl) (pe_callB cr_sortedPO (by rfl) bi.sorted (by decide +kernel) (pa_cons (pv 0) pa_nil)))
      (pss_one (ps_ret (pe_callB (cr_all rfl) (by rfl) bi.all (by decide +kernel) (pa_cons (pe_lc (own := [("one", 2), ("other", 3)]) (g := gTup K 2 (gCons (gName 2) (gCons (gName 3) (gNil)))) (by rfl) nd (pi_zipA (by rfl) bi.zip (pa_cons (pv 1) (pa_cons (pe_slice sl_list (pv 1) (po_some pe_int) po_none) pa_nil))) (blkOk_by (own := [("one", 2), ("other", 3)]) (N := N_are_apart) (sc := defScope sx_are_apart) (by decide +kernel)) (fun _ _ _ _ _ => (pg_tup rfl (pgs_cons (pg_name (i := 2) nd rfl (Or.inl rfl)) (pgs_cons (pg_name (i := 3) nd rfl (Or.inl rfl)) pgs_nil)))) (fun _ _ _ _ _ => pts_nil) (fun _ _ _ _ _ => (pe_cmpR op_le (pe_op op_add (pe_ix (ix_tupK (K := K) rfl) (pv 2) pe_int (fun _ _ => rfl)) (pe_ix (ix_tupK (K := K) rfl) (pv 2) pe_int (fun _ _ => rfl))) (pe_ix (ix_tupK (K := K) rfl) (pv 3) pe_int (fun _ _ => rfl)) (nomark _)))) pa_nil))))), ?_⟩
  walk_at "rd"
  refine s_sortB hl0 hs (fun p ys bs' H1 hperm hsort hp e1 h1 hys => ?_)
  have hyl : ys.length = bs'.length := by rw [hys.len, List.length_map]
  have hbl := hperm.length_eq
  have hpos' : ∀ b ∈ bs', 0 < b.2 := fun b hb => hpos b (hperm.mem_iff.mp hb)
  have hap' := apart_perm hperm hap
  walk_at "rd"
  refine s_slL h1 (fun p2 H2 hp2 e2 h2 => ?_)
  walk_at "rd"
  have hcut : cutV ys (some 1) none = ys.drop 1 := by
    unfold cutV
    rw [show HT.sIx ys.length 0 (some 1) = min 1 ys.length from HT.sIx_nat _ _ 1, show HT.sIx ys.length ys.length none = ys.length from rfl]
    rcases ys with _ | ⟨y, r⟩
    · rfl
    · rw [show min 1 (y :: r).length = 1 by rw [List.length_cons]; omega]
      rw [List.take_of_length_le (by rw [List.length_drop]; exact Nat.le_refl _)]
  rw [hcut] at h2
  refine lc_W (walk_zip (n := min ys.length (ys.drop 1).length) rfl) [] (fun i acc H' => acc = (List.replicate i true).map V.bl) (fun H' e => ⟨SqL.of (e.at0 (e2.at0 h1)), SqL.of (e.at0 h2)⟩) (fun _ _ => rfl) (fun i x D acc H3 H4 hi hD e hacc hl hR y => ?_) (fun D acc H' hD e hacc hl hR => ?_)
  · obtain ⟨T2, x1, z1, rfl, hT, e4, hT2, hx1, hz1⟩ := YPair.get y
    obtain ⟨d1, hd1, hxd⟩ := hys.getV hx1
    obtain ⟨c, hc, rfl⟩ := map_at hd1
    rw [show (ys.drop 1)[i]? = ys[i + 1]? by rw [List.getElem?_drop, Nat.add_comm]] at hz1
    obtain ⟨d2, hd2, hzd⟩ := hys.getV hz1
    obtain ⟨c2, hc2, rfl⟩ := map_at hd2
    have hgap := sorted_gap hsort hap' hpos' hc hc2
    have hxd2 := hxd.e0 (show Ext [] H1 H4 by walk_at "ex")
    have hzd2 := hzd.e0 (show Ext [] H1 H4 by walk_at "ex")
    unfold encB at hxd2 hzd2
    walk_at "rd"
    refine ⟨rfl, ?_⟩
    walk_at "rd"
    rw [decide_eq_true hgap]
    refine lc_put hD (by walk_at "ex") (by walk_at "hx") hl (by omega) (fun H5 e5 => ?_)
    rw [hR, List.replicate_succ', List.map_append]
    rfl
  · subst hR
    walk_at "rd"
    refine s_allL hacc ?_
    rw [show (List.replicate (min ys.length (ys.drop 1).length) true).all id = true from List.all_eq_true.mpr fun x hx => (List.mem_replicate.mp hx).2]
    exact q _ (by walk_at "ex")
end
end Bw

/-! the program: room_below .. assignment_holds -/
namespace Bw
open PySem PySem.Spec PyProof.Rows L2
open C8 (Cal pe_c pe_gc)
open StX (pa_star tStar)
open RZ (pi_zipA iZipA)
-- the tactics of this text, by key
local macro_rules | `(tactic| walk_at "nm") => `(tactic| first | (intro hmem; cases hmem; done) | (simp only [List.mem_cons, List.mem_singleton, List.not_mem_nil, or_false, not_or, not_false_eq_true]; done) | (simp only [List.mem_cons, List.mem_singleton, List.not_mem_nil, or_false, not_or]; (repeat' apply And.intro) <;> first | assumption | exact Ne.symm (by assumption) | exact ne_some (by assumption) (by assumption) | exact Ne.symm (ne_some (by assumption) (by assumption))))
local macro_rules | `(tactic| walk_at "hx") => `(tactic| first | assumption | exact Dt.non | exact Dt.int _ | exact Dt.str _ | exact Dt.bl _ | (refine Dt.ext (by assumption) ?_; walk_at "hx") | (refine DtAll.ext (by assumption) ?_; walk_at "hx") | (refine Ext.at0 (by assumption) ?_; walk_at "hx") | (refine Ext.tupC (by assumption) ?_; walk_at "hx") | (refine Ext.atC (by assumption) ?_ (by walk_at "nm"); walk_at "hx"))
local macro_rules | `(tactic| walk_at "dm") => `(tactic| first | exact fun _ h => h | (refine dom_step (by assumption) ?_; walk_at "dm"))
local macro_rules | `(tactic| walk_at "fr") => `(tactic| first | assumption | (refine fr_of (by assumption) ?_; walk_at "dm"))
local macro_rules | `(tactic| walk_at "ex") => `(tactic| first | assumption | exact Ext.refl | exact Ext.mono0 (by assumption) | (refine Ext.then0 ?_ (by assumption); walk_at "ex") | (refine Ext.transC ?_ (by assumption); walk_at "ex") | (refine Ext.c1 ?_ (by assumption) (by walk_at "fr"); walk_at "ex") | (refine Ext.cm ?_ (by assumption) (by simp only [List.mem_cons, true_or, or_true]; done); walk_at "ex"))
local macro_rules | `(tactic| walk_at "r1") => `(tactic| first
  | (with_reducible refine s_var rfl ?_) | (with_reducible refine s_c ?_) | (with_reducible refine s_op ?_) | (with_reducible refine s_un ?_) | (with_reducible refine s_I0 ?_) | (with_reducible refine s_U ?_)
  | (with_reducible refine s_eqI ?_) | (with_reducible refine s_eqS ?_) | (with_reducible refine s_eqB ?_) | (with_reducible refine s_neI ?_) | (with_reducible refine s_neS ?_) | (with_reducible refine s_neB ?_)
  | (with_reducible refine s_isN1 ?_) | (with_reducible refine s_isN0 ?_) | (with_reducible refine s_notN1 ?_) | (with_reducible refine s_notN0 ?_) | (with_reducible refine s_isBl ?_) | (with_reducible refine s_notBl ?_)
  | (with_reducible refine s_test ?_) | (with_reducible refine s_B ?_) | (with_reducible refine s_bl ?_) | (with_reducible refine s_and ?_) | (with_reducible refine s_or ?_) | (with_reducible refine s_not ?_)
  | (with_reducible refine s_andV ?_) | (with_reducible refine s_orV ?_) | (with_reducible refine s_notV ?_) | (with_reducible refine s_ifE ?_) | (with_reducible refine s_chain ?_)
  | (with_reducible refine s_next ?_) | (with_reducible refine s_seq ?_) | (with_reducible refine s_drop ?_) | (with_reducible refine s_ret ?_) | (with_reducible refine s_retN ?_) | (with_reducible refine s_ifS ?_) | (with_reducible refine s_asg ?_)
  | ((with_reducible refine g_name ?_); refine s_name (by first | rfl) ?_) | (with_reducible refine s_parS ?_) | (with_reducible refine s_par ?_) | ((with_reducible refine g_nx ?_); refine s_nx rfl ?_) | (with_reducible refine s_gsub ?_) | (with_reducible refine s_gnil ?_) | (with_reducible refine s_gcons ?_)
  | (with_reducible refine s_call ?_) | (with_reducible refine s_cb ?_) | (with_reducible refine s_nil ?_) | (with_reducible refine s_cons ?_) | (with_reducible refine s_tupT ?_) | (with_reducible refine s_lstT ?_)
  | (with_reducible refine s_sl ?_) | (with_reducible refine s_nopart ?_) | (with_reducible refine s_part ?_) | (with_reducible refine s_int ?_) | (with_reducible refine s_bm ?_) | (with_reducible refine s_dget ?_) | (with_reducible refine s_dputS ?_)
  | (with_reducible refine s_forS ?_) | (with_reducible refine s_lc ?_) | (with_reducible refine s_iTup ?_) | (with_reducible refine s_iList ?_) | (with_reducible refine s_iRng1 ?_) | (with_reducible refine s_iRng2 ?_) | (with_reducible refine s_tYes ?_) | (with_reducible refine s_intI ?_) | (with_reducible refine s_intB ?_) | (with_reducible refine s_min2 ?_) | (with_reducible refine s_max2 ?_) | (with_reducible refine s_abs ?_) | (with_reducible refine s_revL ?_) | (with_reducible refine s_iEnumT ?_) | (with_reducible refine s_iEnum ?_) | (with_reducible refine s_iZipA ?_) | (with_reducible refine s_iZipM ?_) | (with_reducible refine s_iZip ?_) | (with_reducible refine s_iStr ?_) | (with_reducible refine s_star ?_) | (with_reducible refine s_lc2 ?_) | (with_reducible refine s_dc ?_) | (with_reducible refine s_bm ?_)
  | (with_reducible refine isi_int _ ?_) | (with_reducible refine isi_intB _ ?_) | (with_reducible refine isi_str _ ?_) | (with_reducible refine isi_non ?_)
  | (with_reducible refine iteT ?_) | (with_reducible refine iteF ?_) | (with_reducible refine iteNT ?_) | (with_reducible refine iteNF ?_))
local macro_rules | `(tactic| walk_at "r2") => `(tactic| first
  | ((with_reducible refine g_ixT ?_); first | (refine s_ixT (by walk_at "hx") rfl ?_) | (refine s_ixDs (by walk_at "hx") rfl ?_) | (refine s_ixDi (by walk_at "hx") rfl ?_) | (refine s_ixD (by walk_at "hx") rfl (fun _ _ => ?_)) | (refine s_ixD0s (by walk_at "hx") ?_))
  | ((with_reducible refine g_form ?_); first | (refine isDev_non ?_) | (refine isBr_non ?_) | (refine isDev_dev (by walk_at "hx") ?_) | (refine isDev_br (by walk_at "hx") ?_) | (refine isBr_dev (by walk_at "hx") ?_) | (refine isBr_br (by walk_at "hx") ?_))
  | ((with_reducible refine g_isi ?_); first | (with_reducible refine isi_dt (by walk_at "hx") ?_) | (with_reducible refine isi_tup (by walk_at "hx") ?_))
  | ((with_reducible refine g_len ?_); first | (with_reducible refine s_lenL (by walk_at "hx") ?_) | (with_reducible refine s_lenT (by walk_at "hx") ?_) | (with_reducible refine s_lenD (by walk_at "hx") ?_))
  | ((with_reducible refine g_ty ?_); first | (refine s_tyK (by assumption) ?_) | (with_reducible refine s_tyL (by walk_at "hx") ?_))
  | ((with_reducible refine g_tix ?_); first | (refine s_idx0 (by assumption) ?_) | (refine s_idx1 (by assumption) ?_))
  | ((with_reducible refine g_enT ?_); with_reducible refine s_enT (by walk_at "hx") ?_) | ((with_reducible refine g_enL ?_); with_reducible refine s_enL (by walk_at "hx") ?_)
  | ((with_reducible refine g_za ?_); first | (with_reducible refine s_zaT2 (by walk_at "hx") (by walk_at "hx") ?_) | (with_reducible refine s_zaL (by walk_at "hx") (by walk_at "hx") ?_))
  | ((with_reducible refine g_zm ?_); first | (with_reducible refine s_zmT (by walk_at "hx") (by walk_at "hx") ?_) | (with_reducible refine s_zmL (by walk_at "hx") (by walk_at "hx") ?_))
  | ((with_reducible refine g_zl ?_); with_reducible refine s_zl (by walk_at "hx") (by walk_at "hx") ?_)
  | ((with_reducible refine g_itT ?_); with_reducible refine s_itT (by walk_at "hx") ?_) | ((with_reducible refine g_itL ?_); with_reducible refine s_itL (by walk_at "hx") ?_)
  | ((with_reducible refine g_gtup ?_); refine s_gtup (by walk_at "hx") rfl ?_))
local macro_rules | `(tactic| walk_at "rd") => `(tactic| repeat (first | walk_at "r1" | walk_at "r2"))
local macro_rules | `(tactic| walk_at "sz") => `(tactic| (simp only [List.length_cons, List.length_nil, List.length_append, List.length_map, sizeLine_eq] <;> omega))
section
variable {P : Program} {w : World} {K : PySem.W.Frag} {mg : Str → Option Value} {base : Heap} {kd : Addr} {k : Nat}
abbrev sx_room_below : Stmt := top 39
abbrev N_room_below : List Str := ["row", "kind", "window"]
theorem sc_room_below : FnScope N_room_below ["row", "kind"] (defScope sx_room_below) := ⟨rfl, rfl, rfl, by decide +kernel, rfl, by decide +kernel, by decide +kernel⟩
theorem ok_room_below (bi : Bi mg kd) (hK : Kd K kd) (T : At K mg "room_below" sx_room_below ["row", "kind"]) : Cal P w K mg base (k + 1) "room_below" spRoomBelow [] := by
  refine T.ok sc_room_below (fun vs H Q E h => ?_) (fun f cdv A outer s H vs Q E hr h => ?_)
  · obtain ⟨x, n, f, e, kk, rfl, _⟩ := h
    rfl
  have nd := sc_room_below.nd
  obtain ⟨x, n, fo, eo, kk, rfl, hx, hkk, q⟩ := h
  have hx : Dt H x (.tuple [.str n, encO fo, encO eo]) := hx
  refine ⟨_, (pss_cons (ps_set (i := 2) nd rfl (Or.inl rfl) (pe_ix ix_tup (pv 0) (pe_op op_add pe_int (pe_bm PySem.F.plainAttrs_tuple PySem.F.slot_tuple_index PySem.F.type_tuple_index mt_idx (pe_gc (by rfl) bi.KINDS) (pa_cons (pv 1) pa_nil))) (fun _ _ => rfl)))
      (pss_one (ps_ret (pe_ifExp (pt_cmpR op_isN1 (pv 2) pe_non (nomark _)) (pe_tup pa_nil) (pe_tup (pa_cons (pv 2) pa_nil)))))), ?_⟩
  rcases hkk with rfl | rfl
  · rw [show win kF fo eo = fo from if_pos rfl] at q
    walk_at "rd"
    rename_i xv hxv
    cases fo with
    | none =>
      have := hxv.non_eq
      subst this
      walk_at "rd"
      exact s_newD (by walk_at "sz") .nil q
    | some b =>
      obtain ⟨t, rfl, ht⟩ := hxv.blkE
      walk_at "rd"
      exact s_newD (by walk_at "sz") (.one hxv) q
  · rw [show win kN fo eo = eo from if_neg (fun z => kF_ne z.symm)] at q
    walk_at "rd"
    rename_i xv hxv
    cases eo with
    | none =>
      have := hxv.non_eq
      subst this
      walk_at "rd"
      exact s_newD (by walk_at "sz") .nil q
    | some b =>
      obtain ⟨t, rfl, ht⟩ := hxv.blkE
      walk_at "rd"
      exact s_newD (by walk_at "sz") (.one hxv) q
abbrev sx_blocks_of : Stmt := top 34
abbrev N_blocks_of : List Str := ["part", "row", "kind", "window", "block", "own", "size"]
theorem sc_blocks_of : FnScope N_blocks_of ["part", "row", "kind"] (defScope sx_blocks_of) := ⟨rfl, rfl, rfl, by decide +kernel, rfl, by decide +kernel, by decide +kernel⟩
theorem ok_blocks_of (bi : Bi mg kd) (hK : Kd K kd) (T : At K mg "blocks_of" sx_blocks_of ["part", "row", "kind"]) (c_is_device : Cal P w K mg base k "is_device" (spForm "device" 3) []) : Cal P w K mg base (k + 1) "blocks_of" spBlocksOf [] := by
  refine T.ok sc_blocks_of (fun vs H Q E h => ?_) (fun f cdv A outer s H vs Q E hr h => ?_)
  · obtain ⟨v, x, p, A, kk, rfl, _⟩ := h
    rfl
  have nd := sc_blocks_of.nd
  obtain ⟨v, x, p, AA, kk, rfl, hv, hp0, hcn, ha, hx, hkk, q⟩ := h
  cases p with
  | emp => exact absurd rfl hp0
  | dev n as =>
    obtain ⟨bs, e, hd⟩ := ha
    obtain ⟨t, u, us, rfl, ht, hu, hus⟩ := hv.devE
    rw [show AA (Part.dev n as).nm = .dev n bs from e] at hx
    have hx : Dt H x (.tuple [.str n, .tuple (bs.map encB)]) := hx
    obtain ⟨tx, xx, rfl, htx, hxx⟩ := hx.tupE
    rw [bk_dev e] at q
    cases hxx with
    | cons g1 g2 => cases g2 with
      | cons g2 g3 =>
        cases g3
        rw [g1.str_eq] at htx
        obtain ⟨b, ys, rfl, hb, hys⟩ := g2.tupE
        have hul : us.length = as.length := by rw [hus.len, List.length_map]
        have hyl : ys.length = as.length := by rw [hys.len, List.length_map, dok_len hd]
        have hal : as.length ≤ 1000 := by
          have : 1 + as.length ≤ 1000 := hcn
          omega
        refine ⟨_, (pss_cons (ps_if (pt_val (pe_c c_is_device hr (by omega) (by rfl) (pa_cons (pv 0) pa_nil))) (pss_one (ps_ret (pe_lc (own := [("block", 4), ("own", 5), ("size", 6)]) (g := gTup K 2 (gCons (gName 4) (gCons (gTup K 2 (gCons (gName 5) (gCons (gName 6) (gNil)))) (gNil)))) (by rfl) nd (pi_zipA (by rfl) bi.zip (pa_cons (pe_ix ix_tup (pv 1) pe_int (fun _ _ => rfl)) (pa_cons (pe_ix ix_tup (pv 0) pe_int (fun _ _ => rfl)) pa_nil))) (blkOk_by (own := [("block", 4), ("own", 5), ("size", 6)]) (N := N_blocks_of) (sc := defScope sx_blocks_of) (by decide +kernel)) (fun _ _ _ _ _ => (pg_tup rfl (pgs_cons (pg_name (i := 4) nd rfl (Or.inl rfl)) (pgs_cons (pg_tup rfl (pgs_cons (pg_name (i := 5) nd rfl (Or.inl rfl)) (pgs_cons (pg_name (i := 6) nd rfl (Or.inl rfl)) pgs_nil))) pgs_nil)))) (fun _ _ _ _ _ => pts_one (pt_cmpR op_eq (pv 5) (pv 2) (nomark _))) (fun _ _ _ _ _ => (pv 4))))) pss_nil)
      (pss_cons (ps_set (i := 3) nd rfl (Or.inl rfl) (pe_ix ix_tup (pv 1) (pe_op op_add pe_int (pe_bm PySem.F.plainAttrs_tuple PySem.F.slot_tuple_index PySem.F.type_tuple_index mt_idx (pe_gc (by rfl) bi.KINDS) (pa_cons (pv 2) pa_nil))) (fun _ _ => rfl)))
      (pss_one (ps_ret (pe_ifExp (pt_cmpR op_isN1 (pv 3) pe_non (nomark _)) (pe_lst pa_nil) (pe_lst (pa_cons (pv 3) pa_nil))))))), ?_⟩
        walk_at "rd"
        refine lc_W (walk_zipT hyl hul) [] (fun i acc H' => DtAll H' acc ((pickK kk (bs.take i) (as.take i)).map encB)) (fun H' e => ⟨SqT.of (e.tup _ _ hb), SqT.of (e.tup _ _ hu)⟩) (fun _ _ => by rw [List.take_zero, List.take_zero]; exact .nil) (fun i x D acc H2 H3 hi hD e hacc hl hR y => ?_) (fun D acc H' hD e hacc hl hR => ?_)
        · obtain ⟨T2, x1, z1, rfl, hT, e2, hT2, hx1, hz1⟩ := YPair.get y
          obtain ⟨d1, hd1, hxd⟩ := hys.getV hx1
          obtain ⟨c, hc, rfl⟩ := map_at hd1
          obtain ⟨d2, hd2, hzd⟩ := hus.getV hz1
          obtain ⟨a, ha, rfl⟩ := map_at hd2
          have hxd2 := hxd.e0 (show Ext [] H H3 by walk_at "ex")
          obtain ⟨ta, rfl, hta⟩ := (hzd.e0 (show Ext [] H H3 by walk_at "ex")).areaE
          walk_at "rd"
          refine ⟨rfl, ?_⟩
          walk_at "rd"
          refine ifd (fun cc => ?_) (fun cc => ?_)
          · walk_at "rd"
            refine lc_put hD (by walk_at "ex") (by walk_at "hx") hl (by omega) (fun H5 e5 => ?_)
            rw [pick_take kk hc ha, if_pos cc, List.map_append]
            exact (hR.ext (M := [D]) (by walk_at "ex")).append (.one (hxd2.ext e5))
          · refine lc_skip (by walk_at "ex") (by walk_at "hx") hl ?_
            rw [pick_take kk hc ha, if_neg cc, List.append_nil]
            exact hR.e0 e2
        · rw [pick_all kk (dok_len hd)] at hR
          walk_at "rd"
          exact q _ _ _ (by walk_at "fr") (by walk_at "ex") hacc hR
  | br n ms ps =>
    obtain ⟨fo, eo, e, w1, w2, _⟩ := ha
    obtain ⟨t, m, u, us, rfl, ht, hm, hu, hus⟩ := hv.brE
    rw [show AA (Part.br n ms ps).nm = .br n fo eo from e] at hx
    have hx : Dt H x (.tuple [.str n, encO fo, encO eo]) := hx
    rw [bk_br e] at q
    refine ⟨_, (pss_cons (ps_if (pt_val (pe_c c_is_device hr (by omega) (by rfl) (pa_cons (pv 0) pa_nil))) (pss_one (ps_ret (pe_lc (own := [("block", 4), ("own", 5), ("size", 6)]) (g := gTup K 2 (gCons (gName 4) (gCons (gTup K 2 (gCons (gName 5) (gCons (gName 6) (gNil)))) (gNil)))) (by rfl) nd (pi_zipA (by rfl) bi.zip (pa_cons (pe_ix ix_tup (pv 1) pe_int (fun _ _ => rfl)) (pa_cons (pe_ix ix_tup (pv 0) pe_int (fun _ _ => rfl)) pa_nil))) (blkOk_by (own := [("block", 4), ("own", 5), ("size", 6)]) (N := N_blocks_of) (sc := defScope sx_blocks_of) (by decide +kernel)) (fun _ _ _ _ _ => (pg_tup rfl (pgs_cons (pg_name (i := 4) nd rfl (Or.inl rfl)) (pgs_cons (pg_tup rfl (pgs_cons (pg_name (i := 5) nd rfl (Or.inl rfl)) (pgs_cons (pg_name (i := 6) nd rfl (Or.inl rfl)) pgs_nil))) pgs_nil)))) (fun _ _ _ _ _ => pts_one (pt_cmpR op_eq (pv 5) (pv 2) (nomark _))) (fun _ _ _ _ _ => (pv 4))))) pss_nil)
      (pss_cons (ps_set (i := 3) nd rfl (Or.inl rfl) (pe_ix ix_tup (pv 1) (pe_op op_add pe_int (pe_bm PySem.F.plainAttrs_tuple PySem.F.slot_tuple_index PySem.F.type_tuple_index mt_idx (pe_gc (by rfl) bi.KINDS) (pa_cons (pv 2) pa_nil))) (fun _ _ => rfl)))
      (pss_one (ps_ret (pe_ifExp (pt_cmpR op_isN1 (pv 3) pe_non (nomark _)) (pe_lst pa_nil) (pe_lst (pa_cons (pv 3) pa_nil))))))), ?_⟩
    rcases hkk with rfl | rfl
    · rw [show win kF fo eo = fo from if_pos rfl] at q
      walk_at "rd"
      rename_i xv hxv
      cases fo with
      | none =>
        have := hxv.non_eq
        subst this
        walk_at "rd"
        exact s_newX (by walk_at "sz") fun p H1 hp e1 h1 => q _ _ _ hp e1 h1 .nil
      | some b =>
        obtain ⟨t, rfl, ht⟩ := hxv.blkE
        walk_at "rd"
        exact s_newX (by walk_at "sz") fun p H1 hp e1 h1 => q _ _ _ hp e1 h1 (.one (hxv.ext e1))
    · rw [show win kN fo eo = eo from if_neg (fun z => kF_ne z.symm)] at q
      walk_at "rd"
      rename_i xv hxv
      cases eo with
      | none =>
        have := hxv.non_eq
        subst this
        walk_at "rd"
        exact s_newX (by walk_at "sz") fun p H1 hp e1 h1 => q _ _ _ hp e1 h1 .nil
      | some b =>
        obtain ⟨t, rfl, ht⟩ := hxv.blkE
        walk_at "rd"
        exact s_newX (by walk_at "sz") fun p H1 hp e1 h1 => q _ _ _ hp e1 h1 (.one (hxv.ext e1))
abbrev sx_blocks_on : Stmt := top 35
abbrev N_blocks_on : List Str := ["parts", "rows", "kind", "part", "block"]
theorem sc_blocks_on : FnScope N_blocks_on ["parts", "rows", "kind"] (defScope sx_blocks_on) := ⟨rfl, rfl, rfl, by decide +kernel, rfl, by decide +kernel, by decide +kernel⟩
theorem ok_blocks_on (bi : Bi mg kd) (T : At K mg "blocks_on" sx_blocks_on ["parts", "rows", "kind"]) (c_blocks_of : Cal P w K mg base k "blocks_of" spBlocksOf []) : Cal P w K mg base (k + 1) "blocks_on" spBlocksOn [] := by
  refine T.ok sc_blocks_on (fun vs H Q E h => ?_) (fun f cdv A outer s H vs Q E hr h => ?_)
  · obtain ⟨v, d, ps, kvs, A, kk, rfl, _⟩ := h
    rfl
  have nd := sc_blocks_on.nd
  obtain ⟨v, d, ps, kvs, AA, kk, rfl, hv, hd, hin, hcn, ha, hkk, q⟩ := h
  obtain ⟨a, xs, rfl, ha0, hs⟩ := hv.tupE
  have hxl : xs.length = ps.length := by rw [hs.len, encs_len]
  refine ⟨_, (pss_one (ps_ret (pe_lc2 (own := [("part", 3), ("block", 4)]) (g := gName 3) (g1 := gName 4) (vs1 := [4]) (by rfl) nd (pi_tup (pv 0)) (blkOk_by (own := [("part", 3), ("block", 4)]) (N := N_blocks_on) (sc := defScope sx_blocks_on) (by decide +kernel)) (by decide) (fun _ _ _ _ _ => (pg_name (i := 3) nd rfl (Or.inl rfl))) (fun _ _ _ _ _ => pts_one (pt_cmpR op_notN1 (pv 3) pe_non (nomark _))) (fun _ _ _ _ _ => (pi_listK (K := K) rfl (pe_c c_blocks_of hr (by omega) (by rfl) (pa_cons (pv 3) (pa_cons (pe_dget (hu_of hr) (pv 1) (pe_ix (ix_tupK (K := K) rfl) (pv 3) pe_int (fun _ _ => rfl)) (fun _ _ => rfl)) (pa_cons (pv 2) pa_nil)))))) (fun _ _ _ _ _ => (pg_name (i := 4) nd rfl (Or.inl rfl))) (fun _ _ _ _ _ => pts_nil) (fun _ _ _ _ _ => (pv 4))))), ?_⟩
  walk_at "rd"
  refine lc2_W walk_tup (fun D i H' => Ext [] H H' ∧ ∃ acc, H' D = some (.lst acc) ∧ DtAll H' acc ((bks kk AA (ps.take i)).map encB)) (fun D i H' h => SqT.of (h.1.tup _ _ ha0)) (fun D H' hD e h => ⟨e, _, h, .nil⟩) (fun i x D H2 H3 hi hD hP y => ?_) (fun D H' hD hP => ?_)
  · obtain ⟨rfl, hx⟩ := y
    obtain ⟨e, acc, hacc, hR⟩ := hP
    obtain ⟨d2, hd2, hxd0⟩ := hs.getV hx
    obtain ⟨p, hp, rfl⟩ := encs_at hd2
    have hxd := hxd0.ext e
    have hpm := mem_at hp
    have hcp := cnt_mem hpm
    have hbl := bks_len kk AA (ps.take i)
    have hct := cnts_take ps i
    have hstep := bks_take (k := kk) (A := AA) hp
    have hbk := bk_len kk AA p
    walk_at "rd"
    refine ⟨rfl, ?_⟩
    by_cases hp0 : p = .emp
    · subst hp0
      have := hxd.empE
      subst this
      walk_at "rd"
      refine ⟨e, acc, hacc, ?_⟩
      rw [hstep]
      show DtAll _ _ ((_ ++ ([] : List Blk)).map encB)
      rw [List.append_nil]
      exact hR
    · have hxr : ∃ t, x = .ref t := by
        cases p with
        | emp => exact absurd rfl hp0
        | dev n as => obtain ⟨t, _, _, e, _⟩ := hxd.devE; exact ⟨t, e⟩
        | br n ms ps => obtain ⟨t, _, _, _, e, _⟩ := hxd.brE; exact ⟨t, e⟩
      obtain ⟨t, rfl⟩ := hxr
      obtain ⟨xr, hxr1, hxr2⟩ := hin p hpm hp0
      have hpn : Dt H3 (.ref t) p.enc → ∀ {Q : VK}, Q (.str p.nm) H3 → rIxT K (.ref t) (.int 1) H3 Q := fun hxd {Q} q => by
        cases p with
        | emp => exact absurd rfl hp0
        | dev n as => obtain ⟨t, _, _, e, ht, _⟩ := hxd.devE; cases e; exact s_ixT ht rfl q
        | br n ms ps => obtain ⟨t, _, _, _, e, ht, _⟩ := hxd.brE; cases e; exact s_ixT ht rfl q
      walk_at "rd"
      refine hpn hxd ?_
      walk_at "rd"
      refine s_dgetK (k := .inr p.nm) (show H3 d = _ by walk_at "hx") rfl hxr1 ?_
      walk_at "rd"
      refine ⟨_, _, p, AA, _, rfl, hxd, hp0, by omega, asgPs_iff.mp ha p hpm, hxr2.ext e, hkk, fun l ys H4 hl e4 h4 hys => ?_⟩
      walk_at "rd"
      have hyl : ys.length = (bk kk AA p).length := by rw [hys.len, List.length_map]
      have hal : acc.length = (bks kk AA (ps.take i)).length := by rw [hR.len, List.length_map]
      have hDl : D ≠ l := ne_some hacc hl
      refine lc2_in walk_list (fun j H' => Ext [D] H4 H' ∧ H' l = some (.lst ys) ∧ H' D = some (.lst (acc ++ ys.take j))) ⟨.refl, h4, by rw [List.take_zero, List.append_nil]; walk_at "hx"⟩ (fun j H' h => SqL.of h.2.1) (fun j x H5 H6 hj hP y => ?_) (fun H' hP => ?_)
      · obtain ⟨rfl, hx⟩ := y
        obtain ⟨e5, h5l, h5D⟩ := hP
        walk_at "rd"
        refine ⟨rfl, ?_⟩
        walk_at "rd"
        refine ⟨_, h5D, by rw [List.length_append, List.length_take, sizeLine_eq]; omega, e5.trans (Ext.mutL h5D), (by rw [upd_ne hDl.symm]; exact h5l), ?_⟩
        rw [upd_same, take1 hx, List.append_assoc]
      · obtain ⟨e5, h5l, h5D⟩ := hP
        rw [List.take_length] at h5D
        refine ⟨by walk_at "ex", _, h5D, ?_⟩
        rw [hstep, List.map_append]
        exact (hR.ext (M := [D]) (by walk_at "ex")).append (hys.ext e5)
  · obtain ⟨e, acc, hacc, hR⟩ := hP
    rw [hxl, List.take_length] at hR
    walk_at "rd"
    exact q _ _ _ hD e hacc hR
end
end Bw

/-! the program: are_placed, assignment_holds -/
namespace Bw
open PySem PySem.Spec PyProof.Rows L2
open C8 (Cal pe_c pe_gc)
open StX (pa_star tStar)
open RZ (pi_zipA iZipA)
-- the tactics of this text, by key
local macro_rules | `(tactic| walk_at "nm") => `(tactic| first | (intro hmem; cases hmem; done) | (simp only [List.mem_cons, List.mem_singleton, List.not_mem_nil, or_false, not_or, not_false_eq_true]; done) | (simp only [List.mem_cons, List.mem_singleton, List.not_mem_nil, or_false, not_or]; (repeat' apply And.intro) <;> first | assumption | exact Ne.symm (by assumption) | exact ne_some (by assumption) (by assumption) | exact Ne.symm (ne_some (by assumption) (by assumption))))
local macro_rules | `(tactic| walk_at "hx") => `(tactic| first | assumption | exact Dt.non | exact Dt.int _ | exact Dt.str _ | exact Dt.bl _ | (refine Dt.ext (by assumption) ?_; walk_at "hx") | (refine DtAll.ext (by assumption) ?_; walk_at "hx") | (refine Ext.at0 (by assumption) ?_; walk_at "hx") | (refine Ext.tupC (by assumption) ?_; walk_at "hx") | (refine Ext.atC (by assumption) ?_ (by walk_at "nm"); walk_at "hx"))
local macro_rules | `(tactic| walk_at "dm") => `(tactic| first | exact fun _ h => h | (refine dom_step (by assumption) ?_; walk_at "dm"))
local macro_rules | `(tactic| walk_at "fr") => `(tactic| first | assumption | (refine fr_of (by assumption) ?_; walk_at "dm"))
local macro_rules | `(tactic| walk_at "ex") => `(tactic| first | assumption | exact Ext.refl | exact Ext.mono0 (by assumption) | (refine Ext.then0 ?_ (by assumption); walk_at "ex") | (refine Ext.transC ?_ (by assumption); walk_at "ex") | (refine Ext.c1 ?_ (by assumption) (by walk_at "fr"); walk_at "ex") | (refine Ext.cm ?_ (by assumption) (by simp only [List.mem_cons, true_or, or_true]; done); walk_at "ex"))
local macro_rules | `(tactic| walk_at "r1") => `(tactic| first
  | (with_reducible refine s_var rfl ?_) | (with_reducible refine s_c ?_) | (with_reducible refine s_op ?_) | (with_reducible refine s_un ?_) | (with_reducible refine s_I0 ?_) | (with_reducible refine s_U ?_)
  | (with_reducible refine s_eqI ?_) | (with_reducible refine s_eqS ?_) | (with_reducible refine s_eqB ?_) | (with_reducible refine s_neI ?_) | (with_reducible refine s_neS ?_) | (with_reducible refine s_neB ?_)
  | (with_reducible refine s_isN1 ?_) | (with_reducible refine s_isN0 ?_) | (with_reducible refine s_notN1 ?_) | (with_reducible refine s_notN0 ?_) | (with_reducible refine s_isBl ?_) | (with_reducible refine s_notBl ?_)
  | (with_reducible refine s_test ?_) | (with_reducible refine s_B ?_) | (with_reducible refine s_bl ?_) | (with_reducible refine s_and ?_) | (with_reducible refine s_or ?_) | (with_reducible refine s_not ?_)
  | (with_reducible refine s_andV ?_) | (with_reducible refine s_orV ?_) | (with_reducible refine s_notV ?_) | (with_reducible refine s_ifE ?_) | (with_reducible refine s_chain ?_)
  | (with_reducible refine s_next ?_) | (with_reducible refine s_seq ?_) | (with_reducible refine s_drop ?_) | (with_reducible refine s_ret ?_) | (with_reducible refine s_retN ?_) | (with_reducible refine s_ifS ?_) | (with_reducible refine s_asg ?_)
  | ((with_reducible refine g_name ?_); refine s_name (by first | rfl) ?_) | (with_reducible refine s_parS ?_) | (with_reducible refine s_par ?_) | ((with_reducible refine g_nx ?_); refine s_nx rfl ?_) | (with_reducible refine s_gsub ?_) | (with_reducible refine s_gnil ?_) | (with_reducible refine s_gcons ?_)
  | (with_reducible refine s_call ?_) | (with_reducible refine s_cb ?_) | (with_reducible refine s_nil ?_) | (with_reducible refine s_cons ?_) | (with_reducible refine s_tupT ?_) | (with_reducible refine s_lstT ?_)
  | (with_reducible refine s_sl ?_) | (with_reducible refine s_nopart ?_) | (with_reducible refine s_part ?_) | (with_reducible refine s_int ?_) | (with_reducible refine s_bm ?_) | (with_reducible refine s_dget ?_) | (with_reducible refine s_dputS ?_)
  | (with_reducible refine s_forS ?_) | (with_reducible refine s_lc ?_) | (with_reducible refine s_iTup ?_) | (with_reducible refine s_iList ?_) | (with_reducible refine s_iRng1 ?_) | (with_reducible refine s_iRng2 ?_) | (with_reducible refine s_tYes ?_) | (with_reducible refine s_intI ?_) | (with_reducible refine s_intB ?_) | (with_reducible refine s_min2 ?_) | (with_reducible refine s_max2 ?_) | (with_reducible refine s_abs ?_) | (with_reducible refine s_revL ?_) | (with_reducible refine s_iEnumT ?_) | (with_reducible refine s_iEnum ?_) | (with_reducible refine s_iZipA ?_) | (with_reducible refine s_iZipM ?_) | (with_reducible refine s_iZip ?_) | (with_reducible refine s_iStr ?_) | (with_reducible refine s_star ?_) | (with_reducible refine s_lc2 ?_) | (with_reducible refine s_dc ?_) | (with_reducible refine s_bm ?_)
  | (with_reducible refine isi_int _ ?_) | (with_reducible refine isi_intB _ ?_) | (with_reducible refine isi_str _ ?_) | (with_reducible refine isi_non ?_)
  | (with_reducible refine iteT ?_) | (with_reducible refine iteF ?_) | (with_reducible refine iteNT ?_) | (with_reducible refine iteNF ?_))
local macro_rules | `(tactic| walk_at "r2") => `(tactic| first
  | ((with_reducible refine g_ixT ?_); first | (refine s_ixT (by walk_at "hx") rfl ?_) | (refine s_ixDs (by walk_at "hx") rfl ?_) | (refine s_ixDi (by walk_at "hx") rfl ?_) | (refine s_ixD (by walk_at "hx") rfl (fun _ _ => ?_)) | (refine s_ixD0s (by walk_at "hx") ?_))
  | ((with_reducible refine g_form ?_); first | (refine isDev_non ?_) | (refine isBr_non ?_) | (refine isDev_dev (by walk_at "hx") ?_) | (refine isDev_br (by walk_at "hx") ?_) | (refine isBr_dev (by walk_at "hx") ?_) | (refine isBr_br (by walk_at "hx") ?_))
  | ((with_reducible refine g_isi ?_); first | (with_reducible refine isi_dt (by walk_at "hx") ?_) | (with_reducible refine isi_tup (by walk_at "hx") ?_))
  | ((with_reducible refine g_len ?_); first | (with_reducible refine s_lenL (by walk_at "hx") ?_) | (with_reducible refine s_lenT (by walk_at "hx") ?_) | (with_reducible refine s_lenD (by walk_at "hx") ?_))
  | ((with_reducible refine g_ty ?_); first | (refine s_tyK (by assumption) ?_) | (with_reducible refine s_tyL (by walk_at "hx") ?_))
  | ((with_reducible refine g_tix ?_); first | (refine s_idx0 (by assumption) ?_) | (refine s_idx1 (by assumption) ?_))
  | ((with_reducible refine g_enT ?_); with_reducible refine s_enT (by walk_at "hx") ?_) | ((with_reducible refine g_enL ?_); with_reducible refine s_enL (by walk_at "hx") ?_)
  | ((with_reducible refine g_za ?_); first | (with_reducible refine s_zaT2 (by walk_at "hx") (by walk_at "hx") ?_) | (with_reducible refine s_zaL (by walk_at "hx") (by walk_at "hx") ?_))
  | ((with_reducible refine g_zm ?_); first | (with_reducible refine s_zmT (by walk_at "hx") (by walk_at "hx") ?_) | (with_reducible refine s_zmL (by walk_at "hx") (by walk_at "hx") ?_))
  | ((with_reducible refine g_zl ?_); with_reducible refine s_zl (by walk_at "hx") (by walk_at "hx") ?_)
  | ((with_reducible refine g_itT ?_); with_reducible refine s_itT (by walk_at "hx") ?_) | ((with_reducible refine g_itL ?_); with_reducible refine s_itL (by walk_at "hx") ?_)
  | ((with_reducible refine g_gtup ?_); refine s_gtup (by walk_at "hx") rfl ?_))
local macro_rules | `(tactic| walk_at "rd") => `(tactic| repeat (first | walk_at "r1" | walk_at "r2"))
local macro_rules | `(tactic| walk_at "sz") => `(tactic| (simp only [List.length_cons, List.length_nil, List.length_append, List.length_map, sizeLine_eq] <;> omega))
section
variable {P : Program} {w : World} {K : PySem.W.Frag} {mg : Str → Option Value} {base : Heap} {kd : Addr} {k : Nat}
abbrev sx_are_placed : Stmt := top 38
abbrev N_are_placed : List Str := ["blocks", "room", "one", "held"]
theorem sc_are_placed : FnScope N_are_placed ["blocks", "room"] (defScope sx_are_placed) := ⟨rfl, rfl, rfl, by decide +kernel, rfl, by decide +kernel, by decide +kernel⟩
theorem ok_are_placed (bi : Bi mg kd) (T : At K mg "are_placed" sx_are_placed ["blocks", "room"]) (c_are_apart : Cal P w K mg base k "are_apart" spAreApart []) (c_lies_within : Cal P w K mg base k "lies_within" spLiesWithin []) : Cal P w K mg base (k + 1) "are_placed" spArePlaced [] := by
  refine T.ok sc_are_placed (fun vs H Q E h => ?_) (fun f cdv A outer s H vs Q E hr h => ?_)
  · obtain ⟨l, r, xs, bs, room, rfl, _⟩ := h
    rfl
  have nd := sc_are_placed.nd
  obtain ⟨l, r, xs, bs, room, rfl, hl0, hs, hlen, hpl, hpos, hr0, hrl, q⟩ := h
  obtain ⟨a, ys, rfl, ha, hys⟩ := hr0.tupE
  have hxl : xs.length = bs.length := by rw [hs.len, List.length_map]
  have hyl : ys.length = room.length := by rw [hys.len, List.length_map]
  refine ⟨_, (pss_one (ps_ret (pe_and (pe_c c_are_apart hr (by omega) (by rfl) (pa_cons (pv 0) pa_nil)) (pe_one (pe_callB (cr_all rfl) (by rfl) bi.all (by decide +kernel) (pa_cons (pe_lc (own := [("one", 2)]) (g := gName 2) (by rfl) nd (pi_list (pv 0)) (blkOk_by (own := [("one", 2)]) (N := N_are_placed) (sc := defScope sx_are_placed) (by decide +kernel)) (fun _ _ _ _ _ => (pg_name (i := 2) nd rfl (Or.inr rfl))) (fun _ _ _ _ _ => pts_nil) (fun _ _ _ _ _ => (pe_callB (cr_anyK (K := K) rfl rfl) (by rfl) bi.any (by decide +kernel) (pa_cons (pe_lc (own := [("held", 3)]) (g := gName 3) (by rfl) nd (pi_tupK (K := K) rfl (pv 1)) (blkOk_by (own := [("held", 3)]) (N := N_are_placed) (by rfl)) (fun _ _ _ _ _ => (pg_name (i := 3) nd rfl (Or.inl rfl))) (fun _ _ _ _ _ => pts_nil) (fun _ _ _ _ _ => (pe_c c_lies_within hr (by omega) (by rfl) (pa_cons (pv 2) (pa_cons (pv 3) pa_nil))))) pa_nil)))) pa_nil)))))), ?_⟩
  walk_at "rd"
  refine ⟨l, xs, bs, rfl, hl0, hs, hlen, hpl.ap, hpos, fun H1 e1 => ?_⟩
  walk_at "rd"
  refine lc_W walk_list [] (fun i acc H' => acc = (List.replicate i true).map V.bl) (fun H' e => SqL.of (e.at0 (e1.at0 hl0))) (fun _ _ => rfl) (fun i x D acc H3 H4 hi hD e hacc hl hR y => ?_) (fun D acc H' hD e hacc hl hR => ?_)
  · obtain ⟨rfl, hx⟩ := y
    obtain ⟨d1, hd1, hxd⟩ := hs.getV hx
    obtain ⟨b, hb, rfl⟩ := map_at hd1
    obtain ⟨c, hc, hwi⟩ := hpl.wi b (mem_at hb)
    walk_at "rd"
    refine ⟨rfl, ?_⟩
    walk_at "rd"
    refine lc_W walk_tup [] (fun j acc2 H' => acc2 = ((room.take j).map fun c => decide (Within b c)).map V.bl) (fun H' e2 => SqT.of (e2.tup _ _ (e.tup _ _ (e1.tup _ _ ha)))) (fun _ _ => rfl) (fun j y D2 acc2 H5 H6 hj hD2 e2 hacc2 hl2 hR2 y2 => ?_) (fun D2 acc2 H' hD2 e2 hacc2 hl2 hR2 => ?_)
    · obtain ⟨rfl, hy⟩ := y2
      obtain ⟨d2, hd2, hyd⟩ := hys.getV hy
      obtain ⟨c2, hc2, rfl⟩ := map_at hd2
      walk_at "rd"
      refine ⟨rfl, ?_⟩
      walk_at "rd"
      refine ⟨_, _, b, c2, rfl, hxd.e0 (by walk_at "ex"), hyd.e0 (by walk_at "ex"), ?_⟩
      refine lc_put hD2 (by walk_at "ex") (by walk_at "hx") hl2 (by omega) (fun H7 e7 => ?_)
      rw [hR2, take1 hc2, List.map_append, List.map_append]
      rfl
    · rw [hyl, List.take_length] at hR2
      subst hR2
      walk_at "rd"
      refine s_anyL hacc2 ?_
      rw [show (room.map fun c => decide (Within b c)).any id = true from List.any_eq_true.mpr ⟨true, List.mem_map.mpr ⟨c, hc, decide_eq_true hwi⟩, rfl⟩]
      refine lc_put hD (by walk_at "ex") (by walk_at "hx") hl (by omega) (fun H7 e7 => ?_)
      rw [hR, List.replicate_succ', List.map_append]
      rfl
  · subst hR
    walk_at "rd"
    refine s_allL hacc ?_
    rw [show (List.replicate xs.length true).all id = true from List.all_eq_true.mpr fun x hx => (List.mem_replicate.mp hx).2]
    exact q _ (by walk_at "ex")
abbrev Seg := List Part × List Blk × List Blk
def encSeg (s : Seg) : PyData := .tuple [.tuple (encs s.1), .tuple (s.2.1.map encB), .tuple (s.2.2.map encB)]
structure SegOk (A : Str → Row) (all : List Part) (s : Seg) : Prop where
  far : Placed (bks kF A s.1) s.2.1
  near : Placed (bks kN A s.1) s.2.2
  as : AsgPs A s.1
  cn : cnts s.1 ≤ 1000
  kin : ∀ q ∈ s.1, q ≠ .emp → q ∈ all
  lf : s.2.1.length ≤ 1000
  ln : s.2.2.length ≤ 1000
theorem mem_pls {p : Part} (h : p ≠ .emp) : p ∈ pls p := by rw [pls_kids h]; exact List.mem_cons_self
mutual
theorem pls_kin : ∀ {p q : Part}, q ∈ pls p → ∀ r ∈ q.kids, r ≠ .emp → r ∈ pls p
  | .emp, q, h, _, _, _ => by cases h
  | .dev n as, q, h, r, hr, _ => by rw [List.mem_singleton.mp h] at hr; cases hr
  | .br n ms ps, q, h, r, hr, h0 => by
    rcases List.mem_cons.mp h with rfl | h
    · exact List.mem_cons_of_mem _ (plss_mem hr h0)
    · exact List.mem_cons_of_mem _ (plss_kin h r hr h0)
theorem plss_kin : ∀ {ps : List Part} {q : Part}, q ∈ plss ps → ∀ r ∈ q.kids, r ≠ .emp → r ∈ plss ps
  | [], q, h, _, _, _ => by cases h
  | p :: ps, q, h, r, hr, h0 => by
    rw [plss] at h ⊢
    rcases List.mem_append.mp h with h | h
    · exact List.mem_append_left _ (pls_kin h r hr h0)
    · exact List.mem_append_right _ (plss_kin h r hr h0)
theorem plss_mem : ∀ {ps : List Part} {r : Part}, r ∈ ps → r ≠ .emp → r ∈ plss ps
  | p :: ps, r, h, h0 => by
    rw [plss]
    rcases List.mem_cons.mp h with rfl | h
    · exact List.mem_append_left _ (mem_pls h0)
    · exact List.mem_append_right _ (plss_mem h h0)
end
mutual
theorem pls_ne : ∀ {p q : Part}, q ∈ pls p → q ≠ .emp
  | .emp, q, h => by cases h
  | .dev n as, q, h => by rw [List.mem_singleton.mp h]; exact fun z => nomatch z
  | .br n ms ps, q, h => by
    rcases List.mem_cons.mp h with rfl | h
    · exact fun z => nomatch z
    · exact plss_ne h
theorem plss_ne : ∀ {ps : List Part} {q : Part}, q ∈ plss ps → q ≠ .emp
  | [], q, h => by cases h
  | p :: ps, q, h => by
    rw [plss] at h
    rcases List.mem_append.mp h with h | h
    · exact pls_ne h
    · exact plss_ne h
end
theorem row_head {A : Str → Row} {p : Part} (h : AsgP A p) (h0 : p ≠ .emp) : ∃ r rs, (A p.nm).enc = .tuple (.str p.nm :: r :: rs) := by
  cases p with
  | emp => exact absurd rfl h0
  | dev n as => obtain ⟨bs, e, _⟩ := h; exact ⟨_, _, by show (A n).enc = _; rw [e]; rfl⟩
  | br n ms ps => obtain ⟨f, g, e, _⟩ := h; exact ⟨_, _, by show (A n).enc = _; rw [e]; rfl⟩
theorem opt_len (o : Option Blk) : o.toList.length ≤ 1000 := by
  cases o
  · exact Nat.zero_le _
  · exact Nat.le_of_ble_eq_true rfl
theorem putK_le (c : List (Key × V)) (k : Key) (x : V) : (putK c k x).length ≤ c.length + 1 := by
  unfold putK
  split
  · rw [List.length_map]; omega
  · rw [List.length_append]; exact Nat.le_refl _
abbrev sx_assignment_holds : Stmt := top 40
abbrev N_assignment_holds : List Str := ["tree", "rooms", "value", "parts", "rows", "segments", "bridge", "row", "own", "far", "near", "path", "part"]
theorem sc_assignment_holds : FnScope N_assignment_holds ["tree", "rooms", "value"] (defScope sx_assignment_holds) := ⟨rfl, rfl, rfl, by decide +kernel, rfl, by decide +kernel, by decide +kernel⟩
theorem ok_assignment_holds (bi : Bi mg kd) (T : At K mg "assignment_holds" sx_assignment_holds ["tree", "rooms", "value"]) (c_placed : Cal P w K mg base k "placed" spPlaced []) (c_is_row : Cal P w K mg base k "is_row" spIsRow []) (c_parts_of : Cal P w K mg base k "parts_of" spPartsOf [])
    (c_bridges_of : Cal P w K mg base k "bridges_of" spBridgesOf []) (c_room_below : Cal P w K mg base k "room_below" spRoomBelow []) (c_are_placed : Cal P w K mg base k "are_placed" spArePlaced []) (c_blocks_on : Cal P w K mg base k "blocks_on" spBlocksOn []) : Cal P w K mg base (k + 1) "assignment_holds" spHolds [] := by
  refine T.ok sc_assignment_holds (fun vs H Q E h => ?_) (fun f cdv A outer s H vs Q E hr h => ?_)
  · obtain ⟨v, u, x, ms, ps, rf, re, A, rfl, _⟩ := h
    rfl
  have nd := sc_assignment_holds.nd
  obtain ⟨v, u, x, ms, ps, rf, re, AA, rfl, hv, hcn, hdp, hu, hlf, hle, hx, hasg, q⟩ := h
  obtain ⟨ax, xx, rfl, hax, hxx⟩ := hx.tupE
  obtain ⟨au, uu, rfl, hau, huu⟩ := hu.tupE
  cases huu with
  | cons u1 u2 => cases u2 with
    | cons u2 u3 =>
      cases u3
      have hpl := plss_len ps
      have hxl : xx.length = (plss ps).length := by rw [hxx.len]; unfold rowsD; rw [List.length_map]
      have hall := asgPs_plss hasg.all
      refine ⟨_, (pss_cons (ps_setLc (i := 3) (own := [("path", 11), ("part", 12)]) (g := gTup K 2 (gCons (gName 11) (gCons (gName 12) (gNil)))) (by rfl) nd rfl rfl (sw_true rfl rfl rfl (by decide +kernel)) (pi_tup (pe_c c_placed hr (by omega) (by rfl) (pa_cons (pv 0) pa_nil))) (blkOk_by (own := [("path", 11), ("part", 12)]) (N := N_assignment_holds) (sc := defScope sx_assignment_holds) (by decide +kernel)) (fun _ _ _ _ _ => (pg_tup rfl (pgs_cons (pg_name (i := 11) nd rfl (Or.inl rfl)) (pgs_cons (pg_name (i := 12) nd rfl (Or.inl rfl)) pgs_nil)))) (fun _ _ _ _ _ => pts_nil) (fun _ _ _ _ _ => (pv 12)))
      (pss_cons (ps_if (PW.pt (pw_or (pt_not (pt_val (pe_callB call_isi (by rfl) bi.isinstance (by decide +kernel) (pa_cons (pv 2) (pa_cons (pe_bltn (v := .ty "tuple") (by rfl) bi.tuple (by decide +kernel) rfl) pa_nil))))) (pw_or1 (pt_cmpR op_ne (pe_callB (call_lenR (K := K) rfl) (by rfl) bi.len (by decide +kernel) (pa_cons (pv 2) pa_nil)) (pe_callB (call_lenR (K := K) rfl) (by rfl) bi.len (by decide +kernel) (pa_cons (pv 3) pa_nil)) (nomark _))))) (pss_one (ps_ret pe_bl)) pss_nil)
      (pss_cons (ps_if (pt_not (pt_val (pe_callB (cr_all rfl) (by rfl) bi.all (by decide +kernel) (pa_cons (pe_lc (own := [("part", 12), ("row", 7)]) (g := gTup K 2 (gCons (gName 12) (gCons (gName 7) (gNil)))) (by rfl) nd (pi_zipM (by rfl) bi.zip (pa_cons (pv 3) (pa_cons (pv 2) pa_nil))) (blkOk_by (own := [("part", 12), ("row", 7)]) (N := N_assignment_holds) (sc := defScope sx_assignment_holds) (by decide +kernel)) (fun _ _ _ _ _ => (pg_tup rfl (pgs_cons (pg_name (i := 12) nd rfl (Or.inl rfl)) (pgs_cons (pg_name (i := 7) nd rfl (Or.inl rfl)) pgs_nil)))) (fun _ _ _ _ _ => pts_nil) (fun _ _ _ _ _ => (pe_c c_is_row hr (by omega) (by rfl) (pa_cons (pv 12) (pa_cons (pv 7) pa_nil))))) pa_nil)))) (pss_one (ps_ret pe_bl)) pss_nil)
      (pss_cons (ps_setDc (i := 4) (own := [("row", 7)]) (g := gName 7) (by rfl) nd rfl rfl (sw_dict rfl rfl rfl (by decide +kernel)) (pi_tup (pv 2)) (blkOk_by (own := [("row", 7)]) (N := N_assignment_holds) (sc := defScope sx_assignment_holds) (by decide +kernel)) (fun _ _ _ _ _ => (pg_name (i := 7) nd rfl (Or.inl rfl))) (fun _ _ _ _ _ => pts_nil) (fun _ _ _ _ _ => (pe_ix (ix_tupK (K := K) rfl) (pv 7) pe_int (fun _ _ => rfl))) (fun _ _ _ _ _ => (pv 7)))
      (pss_cons (ps_set (i := 5) nd rfl (Or.inl rfl) (pe_lst (pa_cons (pe_tup (pa_cons (pe_c c_parts_of hr (by omega) (by rfl) (pa_cons (pv 0) pa_nil)) (pa_cons (pe_ix ix_tup (pv 1) pe_int (fun _ _ => rfl)) (pa_cons (pe_ix ix_tup (pv 1) pe_int (fun _ _ => rfl)) pa_nil)))) pa_nil)))
      (pss_cons (ps_for PassesOwn.never rfl (pi_list (pe_c c_bridges_of hr (by omega) (by rfl) (pa_cons (pv 0) pa_nil))) (pg_name (i := 6) nd rfl (Or.inl rfl)) (pss_cons (ps_set (i := 7) nd rfl (Or.inl rfl) (pe_dget (hu_of hr) (pv 4) (pe_ix ix_tup (pv 6) pe_int (fun _ _ => rfl)) (fun _ _ => rfl)))
      (pss_one (ps_expr (pe_bm PySem.F.plainAttrs_list PySem.F.slot_list_append PySem.F.type_list_append mt_append (pv 5) (pa_cons (pe_tup (pa_cons (pe_c c_parts_of hr (by omega) (by rfl) (pa_cons (pv 6) pa_nil)) (pa_cons (pe_c c_room_below hr (by omega) (by rfl) (pa_cons (pv 7) (pa_cons pe_str pa_nil))) (pa_cons (pe_c c_room_below hr (by omega) (by rfl) (pa_cons (pv 7) (pa_cons pe_str pa_nil))) pa_nil)))) pa_nil))))))
      (pss_cons (ps_for PassesOwn.never rfl (pi_list (pv 5)) (pg_tup rfl (pgs_cons (pg_name (i := 8) nd rfl (Or.inl rfl)) (pgs_cons (pg_name (i := 9) nd rfl (Or.inl rfl)) (pgs_cons (pg_name (i := 10) nd rfl (Or.inl rfl)) pgs_nil)))) (pss_one (ps_if (PW.pt (pw_or (pt_not (pt_val (pe_c c_are_placed hr (by omega) (by rfl) (pa_cons (pe_c c_blocks_on hr (by omega) (by rfl) (pa_cons (pv 8) (pa_cons (pv 4) (pa_cons pe_str pa_nil)))) (pa_cons (pv 9) pa_nil))))) (pw_or1 (pt_not (pt_val (pe_c c_are_placed hr (by omega) (by rfl) (pa_cons (pe_c c_blocks_on hr (by omega) (by rfl) (pa_cons (pv 8) (pa_cons (pv 4) (pa_cons pe_str pa_nil)))) (pa_cons (pv 10) pa_nil)))))))) (pss_one (ps_ret pe_bl)) pss_nil)))
      (pss_one (ps_ret pe_bl))))))))), ?_⟩
      walk_at "rd"
      refine ⟨_, _, _, rfl, hv, hcn, hdp, fun v1 L H1 e1 h1 hL => ?_⟩
      obtain ⟨a, xs, rfl, ha, hs⟩ := h1.tupE
      have hsl : xs.length = (plss ps).length := by rw [hs.len, hL.len]
      walk_at "rd"
      refine lc_W walk_tup [] (fun i acc H' => DtAll H' acc (((plss ps).take i).map Part.enc)) (fun H' e => SqT.of (e.tup _ _ ha)) (fun _ _ => .nil) (fun i x D acc H2 H3 hi hD e hacc hl hR y => ?_) (fun D acc H2 hD e2 hacc hl hR => ?_)
      · obtain ⟨rfl, hx⟩ := y
        obtain ⟨d, hd', hxd⟩ := hs.getV hx
        obtain ⟨path, p, hp, rfl⟩ := hL.get hd'
        obtain ⟨b, ys, rfl, hb, hys⟩ := (hxd.ext e).tupE
        cases hys with
        | cons g1 g2 => cases g2 with
          | cons g2 g3 =>
            cases g3
            walk_at "rd"
            refine ⟨rfl, ?_⟩
            walk_at "rd"
            refine lc_put hD e hacc hl (by omega) (fun H5 e5 => ?_)
            rw [take1 hp, List.map_append]
            exact (hR.ext e5).append (.one (g2.ext e5))
      · rw [hsl, List.take_length] at hR
        have hal : acc.length = (plss ps).length := by rw [hR.len, List.length_map]
        walk_at "rd"
        refine ifn0 (by rw [hxl, hal]) ?_
        walk_at "rd"
        refine lc_W (walk_zipM hal hxl) [] (fun i acc H' => acc = (List.replicate i true).map V.bl) (fun H' e => ⟨SqL.of (e.at0 hacc), SqT.of (e.tup _ _ (show H2 ax = _ by walk_at "hx"))⟩) (fun _ _ => rfl) (fun i x D3 acc3 H3 H4 hi hD3 e hacc3 hl3 hR3 y => ?_) (fun D3 acc3 H4 hD3 e4 hacc3 hl3 hR3 => ?_)
        · obtain ⟨T2, x1, z1, rfl, hT, e4, hT2, hx1, hz1⟩ := YPair.get y
          obtain ⟨d1, hd1, hxd⟩ := hR.getV hx1
          obtain ⟨p, hp, rfl⟩ := map_at hd1
          obtain ⟨d2, hd2, hzd⟩ := hxx.getV hz1
          unfold rowsD at hd2
          obtain ⟨p', hp', rfl⟩ := map_at hd2
          obtain rfl : p = p' := Option.some.inj (hp.symm.trans hp')
          have hpm := mem_at hp
          have hb := plss_bound ps p hpm
          walk_at "rd"
          refine ⟨rfl, ?_⟩
          walk_at "rd"
          refine ⟨_, _, p, AA, rfl, hxd.e0 (by walk_at "ex"), plss_ne hpm, by omega, by omega, hall p hpm, hzd.e0 (by walk_at "ex"), fun H5 e5 => ?_⟩
          refine lc_put hD3 (by walk_at "ex") (by walk_at "hx") hl3 (by omega) (fun H7 e7 => ?_)
          rw [hR3, List.replicate_succ', List.map_append]
          rfl
        · subst hR3
          walk_at "rd"
          refine s_allL hacc3 ?_
          rw [show (List.replicate (plss ps).length true).all id = true from List.all_eq_true.mpr fun x hx => (List.mem_replicate.mp hx).2]
          walk_at "rd"
          refine dc_W walk_tup (fun D i H' => Ext [] H4 H' ∧ ∃ kvs, H' D = some (.dK kvs) ∧ kvs.length ≤ i ∧ ∀ j q, j < i → (plss ps)[j]? = some q → RowsIn H' kvs AA q) (fun D i H' h => SqT.of (h.1.tup _ _ (show H4 ax = _ by walk_at "hx"))) (fun D H' hD e h => ⟨e, _, h, Nat.zero_le _, fun j q z => absurd z (Nat.not_lt_zero j)⟩) (fun i x D5 H5 H6 hi hD5 hP y => ?_) (fun D5 H5 hD5 hP => ?_)
          · obtain ⟨rfl, hx⟩ := y
            obtain ⟨e5, kvs, hkv, hkl, hin⟩ := hP
            obtain ⟨d2, hd2, hzd⟩ := hxx.getV hx
            unfold rowsD at hd2
            obtain ⟨p, hp, rfl⟩ := map_at hd2
            have hpm := mem_at hp
            have hzd5 := hzd.e0 (show Ext [] H H6 by walk_at "ex")
            obtain ⟨r, rs, hre⟩ := row_head (hall p hpm) (plss_ne hpm)
            have hzd6 := hzd5
            rw [hre] at hzd6
            walk_at "rd"
            refine ⟨rfl, ?_⟩
            walk_at "rd"
            refine ⟨kvs, .inr p.nm, rfl, hkv, by rw [sizeLine_eq]; omega, e5.comp (Ext.mutD hkv) (fun b hb => .inr (by rw [List.mem_singleton.mp hb]; exact hD5)), _, upd_same, Nat.le_trans (putK_le _ _ _) (by omega), fun j q hj hq => ?_⟩
            by_cases hji : j < i
            · obtain ⟨y, hy1, hy2⟩ := hin j q hji hq
              by_cases hn : q.nm = p.nm
              · exact ⟨x, by rw [valV_put, hn, if_pos rfl], by rw [hn]; exact hzd5.ext (Ext.mutD hkv)⟩
              · exact ⟨y, by rw [valV_put, if_neg (fun z => hn (Sum.inr.inj z))]; exact hy1, hy2.ext (Ext.mutD hkv)⟩
            · obtain rfl : j = i := by omega
              obtain rfl : p = q := Option.some.inj (hp.symm.trans hq)
              exact ⟨x, by rw [valV_put, if_pos rfl], hzd5.ext (Ext.mutD hkv)⟩
          · obtain ⟨e5, kvs, hkv, hkl, hin0⟩ := hP
            have hin : ∀ q ∈ plss ps, RowsIn H5 kvs AA q := fun q hq => by
              obtain ⟨j, hj⟩ := List.mem_iff_getElem?.mp hq
              have := at_lt hj
              exact hin0 j q (by omega) hj
            walk_at "rd"
            refine ⟨_, _, _, rfl, hv.e0 (by walk_at "ex"), .inr ⟨ms, rfl⟩, fun v6 H6 e6 h6 => ?_⟩
            walk_at "rd"
            refine s_newD (ds := [.tuple (encs ps), .tuple (rf.map encB), .tuple (re.map encB)]) (by walk_at "sz") (.cons h6 (.cons (u1.e0 (by walk_at "ex")) (.cons (u2.e0 (by walk_at "ex")) .nil))) (fun v7 H7 e7 h7 => ?_)
            walk_at "rd"
            refine s_newX (by walk_at "sz") (fun S H8 hS e8 hS8 => ?_)
            walk_at "rd"
            refine ⟨_, _, _, rfl, hv.e0 (by walk_at "ex"), hcn, hdp, fun B xb H9 hB e9 hB9 hbs => ?_⟩
            walk_at "rd"
            have hSB : S ≠ B := ne_some hS8 hB
            have hbl : xb.length = (brs ps).length := by rw [hbs.len, List.length_map]
            have hbl2 : (brs ps).length ≤ (plss ps).length := List.length_filter_le _ _
            refine f_W walk_list (fun i σ H' => ∃ y z, (∃ o1 o2 o3 o4 o5, σ = [some v, some (.ref au), some (.ref ax), some (.ref D), some (.ref D5), some (.ref S), y, z, o1, o2, o3, o4, o5]) ∧ Ext [S] H9 H' ∧ ∃ ys segs, H' S = some (.lst ys) ∧ DtAll H' ys ((segs : List Seg).map encSeg) ∧ segs.length ≤ i + 1 ∧ ∀ g ∈ segs, SegOk AA (plss ps) g)
              ⟨_, _, ⟨_, _, _, _, _, rfl⟩, .refl, _, [(ps, rf, re)], (by walk_at "hx"), .one (h7.e0 (by walk_at "ex")), Nat.le_refl _, fun g hg => by
                rw [List.mem_singleton.mp hg]
                exact ⟨hasg.far, hasg.near, hasg.all, hcn, fun q hq h0 => plss_mem hq h0, hlf, hle⟩⟩ (fun i σ H' _ h => SqL.of (by
                obtain ⟨_, _, _, e, _⟩ := h
                exact e.at hB9 (by simp only [List.mem_singleton]; exact hSB.symm))) (fun i x σ H10 H11 hi hP y => ?_) (fun σ H10 hP => ?_)
            · obtain ⟨y', z', ⟨o1, o2, o3, o4, o5, rfl⟩, e10, ys, segs, hS10, hys, hsl, hsok⟩ := hP
              obtain ⟨rfl, hx⟩ := y
              obtain ⟨d1, hd1, hxd0⟩ := hbs.getV hx
              obtain ⟨p, hp, rfl⟩ := map_at hd1
              have hpf := List.mem_filter.mp (mem_at hp)
              have hbd := plss_bound ps p hpf.1
              have hxd := hxd0.ext e10
              have hkin := plss_kin hpf.1
              cases p with
              | emp => cases hpf.2
              | dev n as => cases hpf.2
              | br n ms2 ps2 =>
                have hd2 : deps ps2 + 1 ≤ deps ps := hbd.1
                have hc2 : 1 + cnts ps2 ≤ cnts ps := hbd.2
                obtain ⟨t, m, w2, us, rfl, ht, hm, hw2, hus⟩ := hxd.brE
                obtain ⟨fo, eo, er, w1, w2', pf, pe, pall⟩ := hall _ hpf.1
                obtain ⟨xr, hxr1, hxr2⟩ := hin _ hpf.1
                rw [show AA (Part.br n ms2 ps2).nm = .br n fo eo from er] at hxr2
                have hD5S : D5 ≠ S := ne_some (show H7 D5 = some (.dK kvs) by walk_at "hx") hS
                have hkv10 : H11 D5 = some (.dK kvs) := by walk_at "hx"
                walk_at "rd"
                refine s_dgetK (k := .inr n) hkv10 rfl hxr1 ?_
                walk_at "rd"
                refine ⟨_, _, _, rfl, hxd, .inl ⟨_, rfl, rfl⟩, fun v12 H12 e12 h12 => ?_⟩
                walk_at "rd"
                refine ⟨_, n, fo, eo, _, rfl, hxr2.ext (M := [S]) (by walk_at "ex"), .inl rfl, fun v13 H13 e13 h13 => ?_⟩
                walk_at "rd"
                refine ⟨_, n, fo, eo, _, rfl, hxr2.ext (M := [S]) (by walk_at "ex"), .inr rfl, fun v14 H14 e14 h14 => ?_⟩
                walk_at "rd"
                refine s_newD (ds := [.tuple (encs ps2), .tuple (fo.toList.map encB), .tuple (eo.toList.map encB)]) (by walk_at "sz") (.cons (h12.e0 (by walk_at "ex")) (.cons (h13.e0 (by walk_at "ex")) (.cons h14 .nil))) (fun v15 H15 e15 h15 => ?_)
                walk_at "rd"
                have hyl : ys.length = segs.length := by rw [hys.len, List.length_map]
                refine s_append (show H15 S = _ by walk_at "hx") (by rw [sizeLine_eq]; omega) (fun H16 e16 h16 => ?_)
                walk_at "rd"
                refine ⟨_, _, ⟨_, _, _, _, _, rfl⟩, by walk_at "ex", _, segs ++ [(ps2, fo.toList, eo.toList)], h16, ?_, by rw [List.length_append]; show _ + 1 ≤ _; omega, fun g hg => ?_⟩
                · rw [List.map_append]
                  exact (hys.ext (M := [S]) (by walk_at "ex")).append (.one (h15.ext e16))
                · rcases List.mem_append.mp hg with hg | hg
                  · exact hsok g hg
                  · rw [List.mem_singleton.mp hg]
                    exact ⟨pf, pe, pall, by show cnts ps2 ≤ 1000; omega, hkin, opt_len fo, opt_len eo⟩
            · obtain ⟨y', z', ⟨o1, o2, o3, o4, o5, rfl⟩, e10, ys, segs, hS10, hys, hsl, hsok⟩ := hP
              have hyl : ys.length = segs.length := by rw [hys.len, List.length_map]
              have hD5S : D5 ≠ S := ne_some (show H7 D5 = some (.dK kvs) by walk_at "hx") hS
              have hkv10 : H10 D5 = some (.dK kvs) := by walk_at "hx"
              walk_at "rd"
              refine f_W walk_list (fun i σ H' => (∃ o1 o2 o3 o4 o5 o6 o7, σ = [some v, some (.ref au), some (.ref ax), some (.ref D), some (.ref D5), some (.ref S), o1, o2, o3, o4, o5, o6, o7]) ∧ Ext [] H10 H') ⟨⟨_, _, _, _, _, _, _, rfl⟩, .refl⟩ (fun i σ H' _ h => SqL.of (h.2.at0 hS10)) (fun i x σ H11 H12 hi hP y => ?_) (fun σ H11 hP => ?_)
              · obtain ⟨⟨o1, o2, o3, o4, o5, o6, o7, rfl⟩, e11⟩ := hP
                obtain ⟨rfl, hx⟩ := y
                obtain ⟨d1, hd1, hxd⟩ := hys.getV hx
                obtain ⟨g, hg, rfl⟩ := map_at hd1
                have ok := hsok g (mem_at hg)
                have hgin : ∀ q ∈ g.1, q ≠ .emp → RowsIn H12 kvs AA q := fun q hq h0 => (hin q (ok.kin q hq h0)).ext (M := [S]) (by walk_at "ex")
                unfold encSeg at hxd
                obtain ⟨tx, xs3, rfl, htx, hxs3⟩ := (hxd.ext e11).tupE
                cases hxs3 with
                | cons k1 k2 => cases k2 with
                  | cons k2 k3 => cases k3 with
                    | cons k3 k4 =>
                      cases k4
                      walk_at "rd"
                      refine ⟨_, D5, g.1, kvs, AA, _, rfl, k1, (by walk_at "hx"), hgin, ok.cn, ok.as, .inl rfl, fun l2 ys2 H13 hl2 e13 h13 hys2 => ?_⟩
                      walk_at "rd"
                      have hb1 := bks_len kF AA g.1
                      have hb2 := bks_len kN AA g.1
                      have hcg := ok.cn
                      refine ⟨l2, _, ys2, bks kF AA g.1, g.2.1, rfl, h13, hys2, by omega, ok.far, bks_pos (.inl rfl) ok.as, k2.e0 (by walk_at "ex"), ok.lf, fun H14 e14 => ?_⟩
                      walk_at "rd"
                      refine ⟨_, D5, g.1, kvs, AA, _, rfl, k1.e0 (by walk_at "ex"), (by walk_at "hx"), (fun q hq h0 => (hgin q hq h0).ext (M := []) (by walk_at "ex")), ok.cn, ok.as, .inr rfl, fun l3 ys3 H15 hl3 e15 h15 hys3 => ?_⟩
                      walk_at "rd"
                      refine ⟨l3, _, ys3, bks kN AA g.1, g.2.2, rfl, h15, hys3, by omega, ok.near, bks_pos (.inr rfl) ok.as, k3.e0 (by walk_at "ex"), ok.ln, fun H16 e16 => ?_⟩
                      walk_at "rd"
                      exact ⟨⟨_, _, _, _, _, _, _, rfl⟩, by walk_at "ex"⟩
              · obtain ⟨⟨o1, o2, o3, o4, o5, o6, o7, rfl⟩, e11⟩ := hP
                walk_at "rd"
                have hHS : H S = none := by walk_at "fr"
                exact q _ (by walk_at "ex")
end
end Bw

/-! the law: source, below, pick, area -/
namespace Bw
open PySem PySem.Spec PyProof.Rows L2
open C8 (Cal pe_c pe_gc)
open StX (pa_star tStar)
open RZ (pi_zipA iZipA)
-- the tactics of this text, by key
local macro_rules | `(tactic| walk_at "nm") => `(tactic| first | (intro hmem; cases hmem; done) | (simp only [List.mem_cons, List.mem_singleton, List.not_mem_nil, or_false, not_or, not_false_eq_true]; done) | (simp only [List.mem_cons, List.mem_singleton, List.not_mem_nil, or_false, not_or]; (repeat' apply And.intro) <;> first | assumption | exact Ne.symm (by assumption) | exact ne_some (by assumption) (by assumption) | exact Ne.symm (ne_some (by assumption) (by assumption))))
local macro_rules | `(tactic| walk_at "hx") => `(tactic| first | assumption | exact Dt.non | exact Dt.int _ | exact Dt.str _ | exact Dt.bl _ | (refine Dt.ext (by assumption) ?_; walk_at "hx") | (refine DtAll.ext (by assumption) ?_; walk_at "hx") | (refine Ext.at0 (by assumption) ?_; walk_at "hx") | (refine Ext.tupC (by assumption) ?_; walk_at "hx") | (refine Ext.atC (by assumption) ?_ (by walk_at "nm"); walk_at "hx"))
local macro_rules | `(tactic| walk_at "dm") => `(tactic| first | exact fun _ h => h | (refine dom_step (by assumption) ?_; walk_at "dm"))
local macro_rules | `(tactic| walk_at "fr") => `(tactic| first | assumption | (refine fr_of (by assumption) ?_; walk_at "dm"))
local macro_rules | `(tactic| walk_at "ex") => `(tactic| first | assumption | exact Ext.refl | exact Ext.mono0 (by assumption) | (refine Ext.then0 ?_ (by assumption); walk_at "ex") | (refine Ext.transC ?_ (by assumption); walk_at "ex") | (refine Ext.c1 ?_ (by assumption) (by walk_at "fr"); walk_at "ex") | (refine Ext.cm ?_ (by assumption) (by simp only [List.mem_cons, true_or, or_true]; done); walk_at "ex"))
local macro_rules | `(tactic| walk_at "r1") => `(tactic| first
  | (with_reducible refine s_var rfl ?_) | (with_reducible refine s_c ?_) | (with_reducible refine s_op ?_) | (with_reducible refine s_un ?_) | (with_reducible refine s_I0 ?_) | (with_reducible refine s_U ?_)
  | (with_reducible refine s_eqI ?_) | (with_reducible refine s_eqS ?_) | (with_reducible refine s_eqB ?_) | (with_reducible refine s_neI ?_) | (with_reducible refine s_neS ?_) | (with_reducible refine s_neB ?_)
  | (with_reducible refine s_isN1 ?_) | (with_reducible refine s_isN0 ?_) | (with_reducible refine s_notN1 ?_) | (with_reducible refine s_notN0 ?_) | (with_reducible refine s_isBl ?_) | (with_reducible refine s_notBl ?_)
  | (with_reducible refine s_test ?_) | (with_reducible refine s_B ?_) | (with_reducible refine s_bl ?_) | (with_reducible refine s_and ?_) | (with_reducible refine s_or ?_) | (with_reducible refine s_not ?_)
  | (with_reducible refine s_andV ?_) | (with_reducible refine s_orV ?_) | (with_reducible refine s_notV ?_) | (with_reducible refine s_ifE ?_) | (with_reducible refine s_chain ?_)
  | (with_reducible refine s_next ?_) | (with_reducible refine s_seq ?_) | (with_reducible refine s_drop ?_) | (with_reducible refine s_ret ?_) | (with_reducible refine s_retN ?_) | (with_reducible refine s_ifS ?_) | (with_reducible refine s_asg ?_)
  | ((with_reducible refine g_name ?_); refine s_name (by first | rfl) ?_) | (with_reducible refine s_parS ?_) | (with_reducible refine s_par ?_) | ((with_reducible refine g_nx ?_); refine s_nx rfl ?_) | (with_reducible refine s_gsub ?_) | (with_reducible refine s_gnil ?_) | (with_reducible refine s_gcons ?_)
  | (with_reducible refine s_call ?_) | (with_reducible refine s_cb ?_) | (with_reducible refine s_nil ?_) | (with_reducible refine s_cons ?_) | (with_reducible refine s_tupT ?_) | (with_reducible refine s_lstT ?_)
  | (with_reducible refine s_sl ?_) | (with_reducible refine s_nopart ?_) | (with_reducible refine s_part ?_) | (with_reducible refine s_int ?_) | (with_reducible refine s_bm ?_) | (with_reducible refine s_dget ?_) | (with_reducible refine s_dputS ?_)
  | (with_reducible refine s_forS ?_) | (with_reducible refine s_lc ?_) | (with_reducible refine s_iTup ?_) | (with_reducible refine s_iList ?_) | (with_reducible refine s_iRng1 ?_) | (with_reducible refine s_iRng2 ?_) | (with_reducible refine s_tYes ?_) | (with_reducible refine s_intI ?_) | (with_reducible refine s_intB ?_) | (with_reducible refine s_min2 ?_) | (with_reducible refine s_max2 ?_) | (with_reducible refine s_abs ?_) | (with_reducible refine s_revL ?_) | (with_reducible refine s_iEnumT ?_) | (with_reducible refine s_iEnum ?_) | (with_reducible refine s_iZipA ?_) | (with_reducible refine s_iZipM ?_) | (with_reducible refine s_iZip ?_) | (with_reducible refine s_iStr ?_) | (with_reducible refine s_star ?_) | (with_reducible refine s_lc2 ?_) | (with_reducible refine s_dc ?_) | (with_reducible refine s_bm ?_)
  | (with_reducible refine isi_int _ ?_) | (with_reducible refine isi_intB _ ?_) | (with_reducible refine isi_str _ ?_) | (with_reducible refine isi_non ?_)
  | (with_reducible refine iteT ?_) | (with_reducible refine iteF ?_) | (with_reducible refine iteNT ?_) | (with_reducible refine iteNF ?_))
local macro_rules | `(tactic| walk_at "r2") => `(tactic| first
  | ((with_reducible refine g_ixT ?_); first | (refine s_ixT (by walk_at "hx") rfl ?_) | (refine s_ixDs (by walk_at "hx") rfl ?_) | (refine s_ixDi (by walk_at "hx") rfl ?_) | (refine s_ixD (by walk_at "hx") rfl (fun _ _ => ?_)) | (refine s_ixD0s (by walk_at "hx") ?_))
  | ((with_reducible refine g_form ?_); first | (refine isDev_non ?_) | (refine isBr_non ?_) | (refine isDev_dev (by walk_at "hx") ?_) | (refine isDev_br (by walk_at "hx") ?_) | (refine isBr_dev (by walk_at "hx") ?_) | (refine isBr_br (by walk_at "hx") ?_))
  | ((with_reducible refine g_isi ?_); first | (with_reducible refine isi_dt (by walk_at "hx") ?_) | (with_reducible refine isi_tup (by walk_at "hx") ?_))
  | ((with_reducible refine g_len ?_); first | (with_reducible refine s_lenL (by walk_at "hx") ?_) | (with_reducible refine s_lenT (by walk_at "hx") ?_) | (with_reducible refine s_lenD (by walk_at "hx") ?_))
  | ((with_reducible refine g_ty ?_); first | (refine s_tyK (by assumption) ?_) | (with_reducible refine s_tyL (by walk_at "hx") ?_))
  | ((with_reducible refine g_tix ?_); first | (refine s_idx0 (by assumption) ?_) | (refine s_idx1 (by assumption) ?_))
  | ((with_reducible refine g_enT ?_); with_reducible refine s_enT (by walk_at "hx") ?_) | ((with_reducible refine g_enL ?_); with_reducible refine s_enL (by walk_at "hx") ?_)
  | ((with_reducible refine g_za ?_); first | (with_reducible refine s_zaT2 (by walk_at "hx") (by walk_at "hx") ?_) | (with_reducible refine s_zaL (by walk_at "hx") (by walk_at "hx") ?_))
  | ((with_reducible refine g_zm ?_); first | (with_reducible refine s_zmT (by walk_at "hx") (by walk_at "hx") ?_) | (with_reducible refine s_zmL (by walk_at "hx") (by walk_at "hx") ?_))
  | ((with_reducible refine g_zl ?_); with_reducible refine s_zl (by walk_at "hx") (by walk_at "hx") ?_)
  | ((with_reducible refine g_itT ?_); with_reducible refine s_itT (by walk_at "hx") ?_) | ((with_reducible refine g_itL ?_); with_reducible refine s_itL (by walk_at "hx") ?_)
  | ((with_reducible refine g_gtup ?_); refine s_gtup (by walk_at "hx") rfl ?_))
local macro_rules | `(tactic| walk_at "rd") => `(tactic| repeat (first | walk_at "r1" | walk_at "r2"))
local macro_rules | `(tactic| walk_at "sz") => `(tactic| (simp only [List.length_cons, List.length_nil, List.length_append, List.length_map, sizeLine_eq] <;> omega))
section
variable {P : Program} {w : World} {K : PySem.W.Frag} {mg : Str → Option Value} {base : Heap} {kd : Addr} {k : Nat}
abbrev sx_source : Stmt := top 42
abbrev N_source : List Str := ["_law_script", "_law_cells", "_law_cell"]
theorem sc_source : FnScope N_source ["_law_script"] (defScope sx_source) := ⟨rfl, rfl, rfl, by decide +kernel, rfl, by decide +kernel, by decide +kernel⟩
theorem ok_source (bi : Bi mg kd) (T : At K mg "_law_source" sx_source ["_law_script"]) : Cal P w K mg base (k + 1) "_law_source" (spSource K) [] := by
  refine T.ok sc_source (fun vs H Q E h => ?_) (fun f cdv A outer s H vs Q E hr h => ?_)
  · obtain ⟨p, ns, rfl, _⟩ := h
    rfl
  have nd := sc_source.nd
  obtain ⟨p, ns, rfl, hp, hlen, q⟩ := h
  refine ⟨_, (pss_cons (ps_setLc (i := 1) (own := [("_law_cell", 2)]) (g := gName 2) (by rfl) nd rfl rfl (sw_true rfl rfl rfl (by decide +kernel)) (pi_list (pv 0)) (blkOk_by (own := [("_law_cell", 2)]) (N := N_source) (sc := defScope sx_source) (by decide +kernel)) (fun _ _ _ _ _ => (pg_name (i := 2) nd rfl (Or.inl rfl))) (fun _ _ _ _ _ => pts_nil) (fun _ _ _ _ _ => (pe_callB call_absR (by rfl) bi.abs (by decide +kernel) (pa_cons (pv 2) pa_nil))))
      (pss_one (ps_ret (pe_disp (pps_cons pe_str (pe_lc (own := [("_law_cell", 2)]) (g := gName 2) (by rfl) nd (pi_list (pv 1)) (blkOk_by (own := [("_law_cell", 2)]) (N := N_source) (sc := defScope sx_source) (by decide +kernel)) (fun _ _ _ _ _ => (pg_name (i := 2) nd rfl (Or.inl rfl))) (fun _ _ _ _ _ => pts_one (pt_cmpR op_gt (pv 2) (pe_op op_pow pe_int pe_int) (nomark _))) (fun _ _ _ _ _ => (pv 2))) (pps_cons pe_str (pe_op op_cat (pv 1) (pe_lst (pa_cons (pe_op op_add (pe_callB (call_lenR (K := K) rfl) (by rfl) bi.len (by decide +kernel) (pa_cons (pv 1) pa_nil)) pe_int) pa_nil))) (pps_cons pe_str pe_int pps_nil))) (by rfl) (by rfl) (fun z => by cases z) (by decide))))), ?_⟩
  walk_at "rd"
  refine ⟨p, rfl, ⟨_, hp⟩, ?_⟩
  refine lc_W walk_list [] (fun i acc _ => acc = ((ns.take i).map fun n => ((n.natAbs : Nat) : Int)).map V.int) (fun H' e => Same.seq e.same hp) (fun _ _ => rfl) (fun i x D acc H1 H2 hi hD e hacc hl hR y => ?_) (fun D acc H1 hD e hacc hl hR => ?_)
  · obtain ⟨rfl, hx⟩ := y
    obtain ⟨n, hn, rfl⟩ := map_at hx
    rw [List.length_map] at hi
    subst hR
    walk_at "rd"
    refine ⟨rfl, ?_⟩
    walk_at "rd"
    refine lc_put hD e hacc hl (by omega) (fun _ _ => ?_)
    rw [take1 hn, List.map_append, List.map_append]
    rfl
  · rw [List.length_map, List.take_length] at hR
    subst hR
    walk_at "rd"
    refine s_disp (fun a H2 ha e2 h2 => ?_)
    unfold tPairs
    walk_at "rd"
    refine lc_W walk_list [] (fun i acc _ => ∃ ms : List Int, acc = ms.map V.int) (fun H' e => SqL.of (e.at0 (e2.at0 hacc))) (fun _ _ => ⟨[], rfl⟩) (fun i x D2 acc2 H3 H4 hi hD2 e3 hacc2 hl2 hR2 y => ?_) (fun D2 acc2 H3 hD2 e3 hacc2 hl2 hR2 => ?_)
    · obtain ⟨rfl, hx⟩ := y
      obtain ⟨n, hn, rfl⟩ := map_at hx
      obtain ⟨ms, rfl⟩ := hR2
      rw [List.length_map, List.length_map] at hi
      walk_at "rd"
      refine ⟨rfl, ?_⟩
      walk_at "rd"
      refine s_I ⟨by decide, by decide, by decide⟩ ?_
      walk_at "rd"
      refine ifd (fun cc => ?_) (fun cc => ?_)
      · walk_at "rd"
        refine lc_put hD2 e3 hacc2 hl2 (by omega) (fun _ _ => ⟨ms ++ [n], ?_⟩)
        rw [List.map_append]
        rfl
      · exact lc_skip e3 hacc2 hl2 ⟨ms, rfl⟩
    · obtain ⟨ms, rfl⟩ := hR2
      unfold tPairs
      walk_at "rd"
      refine s_newX (by walk_at "sz") (fun p4 H4 hp4 e4 h4 => ?_)
      refine s_cat (show H4 D = _ by walk_at "hx") h4 (by rw [List.length_map, List.length_map, sizeLine_eq]; show _ + 1 ≤ _; omega) (fun c H5 hc e5 h5 => ?_)
      unfold tPairs
      walk_at "rd"
      unfold tPairs
      refine s_dispE (kvs := [(.inr "large", .ref D2), (.inr "cells", .ref c), (.inr "turn", .int 0)]) (show H5 a = _ by walk_at "hx") rfl (by walk_at "sz") (fun H6 e6 h6 => ?_)
      have hD2' : H5 D2 = some (.lst (ms.map V.int)) := by walk_at "hx"
      have hD2c : D2 ≠ c := ne_some (show H4 D2 = some (.lst (ms.map V.int)) by walk_at "hx") hc
      have ha3 : H3 a = some (.dK []) := by walk_at "hx"
      have haD2 : a ≠ D2 := ne_some h2 hD2
      have hac : a ≠ c := ne_some (show H4 a = some (.dK []) by walk_at "hx") hc
      refine q a D2 c H6 ⟨⟨0, ms, (ns.map fun n => ((n.natAbs : Nat) : Int)) ++ [((ns.map fun n => ((n.natAbs : Nat) : Int)).length : Int) + 5], h6, e6.at hD2' (by simp only [List.mem_singleton]; exact haD2.symm), ?_, ?_, by decide, by decide, ?_⟩, hD2c⟩
      · have := e6.at h5 (show c ∉ [a] by simp only [List.mem_singleton]; exact hac.symm)
        rw [this, List.map_append]
        congr 3
        show _ = [V.int _]
        rw [List.length_map]
      · intro z
        have := congrArg List.length z
        rw [List.length_append] at this
        exact absurd this (by show _ + 1 ≠ 0; omega)
      · rw [List.length_append, List.length_map]
        show _ + 1 ≤ 1000
        omega
abbrev sx_below : Stmt := top 43
abbrev N_below : List Str := ["_law_source_here", "_law_many", "_law_large", "_law_found", "_law_turn", "_law_cell", "_law_mixed"]
theorem sc_below : FnScope N_below ["_law_source_here", "_law_many"] (defScope sx_below) := ⟨rfl, rfl, rfl, by decide +kernel, rfl, by decide +kernel, by decide +kernel⟩
theorem ok_below (bi : Bi mg kd) (T : At K mg "_law_below" sx_below ["_law_source_here", "_law_many"]) : Cal P w K mg base (k + 1) "_law_below" spBelow [] := by
  refine T.ok sc_below (fun vs H Q E h => ?_) (fun f cdv A outer s H vs Q E hr h => ?_)
  · obtain ⟨a, l, c, n, m, rfl, _⟩ := h
    rfl
  have nd := sc_below.nd
  obtain ⟨a, l, c, n, m, rfl, hm, hm2, src, q⟩ := h
  have hal := src.al
  have hac := src.ac
  have hlc := src.lc
  obtain ⟨t, ns, ms, ha, hl, hc, hms, ht0, htn, hml⟩ := src.ex
  have hlog : m.natAbs.log2 < 9000 := by
    have h1 : m.natAbs < 2 ^ 61 := by omega
    have h2 := (Nat.log2_lt (by omega)).mpr h1
    omega
  refine ⟨_, (pss_cons (ps_set (i := 2) nd rfl (Or.inl rfl) (pe_dget (hu_of hr) (pv 0) pe_str (fun _ _ => rfl)))
      (pss_cons (ps_if (pt_cmpR (op_neD hr.units) (pv 2) (pe_lst pa_nil) (nomark _)) (pss_cons (ps_set (i := 3) nd rfl (Or.inl rfl) (pe_op op_mod (pe_ix ix_list (pv 2) pe_int (fun _ _ => rfl)) (pv 1)))
      (pss_cons (ps_asg (pe_op op_fdivW (pe_ix ix_list (pv 2) pe_int (fun _ _ => rfl)) (pv 1)) (pg_sub (pv 2) pe_int set_list))
      (pss_cons (ps_if (pt_cmpR op_eq (pe_ix ix_list (pv 2) pe_int (fun _ _ => rfl)) pe_int (nomark _)) (pss_one (ps_expr (pe_bm PySem.F.plainAttrs_list PySem.F.slot_list_pop PySem.F.type_list_pop mt_popAt (pv 2) (pa_cons pe_int pa_nil)))) pss_nil)
      (pss_one (ps_ret (pv 3)))))) pss_nil)
      (pss_cons (ps_set (i := 4) nd rfl (Or.inl rfl) (pe_op op_add (pe_dget (hu_of hr) (pv 0) pe_str (fun _ _ => rfl)) pe_int))
      (pss_cons (ps_dput (hu_of hr) (pv 0) pe_str (pv 4) rfl)
      (pss_cons (ps_set (i := 5) nd rfl (Or.inl rfl) (pe_op op_mod (pe_ix ix_list (pe_dget (hu_of hr) (pv 0) pe_str (fun _ _ => rfl)) (pe_op op_mod (pv 4) (pe_callB (call_lenR (K := K) rfl) (by rfl) bi.len (by decide +kernel) (pa_cons (pe_dget (hu_of hr) (pv 0) pe_str (fun _ _ => rfl)) pa_nil))) (fun _ _ => rfl)) pe_int))
      (pss_cons (ps_set (i := 6) nd rfl (Or.inl rfl) (pe_op op_mod (pe_op op_add (pe_op op_add (pe_op op_mul (pv 5) (pe_op op_add pe_int (pe_op op_mul pe_int (pv 4)))) (pe_op op_mul (pe_op op_mul pe_int (pv 4)) (pv 4))) pe_int) pe_int))
      (pss_one (ps_ret (pe_op op_mod (pe_op op_mod (pe_op op_fdivW (pe_op op_mul (pv 6) (pv 6)) pe_int) pe_int) (pv 1)))))))))), ?_⟩
  walk_at "rd"
  refine s_dgetK (k := .inr "large") ha rfl rfl ?_
  walk_at "rd"
  refine s_newX (by walk_at "sz") (fun p1 H1 hp1 e1 h1 => ?_)
  refine s_neNil (show H1 l = _ by walk_at "hx") .ints (plain_ints _) h1 ?_
  walk_at "rd"
  cases ns with
  | cons n0 r =>
    refine ifn1 (fun z => nomatch z) ?_
    have hl1 : H1 l = some (.lst (V.int n0 :: r.map V.int)) := e1.at0 hl
    walk_at "rd"
    refine s_ixL hl1 (atI_zero _ _) ?_
    walk_at "rd"
    refine s_I hm ?_
    walk_at "rd"
    refine s_ixL hl1 (atI_zero _ _) ?_
    walk_at "rd"
    refine s_I ⟨hm, hlog⟩ ?_
    walk_at "rd"
    refine s_setL (j := 0) hl1 (by
      rw [List.length_cons]
      unfold ixN
      simp <;> omega) (fun H2 e2 h2 => ?_)
    walk_at "rd"
    have h2' : H2 l = some (.lst (V.int (n0 / m) :: r.map V.int)) := h2
    refine s_ixL h2' (atI_zero _ _) ?_
    walk_at "rd"
    have hE : ∀ H3 ns', Ext [l] H1 H3 → H3 l = some (.lst ((ns' : List Int).map V.int)) → Q (.int (n0 % m)) H3 := fun H3 ns' e3 h3 => by
      have e13 : Ext [l] H H3 := (Ext.mono0 e1).trans e3
      refine q _ _ (Int.emod_nonneg _ (by omega)) (Int.emod_lt_of_pos _ hm) (e13.mono fun x hx => by rw [List.mem_singleton.mp hx]; exact List.mem_cons_of_mem _ List.mem_cons_self) ⟨⟨t, ns', ms, e13.at ha (by simp only [List.mem_singleton]; exact hal), h3, e13.at hc (by simp only [List.mem_singleton]; exact hlc.symm), hms, ht0, by omega, hml⟩, hlc⟩
    refine ifd (fun cc => ?_) (fun cc => ?_)
    · walk_at "rd"
      refine s_pop0 h2' (fun H3 e3 h3 => ?_)
      walk_at "rd"
      exact hE H3 r (e2.trans e3) h3
    · walk_at "rd"
      exact hE H2 ((n0 / m) :: r) e2 h2'
  | nil =>
    refine ifn0 rfl ?_
    walk_at "rd"
    refine s_dgetK (k := .inr "turn") (show H1 a = _ by walk_at "hx") rfl rfl ?_
    walk_at "rd"
    refine s_dputK (k := .inr "turn") (show H1 a = _ by walk_at "hx") rfl (by walk_at "sz") (fun H2 e2 h2 => ?_)
    have h2' : H2 a = some (.dK [(.inr "large", .ref l), (.inr "cells", .ref c), (.inr "turn", .int (t + 1))]) := h2
    have hc1 : H1 c = some (.lst (ms.map V.int)) := by walk_at "hx"
    have hl1 : H1 l = some (.lst (([] : List Int).map V.int)) := by walk_at "hx"
    have hc2 := e2.at hc1 (by simp only [List.mem_singleton]; exact hac.symm)
    have hl2 := e2.at hl1 (by simp only [List.mem_singleton]; exact hal.symm)
    have e02 : Ext [a] H H2 := (Ext.mono0 e1).trans e2
    walk_at "rd"
    refine s_dgetK (k := .inr "cells") h2' rfl rfl ?_
    walk_at "rd"
    refine s_dgetK (k := .inr "cells") h2' rfl rfl ?_
    walk_at "rd"
    have hmp : (0 : Int) < ((ms.map V.int).length : Nat) := by
      rw [List.length_map]
      have := List.length_pos_iff.mpr hms
      omega
    refine s_I hmp ?_
    have hj0 := Int.emod_nonneg (t + 1) (show (((ms.map V.int).length : Nat) : Int) ≠ 0 by omega)
    have hj1 := Int.emod_lt_of_pos (t + 1) hmp
    obtain ⟨j, hj⟩ : ∃ j : Nat, (t + 1) % (((ms.map V.int).length : Nat) : Int) = j := ⟨_, (Int.toNat_of_nonneg hj0).symm⟩
    rw [hj] at hj1 ⊢
    have hjl : j < ms.length := by rw [List.length_map] at hj1; omega
    refine s_ixL hc2 (atI_of rfl (show (ms.map V.int)[j]? = some (.int ms[j]) by rw [List.getElem?_map, List.getElem?_eq_getElem hjl]; rfl)) ?_
    have hx0 := Int.emod_nonneg ms[j] (show (2147483629 : Int) ≠ 0 by decide)
    have hx1 := Int.emod_lt_of_pos ms[j] (show (0 : Int) < 2147483629 by decide)
    walk_at "rd"
    refine s_I (by decide) ?_
    walk_at "rd"
    refine s_I (.inl ⟨by decide, by decide⟩) ?_
    walk_at "rd"
    refine s_I (.inl ⟨by omega, by omega⟩) ?_
    walk_at "rd"
    refine s_I (.inl ⟨by decide, by decide⟩) ?_
    walk_at "rd"
    refine s_I (.inr ⟨by omega, by omega⟩) ?_
    walk_at "rd"
    refine s_I (by decide) ?_
    walk_at "rd"
    generalize (ms[j] % 2147483629 * (40014 + 69621 * (t + 1)) + 48271 * (t + 1) * (t + 1) + 7) = big
    have hy0 := Int.emod_nonneg big (show (2147483647 : Int) ≠ 0 by decide)
    have hy1 := Int.emod_lt_of_pos big (show (0 : Int) < 2147483647 by decide)
    refine s_I (.inl ⟨by omega, by omega⟩) ?_
    walk_at "rd"
    refine s_I ⟨by decide, by decide⟩ ?_
    walk_at "rd"
    refine s_I (by decide) ?_
    walk_at "rd"
    refine s_I hm ?_
    refine q _ _ (Int.emod_nonneg _ (by omega)) (Int.emod_lt_of_pos _ hm) (e02.mono fun x hx => by rw [List.mem_singleton.mp hx]; exact List.mem_cons_self) ⟨⟨t + 1, [], ms, h2', hl2, hc2, hms, by omega, by omega, hml⟩, hlc⟩
abbrev sx_pick : Stmt := top 44
abbrev N_pick : List Str := ["_law_source_here", "_law_items"]
theorem sc_pick : FnScope N_pick ["_law_source_here", "_law_items"] (defScope sx_pick) := ⟨rfl, rfl, rfl, by decide +kernel, rfl, by decide +kernel, by decide +kernel⟩
theorem ok_pick (bi : Bi mg kd) (T : At K mg "_law_pick" sx_pick ["_law_source_here", "_law_items"]) (c_below : Cal P w K mg base k "_law_below" spBelow []) : Cal P w K mg base (k + 1) "_law_pick" spPick [] := by
  refine T.ok sc_pick (fun vs H Q E h => ?_) (fun f cdv A outer s H vs Q E hr h => ?_)
  · obtain ⟨a, l, c, n, p, xs, rfl, _⟩ := h
    rfl
  have nd := sc_pick.nd
  obtain ⟨a, l, c, n, p, xs, rfl, hp, hpa, hpl, hxs, hxl, src, q⟩ := h
  refine ⟨_, (pss_one (ps_ret (pe_ix ix_list (pv 1) (pe_c c_below hr (by omega) (by rfl) (pa_cons (pv 0) (pa_cons (pe_callB (call_lenR (K := K) rfl) (by rfl) bi.len (by decide +kernel) (pa_cons (pv 1) pa_nil)) pa_nil))) (fun _ _ => rfl)))), ?_⟩
  walk_at "rd"
  have hl0 : 0 < xs.length := List.length_pos_iff.mpr hxs
  have hl1 : xs.length ≤ 2 ^ 60 := by omega
  refine ⟨a, l, c, n, _, rfl, by omega, by omega, src, fun r H1 hr0 hr1 e1 src1 => ?_⟩
  have hp1 := e1.at hp (by simp only [List.mem_cons, List.not_mem_nil, or_false, not_or]; exact ⟨hpa, hpl⟩)
  obtain ⟨j, rfl⟩ : ∃ j : Nat, r = j := ⟨_, (Int.toNat_of_nonneg hr0).symm⟩
  have hj : j < xs.length := by omega
  exact s_ixL hp1 (atI_of rfl (List.getElem?_eq_getElem hj)) (q _ _ (List.getElem_mem hj) e1 src1)
abbrev sx_area : Stmt := top 45
abbrev N_area : List Str := ["_law_source_here", "_law_exps", "_law_kind"]
theorem sc_area : FnScope N_area ["_law_source_here", "_law_exps"] (defScope sx_area) := ⟨rfl, rfl, rfl, by decide +kernel, rfl, by decide +kernel, by decide +kernel⟩
theorem ok_area (bi : Bi mg kd) (T : At K mg "_law_area" sx_area ["_law_source_here", "_law_exps"]) (c_pick : Cal P w K mg base k "_law_pick" spPick []) : Cal P w K mg base (k + 1) "_law_area" spArea [] := by
  refine T.ok sc_area (fun vs H Q E h => ?_) (fun f cdv A outer s H vs Q E hr h => ?_)
  · obtain ⟨a, l, c, n, p, xs, rfl, _⟩ := h
    rfl
  have nd := sc_area.nd
  obtain ⟨a, l, c, n, p, es, rfl, hp, hpa, hpl, hes, src, q⟩ := h
  refine ⟨_, (pss_cons (ps_set (i := 2) nd rfl (Or.inl rfl) (pe_c c_pick hr (by omega) (by rfl) (pa_cons (pv 0) (pa_cons (pe_lst (pa_cons pe_str (pa_cons pe_str pa_nil))) pa_nil))))
      (pss_one (ps_ret (pe_tup (pa_cons (pv 2) (pa_cons (pe_op op_shl pe_int (pe_callB (call_minR rfl) (by rfl) bi.min (by decide +kernel) (pa_cons (pe_dget (hu_of hr) (pe_disp (pps_cons pe_str pe_int (pps_cons pe_str pe_int pps_nil)) (by rfl) (by rfl) (fun z => by cases z) (by decide)) (pv 2) (fun _ _ => rfl)) (pa_cons (pe_c c_pick hr (by omega) (by rfl) (pa_cons (pv 0) (pa_cons (pv 1) pa_nil))) pa_nil)))) pa_nil)))))), ?_⟩
  walk_at "rd"
  refine s_newX (by walk_at "sz") (fun p1 H1 hp1 e1 h1 => ?_)
  walk_at "rd"
  have hn1 := src.ne hp1
  refine ⟨a, l, c, n + 1, p1, _, rfl, h1, hn1.1, hn1.2.1, (fun z => nomatch z), by walk_at "sz", src.e0 e1, fun x H2 hx e2 src2 => ?_⟩
  have hx' : ∃ kk : Str, x = .str kk ∧ (kk = kF ∨ kk = kN) := by
    rcases List.mem_cons.mp hx with rfl | hx
    · exact ⟨_, rfl, .inl rfl⟩
    · rw [List.mem_singleton.mp hx]
      exact ⟨_, rfl, .inr rfl⟩
  obtain ⟨kk, rfl, hkk⟩ := hx'
  walk_at "rd"
  refine s_disp (fun d H3 hd e3 h3 => ?_)
  unfold tPairs
  walk_at "rd"
  unfold tPairs
  walk_at "rd"
  unfold tPairs
  refine s_dispE (kvs := [(.inr "far", .int 40), (.inr "near", .int 31)]) h3 rfl (by decide) (fun H4 e4 h4 => ?_)
  have hn3 := src2.ne hd
  have src4 : Src H4 a l c (n + 1) := (src2.e0 e3).e1 e4 hn3
  obtain ⟨b, hb, hb0, hb1⟩ : ∃ b : Int, valV (mergeK [] [((.inr "far" : Key), V.int 40), (.inr "near", .int 31)]) (.inr kk) = some (.int b) ∧ 31 ≤ b ∧ b ≤ 40 := by
    rcases hkk with rfl | rfl
    · exact ⟨40, rfl, by decide, by decide⟩
    · exact ⟨31, rfl, by decide, by decide⟩
  walk_at "rd"
  refine s_dgetK (k := .inr kk) h4 rfl hb ?_
  walk_at "rd"
  have hpd : p ≠ d := fun z => by
    have := Ext.free (M := [a, l]) (H := H) (H' := H2) ((Ext.mono0 e1).trans e2) hd
    rw [← z, hp] at this
    cases this
  have hp4 : H4 p = some (.lst (es.map V.int)) := e4.at (e3.at0 (e2.at (e1.at0 hp) (by simp only [List.mem_cons, List.not_mem_nil, or_false, not_or]; exact ⟨hpa, hpl⟩))) (by simp only [List.mem_singleton]; exact hpd)
  refine ⟨a, l, c, n, p, _, rfl, hp4, hpa, hpl, (fun z => hes.1.1 (List.map_eq_nil_iff.mp z)), (by rw [List.length_map]; exact hes.1.2), src4, fun y H5 hy e5 src5 => ?_⟩
  obtain ⟨e, he, rfl⟩ := List.mem_map.mp hy
  obtain ⟨he1, he2⟩ := hes.2 e he
  walk_at "rd"
  refine s_I ⟨by omega, by omega, by decide⟩ ?_
  walk_at "rd"
  have hm0 : 5 ≤ min b e := by omega
  have hm1 : min b e ≤ 40 := by omega
  obtain ⟨j, hj⟩ : ∃ j : Nat, min b e = j := ⟨_, (Int.toNat_of_nonneg (by omega)).symm⟩
  rw [hj] at hm0 hm1
  rw [hj, Int.toNat_natCast]
  have hpw : (2 : Int) ^ 5 ≤ 2 ^ j ∧ (2 : Int) ^ j ≤ 2 ^ 40 := by
    rw [pow_cast, pow_cast, pow_cast]
    exact ⟨Int.ofNat_le.mpr (Nat.pow_le_pow_right (by decide) (by omega)), Int.ofNat_le.mpr (Nat.pow_le_pow_right (by decide) (by omega))⟩
  refine s_newD (by walk_at "sz") (.two (.str kk) (.int _)) (fun v H6 e6 h6 => q v (kk, 1 * 2 ^ j) H6 ⟨⟨hkk, ⟨j, Int.one_mul _⟩, ?_⟩, ?_⟩ h6 ?_ (src5.e0 e6))
  · show 16 ≤ 1 * (2 : Int) ^ j
    rw [Int.one_mul]
    exact Int.le_trans (by decide) hpw.1
  · show 1 * (2 : Int) ^ j ≤ _
    rw [Int.one_mul]
    exact hpw.2
  · exact (((((Ext.mono0 e1).trans e2).then0 e3).c1 e4 (by walk_at "fr")).trans e5).then0 e6
end
end Bw

/-! the law: part, tree, deep -/
namespace Bw
open PySem PySem.Spec PyProof.Rows L2
open C8 (Cal pe_c pe_gc)
open StX (pa_star tStar)
open RZ (pi_zipA iZipA)
-- the tactics of this text, by key
local macro_rules | `(tactic| walk_at "nm") => `(tactic| first | (intro hmem; cases hmem; done) | (simp only [List.mem_cons, List.mem_singleton, List.not_mem_nil, or_false, not_or, not_false_eq_true]; done) | (simp only [List.mem_cons, List.mem_singleton, List.not_mem_nil, or_false, not_or]; (repeat' apply And.intro) <;> first | assumption | exact Ne.symm (by assumption) | exact ne_some (by assumption) (by assumption) | exact Ne.symm (ne_some (by assumption) (by assumption))))
local macro_rules | `(tactic| walk_at "hx") => `(tactic| first | assumption | exact Dt.non | exact Dt.int _ | exact Dt.str _ | exact Dt.bl _ | (refine Dt.ext (by assumption) ?_; walk_at "hx") | (refine DtAll.ext (by assumption) ?_; walk_at "hx") | (refine Ext.at0 (by assumption) ?_; walk_at "hx") | (refine Ext.tupC (by assumption) ?_; walk_at "hx") | (refine Ext.atC (by assumption) ?_ (by walk_at "nm"); walk_at "hx"))
local macro_rules | `(tactic| walk_at "dm") => `(tactic| first | exact fun _ h => h | (refine dom_step (by assumption) ?_; walk_at "dm"))
local macro_rules | `(tactic| walk_at "fr") => `(tactic| first | assumption | (refine fr_of (by assumption) ?_; walk_at "dm"))
local macro_rules | `(tactic| walk_at "ex") => `(tactic| first | assumption | exact Ext.refl | exact Ext.mono0 (by assumption) | (refine Ext.then0 ?_ (by assumption); walk_at "ex") | (refine Ext.transC ?_ (by assumption); walk_at "ex") | (refine Ext.c1 ?_ (by assumption) (by walk_at "fr"); walk_at "ex") | (refine Ext.cm ?_ (by assumption) (by simp only [List.mem_cons, true_or, or_true]; done); walk_at "ex"))
local macro_rules | `(tactic| walk_at "r1") => `(tactic| first
  | (with_reducible refine s_var rfl ?_) | (with_reducible refine s_c ?_) | (with_reducible refine s_op ?_) | (with_reducible refine s_un ?_) | (with_reducible refine s_I0 ?_) | (with_reducible refine s_U ?_)
  | (with_reducible refine s_eqI ?_) | (with_reducible refine s_eqS ?_) | (with_reducible refine s_eqB ?_) | (with_reducible refine s_neI ?_) | (with_reducible refine s_neS ?_) | (with_reducible refine s_neB ?_)
  | (with_reducible refine s_isN1 ?_) | (with_reducible refine s_isN0 ?_) | (with_reducible refine s_notN1 ?_) | (with_reducible refine s_notN0 ?_) | (with_reducible refine s_isBl ?_) | (with_reducible refine s_notBl ?_)
  | (with_reducible refine s_test ?_) | (with_reducible refine s_B ?_) | (with_reducible refine s_bl ?_) | (with_reducible refine s_and ?_) | (with_reducible refine s_or ?_) | (with_reducible refine s_not ?_)
  | (with_reducible refine s_andV ?_) | (with_reducible refine s_orV ?_) | (with_reducible refine s_notV ?_) | (with_reducible refine s_ifE ?_) | (with_reducible refine s_chain ?_)
  | (with_reducible refine s_next ?_) | (with_reducible refine s_seq ?_) | (with_reducible refine s_drop ?_) | (with_reducible refine s_ret ?_) | (with_reducible refine s_retN ?_) | (with_reducible refine s_ifS ?_) | (with_reducible refine s_asg ?_)
  | ((with_reducible refine g_name ?_); refine s_name (by first | rfl) ?_) | (with_reducible refine s_parS ?_) | (with_reducible refine s_par ?_) | ((with_reducible refine g_nx ?_); refine s_nx rfl ?_) | (with_reducible refine s_gsub ?_) | (with_reducible refine s_gnil ?_) | (with_reducible refine s_gcons ?_)
  | (with_reducible refine s_call ?_) | (with_reducible refine s_cb ?_) | (with_reducible refine s_nil ?_) | (with_reducible refine s_cons ?_) | (with_reducible refine s_tupT ?_) | (with_reducible refine s_lstT ?_)
  | (with_reducible refine s_sl ?_) | (with_reducible refine s_nopart ?_) | (with_reducible refine s_part ?_) | (with_reducible refine s_int ?_) | (with_reducible refine s_bm ?_) | (with_reducible refine s_dget ?_) | (with_reducible refine s_dputS ?_)
  | (with_reducible refine s_forS ?_) | (with_reducible refine s_lc ?_) | (with_reducible refine s_iTup ?_) | (with_reducible refine s_iList ?_) | (with_reducible refine s_iRng1 ?_) | (with_reducible refine s_iRng2 ?_) | (with_reducible refine s_tYes ?_) | (with_reducible refine s_intI ?_) | (with_reducible refine s_intB ?_) | (with_reducible refine s_min2 ?_) | (with_reducible refine s_max2 ?_) | (with_reducible refine s_abs ?_) | (with_reducible refine s_revL ?_) | (with_reducible refine s_iEnumT ?_) | (with_reducible refine s_iEnum ?_) | (with_reducible refine s_iZipA ?_) | (with_reducible refine s_iZipM ?_) | (with_reducible refine s_iZip ?_) | (with_reducible refine s_iStr ?_) | (with_reducible refine s_star ?_) | (with_reducible refine s_lc2 ?_) | (with_reducible refine s_dc ?_) | (with_reducible refine s_bm ?_)
  | (with_reducible refine isi_int _ ?_) | (with_reducible refine isi_intB _ ?_) | (with_reducible refine isi_str _ ?_) | (with_reducible refine isi_non ?_)
  | (with_reducible refine iteT ?_) | (with_reducible refine iteF ?_) | (with_reducible refine iteNT ?_) | (with_reducible refine iteNF ?_))
local macro_rules | `(tactic| walk_at "r2") => `(tactic| first
  | ((with_reducible refine g_ixT ?_); first | (refine s_ixT (by walk_at "hx") rfl ?_) | (refine s_ixDs (by walk_at "hx") rfl ?_) | (refine s_ixDi (by walk_at "hx") rfl ?_) | (refine s_ixD (by walk_at "hx") rfl (fun _ _ => ?_)) | (refine s_ixD0s (by walk_at "hx") ?_))
  | ((with_reducible refine g_form ?_); first | (refine isDev_non ?_) | (refine isBr_non ?_) | (refine isDev_dev (by walk_at "hx") ?_) | (refine isDev_br (by walk_at "hx") ?_) | (refine isBr_dev (by walk_at "hx") ?_) | (refine isBr_br (by walk_at "hx") ?_))
  | ((with_reducible refine g_isi ?_); first | (with_reducible refine isi_dt (by walk_at "hx") ?_) | (with_reducible refine isi_tup (by walk_at "hx") ?_))
  | ((with_reducible refine g_len ?_); first | (with_reducible refine s_lenL (by walk_at "hx") ?_) | (with_reducible refine s_lenT (by walk_at "hx") ?_) | (with_reducible refine s_lenD (by walk_at "hx") ?_))
  | ((with_reducible refine g_ty ?_); first | (refine s_tyK (by assumption) ?_) | (with_reducible refine s_tyL (by walk_at "hx") ?_))
  | ((with_reducible refine g_tix ?_); first | (refine s_idx0 (by assumption) ?_) | (refine s_idx1 (by assumption) ?_))
  | ((with_reducible refine g_enT ?_); with_reducible refine s_enT (by walk_at "hx") ?_) | ((with_reducible refine g_enL ?_); with_reducible refine s_enL (by walk_at "hx") ?_)
  | ((with_reducible refine g_za ?_); first | (with_reducible refine s_zaT2 (by walk_at "hx") (by walk_at "hx") ?_) | (with_reducible refine s_zaL (by walk_at "hx") (by walk_at "hx") ?_))
  | ((with_reducible refine g_zm ?_); first | (with_reducible refine s_zmT (by walk_at "hx") (by walk_at "hx") ?_) | (with_reducible refine s_zmL (by walk_at "hx") (by walk_at "hx") ?_))
  | ((with_reducible refine g_zl ?_); with_reducible refine s_zl (by walk_at "hx") (by walk_at "hx") ?_)
  | ((with_reducible refine g_itT ?_); with_reducible refine s_itT (by walk_at "hx") ?_) | ((with_reducible refine g_itL ?_); with_reducible refine s_itL (by walk_at "hx") ?_)
  | ((with_reducible refine g_gtup ?_); refine s_gtup (by walk_at "hx") rfl ?_))
local macro_rules | `(tactic| walk_at "rd") => `(tactic| repeat (first | walk_at "r1" | walk_at "r2"))
local macro_rules | `(tactic| walk_at "sz") => `(tactic| (simp only [List.length_cons, List.length_nil, List.length_append, List.length_map, sizeLine_eq] <;> omega))
section
variable {P : Program} {w : World} {K : PySem.W.Frag} {mg : Str → Option Value} {base : Heap} {kd : Addr} {k : Nat}
theorem nil3 {a l q : Addr} : ∀ x ∈ [a, l], x ∈ [a, l, q] := fun x h => by
  simp only [List.mem_cons, List.not_mem_nil, or_false] at h ⊢
  rcases h with h | h
  · exact .inl h
  · exact .inr (.inl h)
theorem names_cat {s m e : Nat} (h1 : s ≤ m) (h2 : m ≤ e) : (List.range' s (m - s)).map ltr ++ (List.range' m (e - m)).map ltr = (List.range' s (e - s)).map ltr := by
  rw [← List.map_append]
  have := List.range'_append (s := s) (m := m - s) (n := e - m) (step := 1)
  rw [show s + 1 * (m - s) = m by omega, show m - s + (e - m) = e - s by omega] at this
  rw [this]
theorem nmss_append : ∀ ps qs : List Part, nmss (ps ++ qs) = nmss ps ++ nmss qs
  | [], _ => rfl
  | p :: r, qs => by rw [List.cons_append, nmss, nmss, nmss_append r qs, List.append_assoc]
theorem nmss_one (p : Part) : nmss [p] = nms p := by
  show nms p ++ [] = _
  rw [List.append_nil]
theorem psMx_append {ps qs : List Part} (h : PsMx ps) (g : PsMx qs) : PsMx (ps ++ qs) := psMx_iff.mpr fun p hp => (List.mem_append.mp hp).elim (psMx_iff.mp h p) (psMx_iff.mp g p)
theorem deps_append : ∀ ps qs : List Part, deps (ps ++ qs) = max (deps ps) (deps qs)
  | [], qs => by show deps qs = max 0 (deps qs); omega
  | p :: r, qs => by
    rw [List.cons_append, deps, deps, deps_append r qs]
    omega
theorem deps_one (p : Part) : deps [p] = dep p := by
  show max (dep p) 0 = _
  omega
theorem cnts_one (p : Part) : cnts [p] = cnt p := rfl
abbrev sx_part : Stmt := top 46
abbrev N_part : List Str := ["_law_source_here", "_law_numbers", "_law_above", "_law_exps", "_law_draw", "_law_number", "_law_marks", "_law_many", "_law_parts", "_law_areas", "_law_k"]
theorem sc_part : FnScope N_part ["_law_source_here", "_law_numbers", "_law_above", "_law_exps"] (defScope sx_part) := ⟨rfl, rfl, rfl, by decide +kernel, rfl, by decide +kernel, by decide +kernel⟩
theorem ok_part0 (T : At K mg "_law_part" sx_part ["_law_source_here", "_law_numbers", "_law_above", "_law_exps"]) : Cal P w K mg base (k + 1) "_law_part" (spPart 0) [] := by
  refine T.ok sc_part (fun vs H Q E h => ?_) (fun f cdv A outer s H vs Q E hr h => ?_)
  · obtain ⟨a, l, c, n, q, d, b, D, B, above, p, es, rfl, _⟩ := h
    rfl
  obtain ⟨a, l, c, n, q, d, b, D, B, above, p, es, rfl, _, _, _, _, _, _, _, _, _, _, _, _, h, _⟩ := h
  omega
theorem ok_part {ff : Nat} (bi : Bi mg kd) (T : At K mg "_law_part" sx_part ["_law_source_here", "_law_numbers", "_law_above", "_law_exps"]) (c_below : Cal P w K mg base k "_law_below" spBelow []) (c_pick : Cal P w K mg base k "_law_pick" spPick [])
    (c_part : Cal P w K mg base k "_law_part" (spPart ff) []) (c_area : Cal P w K mg base k "_law_area" spArea []) : Cal P w K mg base (k + 1) "_law_part" (spPart (ff + 1)) [] := by
  refine T.ok sc_part (fun vs H Q E h => ?_) (fun f cdv A outer s H vs Q E hr h => ?_)
  · obtain ⟨a, l, c, n, q, d, b, D, B, above, p, es, rfl, _⟩ := h
    rfl
  have nd := sc_part.nd
  obtain ⟨a, l, c, n, q, d, b, D, B, above, p, es, rfl, src, hq, hqn, hp, hpa, hpl, hpq, hes, hd, hb, hD, hB, hf, Q1⟩ := h
  unfold Nums at hq
  have h4 : 40 * 4 ^ (ff + 1) = 4 * (40 * 4 ^ ff) := by rw [Nat.pow_succ]; omega
  have h40 : 40 ≤ 40 * 4 ^ ff := by
    have := Nat.pow_pos (n := ff) (show 0 < 4 by decide)
    omega
  rw [h4] at src
  generalize hC : 40 * 4 ^ ff = C at src h40 h4
  have hql : q ∉ [a, l] := by simp only [List.mem_cons, List.not_mem_nil, or_false, not_or]; exact ⟨hqn.1, hqn.2.1⟩
  have hpM : p ∉ [a, l] := by simp only [List.mem_cons, List.not_mem_nil, or_false, not_or]; exact ⟨hpa, hpl⟩
  have hpM3 : p ∉ [a, l, q] := by simp only [List.mem_cons, List.not_mem_nil, or_false, not_or]; exact ⟨hpa, hpl, hpq⟩
  refine ⟨_, (pss_cons (ps_par (i := 4) (j := 5) (by rfl) nd rfl rfl (by decide) rfl rfl (pa_cons (pe_c c_below hr (by omega) (by rfl) (pa_cons (pv 0) (pa_cons pe_int pa_nil))) (pa_cons (pe_op op_add (pe_ix ix_list (pv 1) pe_int (fun _ _ => rfl)) (pe_ix ix_list (pv 1) pe_int (fun _ _ => rfl))) pa_nil)) (by rfl))
      (pss_cons (ps_if (PW.pt (pw_and (pt_cmpR op_lt (pv 4) pe_int (nomark _)) (pw_and (pt_cmpR op_lt (pe_ix ix_list (pv 1) pe_int (fun _ _ => rfl)) (pe_ix ix_list (pv 1) pe_int (fun _ _ => rfl)) (nomark _)) (pw_and1 (pt_cmpR op_lt (pv 2) pe_int (nomark _)))))) (pss_cons (ps_asg (pe_op op_add (pe_ix ix_list (pv 1) pe_int (fun _ _ => rfl)) pe_int) (pg_sub (pv 1) pe_int set_list))
      (pss_cons (ps_set (i := 6) nd rfl (Or.inl rfl) (pe_c c_pick hr (by omega) (by rfl) (pa_cons (pv 0) (pa_cons (pe_lst (pa_cons (pe_tup pa_nil) (pa_cons (pe_tup pa_nil) (pa_cons (pe_tup (pa_cons pe_str pa_nil)) (pa_cons (pe_tup (pa_cons pe_str pa_nil)) (pa_cons (pe_tup (pa_cons pe_str (pa_cons pe_str pa_nil))) pa_nil)))))) pa_nil))))
      (pss_cons (ps_set (i := 7) nd rfl (Or.inl rfl) (pe_c c_below hr (by omega) (by rfl) (pa_cons (pv 0) (pa_cons pe_int pa_nil))))
      (pss_cons (ps_set (i := 8) nd rfl (Or.inl rfl) (pe_callTy (call_tupR (K := K) rfl) (by rfl) bi.tuple (by decide +kernel) (pa_cons (pe_lc (own := [("_law_k", 10)]) (g := gName 10) (by rfl) nd (pi_range1 (by rfl) bi.range (pa_cons (pv 7) pa_nil)) (blkOk_by (own := [("_law_k", 10)]) (N := N_part) (sc := defScope sx_part) (by decide +kernel)) (fun _ _ _ _ _ => (pg_name (i := 10) nd rfl (Or.inl rfl))) (fun _ _ _ _ _ => pts_nil) (fun _ _ _ _ _ => (pe_c c_part hr (by omega) (by rfl) (pa_cons (pv 0) (pa_cons (pv 1) (pa_cons (pe_op op_add (pv 2) pe_int) (pa_cons (pv 3) pa_nil))))))) pa_nil)))
      (pss_one (ps_ret (pe_tup (pa_cons pe_str (pa_cons (pe_ix ix_str pe_str (pv 5) (fun _ _ => rfl)) (pa_cons (pv 6) (pa_cons (pv 8) pa_nil))))))))))) pss_nil)
      (pss_cons (ps_if (PW.pt (pw_or (pt_cmpR op_eq (pv 4) pe_int (nomark _)) (pw_or1 (pt_cmpR op_ge (pe_ix ix_list (pv 1) pe_int (fun _ _ => rfl)) (pe_ix ix_list (pv 1) pe_int (fun _ _ => rfl)) (nomark _))))) (pss_one (ps_ret pe_non)) pss_nil)
      (pss_cons (ps_asg (pe_op op_add (pe_ix ix_list (pv 1) pe_int (fun _ _ => rfl)) pe_int) (pg_sub (pv 1) pe_int set_list))
      (pss_cons (ps_set (i := 9) nd rfl (Or.inl rfl) (pe_callTy (call_tupR (K := K) rfl) (by rfl) bi.tuple (by decide +kernel) (pa_cons (pe_lc (own := [("_law_k", 10)]) (g := gName 10) (by rfl) nd (pi_range1 (by rfl) bi.range (pa_cons (pe_c c_below hr (by omega) (by rfl) (pa_cons (pv 0) (pa_cons pe_int pa_nil))) pa_nil)) (blkOk_by (own := [("_law_k", 10)]) (N := N_part) (sc := defScope sx_part) (by decide +kernel)) (fun _ _ _ _ _ => (pg_name (i := 10) nd rfl (Or.inl rfl))) (fun _ _ _ _ _ => pts_nil) (fun _ _ _ _ _ => (pe_c c_area hr (by omega) (by rfl) (pa_cons (pv 0) (pa_cons (pv 3) pa_nil))))) pa_nil)))
      (pss_one (ps_ret (pe_tup (pa_cons pe_str (pa_cons (pe_ix ix_str pe_str (pv 5) (fun _ _ => rfl)) (pa_cons (pv 9) pa_nil))))))))))), ?_⟩
  walk_at "rd"
  refine ⟨a, l, c, n + 4 * C - 1, 6, rfl, by decide, by decide, src.le (by omega), fun r H1 hr0 hr1 e1 src1 => ?_⟩
  have hq1 := e1.at hq hql
  have hp1 := e1.at hp hpM
  walk_at "rd"
  refine s_ixL hq1 rfl ?_
  walk_at "rd"
  refine s_ixL hq1 rfl ?_
  walk_at "rd"
  refine ifd (fun c1 => ?b1) (fun c1 => ?n1)
  case' b1 =>
    walk_at "rd"
    refine s_ixL hq1 rfl ?_
    walk_at "rd"
    refine s_ixL hq1 rfl ?_
    walk_at "rd"
    refine ifd (fun c2 => ?b2) (fun c2 => ?n2)
  case' b2 =>
    walk_at "rd"
    refine ifd (fun c3 => ?b3) (fun c3 => ?n3)
  case b3 =>
    walk_at "rd"
    refine s_ixL hq1 rfl ?_
    walk_at "rd"
    refine s_setL (j := 1) hq1 rfl (fun H2 e2 h2 => ?_)
    have h2' : H2 q = some (.lst [.int d, .int ((b + 1 : Nat) : Int), .int D, .int B]) := by rw [h2]; rfl
    have src2 : Src H2 a l c (n + 4 * C - 1) := src1.e1 e2 hqn
    walk_at "rd"
    refine s_newD (ds := ([] : List Str).map .str) (by walk_at "sz") .nil (fun m1 H3 e3 k1 => ?_)
    walk_at "rd"
    refine s_newD (ds := ([] : List Str).map .str) (by walk_at "sz") .nil (fun m2 H4 e4 k2 => ?_)
    walk_at "rd"
    refine s_newD (ds := (["hiding"] : List Str).map .str) (by walk_at "sz") (.one (.str _)) (fun m3 H5 e5 k3 => ?_)
    walk_at "rd"
    refine s_newD (ds := (["strict"] : List Str).map .str) (by walk_at "sz") (.one (.str _)) (fun m4 H6 e6 k4 => ?_)
    walk_at "rd"
    refine s_newD (ds := (["hiding", "strict"] : List Str).map .str) (by walk_at "sz") (.two (.str _) (.str _)) (fun m5 H7 e7 k5 => ?_)
    walk_at "rd"
    refine s_newX (by walk_at "sz") (fun ml H8 hml e8 h8 => ?_)
    walk_at "rd"
    have y1 := k1.e0 ((((e4.then0 e5).then0 e6).then0 e7).then0 e8)
    have y2 := k2.e0 (((e5.then0 e6).then0 e7).then0 e8)
    have y3 := k3.e0 ((e6.then0 e7).then0 e8)
    have y4 := k4.e0 (e7.then0 e8)
    have y5 := k5.e0 e8
    have e28 : Ext [] H2 H8 := ((((e3.then0 e4).then0 e5).then0 e6).then0 e7).then0 e8
    have src8 := src2.e0 e28
    have hm8 := (src2.e0 ((((e3.then0 e4).then0 e5).then0 e6).then0 e7)).ne hml
    refine ⟨a, l, c, n + 4 * C - 2, ml, _, rfl, h8, hm8.1, hm8.2.1, (fun z => nomatch z), by walk_at "sz", src8.le (by omega), fun mk H9 hmk e9 src9 => ?_⟩
    have hmk' : ∃ ms : List Str, Dt H9 mk (.tuple (ms.map .str)) ∧ ∀ m ∈ ms, PyData.strOk m = true := by
      have x1 := y1.ext e9
      have x2 := y2.ext e9
      have x3 := y3.ext e9
      have x4 := y4.ext e9
      have x5 := y5.ext e9
      simp only [List.mem_cons, List.not_mem_nil, or_false] at hmk
      rcases hmk with rfl | rfl | rfl | rfl | rfl
      · exact ⟨_, x1, by decide +kernel⟩
      · exact ⟨_, x2, by decide +kernel⟩
      · exact ⟨_, x3, by decide +kernel⟩
      · exact ⟨_, x4, by decide +kernel⟩
      · exact ⟨_, x5, by decide +kernel⟩
    obtain ⟨ms, hms, hmsok⟩ := hmk'
    walk_at "rd"
    refine ⟨a, l, c, n + 4 * C - 3, 4, rfl, by decide, by decide, src9.le (by omega), fun m H10 hm0 hm1 e10 src10 => ?_⟩
    obtain ⟨m, rfl⟩ : ∃ j : Nat, m = j := ⟨_, (Int.toNat_of_nonneg hm0).symm⟩
    have e210 : Ext [a, l] H2 H10 := ((Ext.mono0 e28).trans e9).trans e10
    have hq10 := e210.at h2' hql
    have hpq1 : p ∉ [q] := by simp only [List.mem_singleton]; exact hpq
    have hp10 := e210.at (e2.at hp1 hpq1) hpM
    have hbB : b < B := by omega
    have hm4 : m < 4 := by omega
    walk_at "rd"
    refine ⟨_, rfl, by omega, by omega, ?_⟩
    rw [Int.toNat_natCast]
    refine lc_W walk_range [a, l, q] (fun i acc H' => ∃ (pts : List Part) (d2 b2 : Nat), DtAll H' acc (pts.map Part.enc) ∧ d ≤ d2 ∧ d2 ≤ D ∧ b + 1 ≤ b2 ∧ b2 ≤ B ∧ Nums H' q d2 b2 D B ∧ PsMx pts ∧ nmss pts = (List.range' (d + b + 1) (d2 + b2 - (d + b + 1))).map ltr ∧ cnts pts ≤ i + 3 * (d2 - d) + 3 * (b2 - (b + 1)) ∧ deps pts ≤ b2 - (b + 1) ∧ Src H' a l c (n + (m - i) * C))
      (fun _ _ => trivial) (fun H' e' => ⟨[], d, b + 1, .nil, Nat.le_refl _, hd, Nat.le_refl _, hbB, e'.at0 hq10, trivial, ?_, Nat.zero_le _, Nat.zero_le _, (src10.e0 e').le ?_⟩) (fun i x DD acc H11 H12 hi hDD e hacc hl hR y => ?_) (fun DD acc H11 hDD e hacc hl hR => ?_)
    · rw [show d + (b + 1) - (d + b + 1) = 0 by omega]
      rfl
    · have : (m - 0) * C ≤ 3 * C := Nat.mul_le_mul_right _ (by omega)
      omega
    · obtain ⟨rfl, rfl⟩ := y
      obtain ⟨pts, d2, b2, hR1, hR2, hR3, hR4, hR5, hR6, hR7, hR8, hR9, hR10, hR11⟩ := hR
      have hDa := src10.ne hDD
      have hDq : DD ≠ q := (ne_some hq10 hDD).symm
      have hp11 := e.at hp10 hpM3
      have hmi : (m - i) * C = (m - (i + 1)) * C + C := by
        rw [show m - i = (m - (i + 1)) + 1 by omega, Nat.add_mul, Nat.one_mul]
      rw [hmi] at hR11
      unfold Nums at hR6
      walk_at "rd"
      refine ⟨rfl, ?_⟩
      walk_at "rd"
      refine ⟨a, l, c, n + (m - (i + 1)) * C, q, d2, b2, D, B, _, p, es, rfl, by rw [← Nat.add_assoc] at hR11; rw [hC]; exact hR11, hR6, hqn, hp11, hpa, hpl, hpq, hes, hR3, hR5, hD, hB, by omega, fun v pt d3 b3 H13 j1 j2 j3 j4 hv hn13 hpm hnm hct hdpt e13 src13 => ?_⟩
      have hDM : DD ∉ [a, l, q] := by simp only [List.mem_cons, List.not_mem_nil, or_false, not_or]; exact ⟨hDa.1, hDa.2.1, hDq⟩
      refine lc_put hDD (e.trans e13) (e13.at hacc hDM) hl (by omega) (fun H14 e14 => ⟨pts ++ [pt], d3, b3, ?_, by omega, j2, by omega, j4, e14.at hn13 (by simp only [List.mem_singleton]; exact hDq.symm), psMx_append hR7 ⟨hpm, trivial⟩, ?_, ?_, ?_, src13.e1 e14 hDa⟩)
      · rw [List.map_append]
        exact ((hR1.ext e13).ext e14).append (.one (hv.ext e14))
      · rw [nmss_append, nmss_one, hR8, hnm, show d + b + 1 = d + b + 1 from rfl]
        exact names_cat (by omega) (by omega)
      · rw [cnts_append, cnts_one]
        omega
      · rw [deps_append, deps_one]
        omega
    · obtain ⟨pts, d2, b2, hR1, hR2, hR3, hR4, hR5, hR6, hR7, hR8, hR9, hR10, hR11⟩ := hR
      walk_at "rd"
      refine s_tupOfD hacc hR1 (fun pv H12 e12 hpv => ?_)
      walk_at "rd"
      rw [show (d : Int) + (b : Int) = ((d + b : Nat) : Int) by omega]
      refine s_ixLet (by omega) ?_
      walk_at "rd"
      have e911 : Ext [a, l, q] H9 H11 := (e10.mono nil3).trans e
      refine s_newD (ds := [.str "bridge", .str (ltr (d + b)), .tuple (ms.map .str), .tuple (encs pts)]) (by walk_at "sz") (.cons (.str _) (.cons (.str _) (.cons (hms.ext (M := [a, l, q]) (e911.then0 e12)) (.cons (by rw [encs_map]; exact hpv) .nil)))) (fun v H13 e13 hv => ?_)
      refine Q1 v (.br (ltr (d + b)) ms pts) d2 b2 H13 hR2 hR3 (by omega) hR5 (by unfold Part.enc; exact hv) (e13.at0 (e12.at0 hR6)) ⟨ltr_ok _ (by omega), hmsok, hR7⟩ ?_ ?_ ?_ ?_ ?_
      · show ltr (d + b) :: nmss pts = _
        rw [hR8, show d2 + b2 - (d + b) = (d2 + b2 - (d + b + 1)) + 1 by omega]
        rfl
      · show 1 + cnts pts ≤ _
        omega
      · show deps pts + 1 ≤ _
        omega
      · exact (((((e1.mono nil3).trans (e2.mono (fun x hx => by rw [List.mem_singleton.mp hx]; simp))).trans (e210.mono nil3)).trans e).then0 e12).then0 e13
      · exact ((hR11.e0 e12).e0 e13).le (by omega)
  all_goals
    walk_at "rd"
    have none_ : Q .non H1 := Q1 .non .emp d b H1 (Nat.le_refl _) hd (Nat.le_refl _) hb .non hq1 trivial (by rw [Nat.sub_self]; rfl) (by show 1 ≤ _; omega) (Nat.zero_le _) (e1.mono nil3) (src1.le (by omega))
    refine ifd (fun c4 => ?_) (fun c4 => ?_)
    · walk_at "rd"
      exact none_
    · walk_at "rd"
      refine s_ixL hq1 rfl ?_
      walk_at "rd"
      refine s_ixL hq1 rfl ?_
      walk_at "rd"
      refine ifd (fun c5 => ?_) (fun c5 => ?_)
      · walk_at "rd"
        exact none_
      · clear none_
        walk_at "rd"
        refine s_ixL hq1 rfl ?_
        walk_at "rd"
        refine s_setL (j := 0) hq1 rfl (fun H2 e2 h2 => ?_)
        have h2' : H2 q = some (.lst [.int ((d + 1 : Nat) : Int), .int b, .int D, .int B]) := by rw [h2]; rfl
        have src2 : Src H2 a l c (n + 4 * C - 1) := src1.e1 e2 hqn
        walk_at "rd"
        refine ⟨a, l, c, n + 4 * C - 2, 4, rfl, by decide, by decide, src2.le (by omega), fun m H3 hm0 hm1 e3 src3 => ?_⟩
        obtain ⟨m, rfl⟩ : ∃ j : Nat, m = j := ⟨_, (Int.toNat_of_nonneg hm0).symm⟩
        have hpq1 : p ∉ [q] := by simp only [List.mem_singleton]; exact hpq
        have hp3 := e3.at (e2.at hp1 hpq1) hpM
        have hq3 := e3.at h2' hql
        walk_at "rd"
        refine ⟨_, rfl, by omega, by omega, ?_⟩
        rw [Int.toNat_natCast]
        refine lc_W walk_range [a, l] (fun i acc H' => ∃ as : List Area, DtAll H' acc (as.map encA) ∧ (∀ x ∈ as, ArOk x) ∧ as.length ≤ i ∧ Src H' a l c (n + 2 * (m - i)))
          (fun _ _ => trivial) (fun H' e' => ⟨[], .nil, (fun _ h => nomatch h), Nat.zero_le _, (src3.e0 e').le (by omega)⟩) (fun i x DD acc H4 H5 hi hDD e hacc hl hR y => ?_) (fun DD acc H4 hDD e hacc hl hR => ?_)
        · obtain ⟨rfl, rfl⟩ := y
          obtain ⟨as, hR1, hR2, hR3, hR4⟩ := hR
          have hDa := src3.ne hDD
          have hDM : DD ∉ [a, l] := by simp only [List.mem_cons, List.not_mem_nil, or_false, not_or]; exact ⟨hDa.1, hDa.2.1⟩
          walk_at "rd"
          refine ⟨rfl, ?_⟩
          walk_at "rd"
          refine ⟨a, l, c, n + 2 * (m - (i + 1)), p, es, rfl, e.at hp3 hpM, hpa, hpl, hes, hR4.le (by omega), fun v x H6 hx hv e6 src6 => ?_⟩
          refine lc_put hDD (e.trans e6) (e6.at hacc hDM) hl (by omega) (fun H7 e7 => ⟨as ++ [x], ?_, fun z hz => ?_, by rw [List.length_append]; show _ + 1 ≤ _; omega, src6.e1 e7 hDa⟩)
          · rw [List.map_append]
            exact ((hR1.ext e6).ext e7).append (.one (hv.ext e7))
          · rcases List.mem_append.mp hz with hz | hz
            · exact hR2 z hz
            · rw [List.mem_singleton.mp hz]; exact hx
        · obtain ⟨as, hR1, hR2, hR3, hR4⟩ := hR
          walk_at "rd"
          refine s_tupOfD hacc hR1 (fun pv H5 e5 hpv => ?_)
          walk_at "rd"
          rw [show (d : Int) + (b : Int) = ((d + b : Nat) : Int) by omega]
          refine s_ixLet (by omega) ?_
          walk_at "rd"
          refine s_newD (ds := [.str "device", .str (ltr (d + b)), .tuple (as.map encA)]) (by walk_at "sz") (.cons (.str _) (.cons (.str _) (.cons hpv .nil))) (fun v H6 e6 hv => ?_)
          refine Q1 v (.dev (ltr (d + b)) as) (d + 1) b H6 (by omega) (by omega) (Nat.le_refl _) hb (by unfold Part.enc; exact hv) (e6.at0 (e5.at0 (e.at hq3 hql))) ⟨ltr_ok _ (by omega), hR2⟩ ?_ ?_ (Nat.zero_le _) ?_ ?_
          · rw [show d + 1 + b - (d + b) = 1 by omega]
            rfl
          · show 1 + as.length ≤ _
            omega
          · exact (((((e1.mono nil3).trans (e2.mono (fun x hx => by rw [List.mem_singleton.mp hx]; simp))).trans (e3.mono nil3)).trans (e.mono nil3)).then0 e5).then0 e6
          · exact ((hR4.e0 e5).e0 e6).le (by omega)
end
end Bw

/-! the law: tree, deep -/
namespace Bw
open PySem PySem.Spec PyProof.Rows L2
open C8 (Cal pe_c pe_gc)
open StX (pa_star tStar)
open RZ (pi_zipA iZipA)
-- the tactics of this text, by key
local macro_rules | `(tactic| walk_at "nm") => `(tactic| first | (intro hmem; cases hmem; done) | (simp only [List.mem_cons, List.mem_singleton, List.not_mem_nil, or_false, not_or, not_false_eq_true]; done) | (simp only [List.mem_cons, List.mem_singleton, List.not_mem_nil, or_false, not_or]; (repeat' apply And.intro) <;> first | assumption | exact Ne.symm (by assumption) | exact ne_some (by assumption) (by assumption) | exact Ne.symm (ne_some (by assumption) (by assumption))))
local macro_rules | `(tactic| walk_at "hx") => `(tactic| first | assumption | exact Dt.non | exact Dt.int _ | exact Dt.str _ | exact Dt.bl _ | (refine Dt.ext (by assumption) ?_; walk_at "hx") | (refine DtAll.ext (by assumption) ?_; walk_at "hx") | (refine Ext.at0 (by assumption) ?_; walk_at "hx") | (refine Ext.tupC (by assumption) ?_; walk_at "hx") | (refine Ext.atC (by assumption) ?_ (by walk_at "nm"); walk_at "hx"))
local macro_rules | `(tactic| walk_at "dm") => `(tactic| first | exact fun _ h => h | (refine dom_step (by assumption) ?_; walk_at "dm"))
local macro_rules | `(tactic| walk_at "fr") => `(tactic| first | assumption | (refine fr_of (by assumption) ?_; walk_at "dm"))
local macro_rules | `(tactic| walk_at "ex") => `(tactic| first | assumption | exact Ext.refl | exact Ext.mono0 (by assumption) | (refine Ext.then0 ?_ (by assumption); walk_at "ex") | (refine Ext.transC ?_ (by assumption); walk_at "ex") | (refine Ext.c1 ?_ (by assumption) (by walk_at "fr"); walk_at "ex") | (refine Ext.cm ?_ (by assumption) (by simp only [List.mem_cons, true_or, or_true]; done); walk_at "ex"))
local macro_rules | `(tactic| walk_at "r1") => `(tactic| first
  | (with_reducible refine s_var rfl ?_) | (with_reducible refine s_c ?_) | (with_reducible refine s_op ?_) | (with_reducible refine s_un ?_) | (with_reducible refine s_I0 ?_) | (with_reducible refine s_U ?_)
  | (with_reducible refine s_eqI ?_) | (with_reducible refine s_eqS ?_) | (with_reducible refine s_eqB ?_) | (with_reducible refine s_neI ?_) | (with_reducible refine s_neS ?_) | (with_reducible refine s_neB ?_)
  | (with_reducible refine s_isN1 ?_) | (with_reducible refine s_isN0 ?_) | (with_reducible refine s_notN1 ?_) | (with_reducible refine s_notN0 ?_) | (with_reducible refine s_isBl ?_) | (with_reducible refine s_notBl ?_)
  | (with_reducible refine s_test ?_) | (with_reducible refine s_B ?_) | (with_reducible refine s_bl ?_) | (with_reducible refine s_and ?_) | (with_reducible refine s_or ?_) | (with_reducible refine s_not ?_)
  | (with_reducible refine s_andV ?_) | (with_reducible refine s_orV ?_) | (with_reducible refine s_notV ?_) | (with_reducible refine s_ifE ?_) | (with_reducible refine s_chain ?_)
  | (with_reducible refine s_next ?_) | (with_reducible refine s_seq ?_) | (with_reducible refine s_drop ?_) | (with_reducible refine s_ret ?_) | (with_reducible refine s_retN ?_) | (with_reducible refine s_ifS ?_) | (with_reducible refine s_asg ?_)
  | ((with_reducible refine g_name ?_); refine s_name (by first | rfl) ?_) | (with_reducible refine s_parS ?_) | (with_reducible refine s_par ?_) | ((with_reducible refine g_nx ?_); refine s_nx rfl ?_) | (with_reducible refine s_gsub ?_) | (with_reducible refine s_gnil ?_) | (with_reducible refine s_gcons ?_)
  | (with_reducible refine s_call ?_) | (with_reducible refine s_cb ?_) | (with_reducible refine s_nil ?_) | (with_reducible refine s_cons ?_) | (with_reducible refine s_tupT ?_) | (with_reducible refine s_lstT ?_)
  | (with_reducible refine s_sl ?_) | (with_reducible refine s_nopart ?_) | (with_reducible refine s_part ?_) | (with_reducible refine s_int ?_) | (with_reducible refine s_bm ?_) | (with_reducible refine s_dget ?_) | (with_reducible refine s_dputS ?_)
  | (with_reducible refine s_forS ?_) | (with_reducible refine s_lc ?_) | (with_reducible refine s_iTup ?_) | (with_reducible refine s_iList ?_) | (with_reducible refine s_iRng1 ?_) | (with_reducible refine s_iRng2 ?_) | (with_reducible refine s_tYes ?_) | (with_reducible refine s_intI ?_) | (with_reducible refine s_intB ?_) | (with_reducible refine s_min2 ?_) | (with_reducible refine s_max2 ?_) | (with_reducible refine s_abs ?_) | (with_reducible refine s_revL ?_) | (with_reducible refine s_iEnumT ?_) | (with_reducible refine s_iEnum ?_) | (with_reducible refine s_iZipA ?_) | (with_reducible refine s_iZipM ?_) | (with_reducible refine s_iZip ?_) | (with_reducible refine s_iStr ?_) | (with_reducible refine s_star ?_) | (with_reducible refine s_lc2 ?_) | (with_reducible refine s_dc ?_) | (with_reducible refine s_bm ?_)
  | (with_reducible refine isi_int _ ?_) | (with_reducible refine isi_intB _ ?_) | (with_reducible refine isi_str _ ?_) | (with_reducible refine isi_non ?_)
  | (with_reducible refine iteT ?_) | (with_reducible refine iteF ?_) | (with_reducible refine iteNT ?_) | (with_reducible refine iteNF ?_))
local macro_rules | `(tactic| walk_at "r2") => `(tactic| first
  | ((with_reducible refine g_ixT ?_); first | (refine s_ixT (by walk_at "hx") rfl ?_) | (refine s_ixDs (by walk_at "hx") rfl ?_) | (refine s_ixDi (by walk_at "hx") rfl ?_) | (refine s_ixD (by walk_at "hx") rfl (fun _ _ => ?_)) | (refine s_ixD0s (by walk_at "hx") ?_))
  | ((with_reducible refine g_form ?_); first | (refine isDev_non ?_) | (refine isBr_non ?_) | (refine isDev_dev (by walk_at "hx") ?_) | (refine isDev_br (by walk_at "hx") ?_) | (refine isBr_dev (by walk_at "hx") ?_) | (refine isBr_br (by walk_at "hx") ?_))
  | ((with_reducible refine g_isi ?_); first | (with_reducible refine isi_dt (by walk_at "hx") ?_) | (with_reducible refine isi_tup (by walk_at "hx") ?_))
  | ((with_reducible refine g_len ?_); first | (with_reducible refine s_lenL (by walk_at "hx") ?_) | (with_reducible refine s_lenT (by walk_at "hx") ?_) | (with_reducible refine s_lenD (by walk_at "hx") ?_))
  | ((with_reducible refine g_ty ?_); first | (refine s_tyK (by assumption) ?_) | (with_reducible refine s_tyL (by walk_at "hx") ?_))
  | ((with_reducible refine g_tix ?_); first | (refine s_idx0 (by assumption) ?_) | (refine s_idx1 (by assumption) ?_))
  | ((with_reducible refine g_enT ?_); with_reducible refine s_enT (by walk_at "hx") ?_) | ((with_reducible refine g_enL ?_); with_reducible refine s_enL (by walk_at "hx") ?_)
  | ((with_reducible refine g_za ?_); first | (with_reducible refine s_zaT2 (by walk_at "hx") (by walk_at "hx") ?_) | (with_reducible refine s_zaL (by walk_at "hx") (by walk_at "hx") ?_))
  | ((with_reducible refine g_zm ?_); first | (with_reducible refine s_zmT (by walk_at "hx") (by walk_at "hx") ?_) | (with_reducible refine s_zmL (by walk_at "hx") (by walk_at "hx") ?_))
  | ((with_reducible refine g_zl ?_); with_reducible refine s_zl (by walk_at "hx") (by walk_at "hx") ?_)
  | ((with_reducible refine g_itT ?_); with_reducible refine s_itT (by walk_at "hx") ?_) | ((with_reducible refine g_itL ?_); with_reducible refine s_itL (by walk_at "hx") ?_)
  | ((with_reducible refine g_gtup ?_); refine s_gtup (by walk_at "hx") rfl ?_))
local macro_rules | `(tactic| walk_at "rd") => `(tactic| repeat (first | walk_at "r1" | walk_at "r2"))
local macro_rules | `(tactic| walk_at "sz") => `(tactic| (simp only [List.length_cons, List.length_nil, List.length_append, List.length_map, sizeLine_eq] <;> omega))
theorem Ext.d3 {a l q : Addr} {H H1 H2 : Hp} (e : Ext [] H H1) (f : Ext [a, l, q] H1 H2) (h : H q = none) : Ext [a, l] H H2 := (Ext.mono0 e).comp f fun x hx => by
  simp only [List.mem_cons, List.not_mem_nil, or_false] at hx ⊢
  rcases hx with rfl | rfl | rfl
  · exact .inl (.inl rfl)
  · exact .inl (.inr rfl)
  · exact .inr h
theorem ne2 {a l p : Addr} (h1 : p ≠ a) (h2 : p ≠ l) : p ∉ [a, l] := by simp only [List.mem_cons, List.not_mem_nil, or_false, not_or]; exact ⟨h1, h2⟩
theorem ne3 {a l q p : Addr} (h1 : p ≠ a) (h2 : p ≠ l) (h3 : p ≠ q) : p ∉ [a, l, q] := by simp only [List.mem_cons, List.not_mem_nil, or_false, not_or]; exact ⟨h1, h2, h3⟩
theorem ne1 {p q : Addr} (h : p ≠ q) : p ∉ [q] := by simp only [List.mem_singleton]; exact h
theorem ltr_nodup {s n : Nat} (h : s + n ≤ 26) : ((List.range' s n).map ltr).Nodup := by
  refine List.pairwise_map.mpr ?_
  refine (List.nodup_range' (step := 1)).imp_of_mem ?_
  intro i j hi hj hne e
  have := List.mem_range'_1.mp hi
  have := List.mem_range'_1.mp hj
  exact hne (ltr_inj (by omega) (by omega) e)
def pairs6 : List Str := ["ab", "cd", "ef", "gh", "ij", "kl"]
theorem pairs6_at : ∀ i, i < 6 → atI [V.str "ab", V.str "cd", V.str "ef", V.str "gh", V.str "ij", V.str "kl"] ((0 : Int) + (i : Nat)) = some (.str (pairs6.getD i ""))
  | 0, _ => rfl
  | 1, _ => rfl
  | 2, _ => rfl
  | 3, _ => rfl
  | 4, _ => rfl
  | 5, _ => rfl
  | _ + 6, h => absurd h (by omega)
theorem pairs6_cut : ∀ i, i < 6 → ∀ m, m < 3 → (L2.cutS (pairs6.getD i "") none (some ((m : Nat) : Int))).cps.toList = ((List.range' (2 * i) m).map fun j => lets.cps.toList.getD j 0) := by decide +kernel
theorem pairs6_len : ∀ i, i < 6 → (pairs6.getD i "").length ≤ sizeLine := by decide +kernel
theorem rows6_at (i : Nat) (hi : i < 6) {H : Hp} {Q : VK} (q : Q (.str (ltr (12 + i))) H) : rIxS (.str "mnopqr") (.int ((0 : Int) + (i : Nat))) H Q := by
  match i, hi, q with
  | 0, _, q => exact ⟨_, _, _, rfl, rfl, by decide +kernel, rfl, q⟩
  | 1, _, q => exact ⟨_, _, _, rfl, rfl, by decide +kernel, rfl, q⟩
  | 2, _, q => exact ⟨_, _, _, rfl, rfl, by decide +kernel, rfl, q⟩
  | 3, _, q => exact ⟨_, _, _, rfl, rfl, by decide +kernel, rfl, q⟩
  | 4, _, q => exact ⟨_, _, _, rfl, rfl, by decide +kernel, rfl, q⟩
  | 5, _, q => exact ⟨_, _, _, rfl, rfl, by decide +kernel, rfl, q⟩
section
variable {P : Program} {w : World} {K : PySem.W.Frag} {mg : Str → Option Value} {base : Heap} {kd : Addr} {k : Nat}
abbrev sx_tree : Stmt := top 47
abbrev N_tree : List Str := ["_law_source_here", "_law_devices", "_law_bridges", "_law_exps", "_law_numbers", "_law_marks", "_law_k"]
theorem sc_tree : FnScope N_tree ["_law_source_here", "_law_devices", "_law_bridges", "_law_exps"] (defScope sx_tree) := ⟨rfl, rfl, rfl, by decide +kernel, rfl, by decide +kernel, by decide +kernel⟩
theorem ok_tree (bi : Bi mg kd) (T : At K mg "_law_tree" sx_tree ["_law_source_here", "_law_devices", "_law_bridges", "_law_exps"]) (c_below : Cal P w K mg base k "_law_below" spBelow []) (c_pick : Cal P w K mg base k "_law_pick" spPick [])
    (c_part : Cal P w K mg base k "_law_part" (spPart 5) []) : Cal P w K mg base (k + 1) "_law_tree" spTree [] := by
  refine T.ok sc_tree (fun vs H Q E h => ?_) (fun f cdv A outer s H vs Q E hr h => ?_)
  · obtain ⟨a, l, c, n, p, es, rfl, _⟩ := h
    rfl
  have nd := sc_tree.nd
  obtain ⟨a, l, c, n, p, es, rfl, hp, hpa, hpl, hes, src, Q1⟩ := h
  have hN : (2 : Nat) ^ 20 = 1048576 := by decide
  have h5 : 40 * 4 ^ 5 = 40960 := by decide
  rw [hN] at src
  refine ⟨_, (pss_cons (ps_asg (pe_tup (pa_cons (pe_lst (pa_cons pe_int (pa_cons pe_int (pa_cons (pv 1) (pa_cons (pv 2) pa_nil))))) (pa_cons (pe_c c_pick hr (by omega) (by rfl) (pa_cons (pv 0) (pa_cons (pe_lst (pa_cons (pe_tup pa_nil) (pa_cons (pe_tup (pa_cons pe_str pa_nil)) pa_nil))) pa_nil))) pa_nil))) (pg_tup rfl (pgs_cons (pg_name (i := 4) nd rfl (Or.inr rfl)) (pgs_cons (pg_name (i := 5) nd rfl (Or.inl rfl)) pgs_nil))))
      (pss_one (ps_ret (pe_tup (pa_cons pe_str (pa_cons (pv 5) (pa_cons (pe_callTy (call_tupR (K := K) rfl) (by rfl) bi.tuple (by decide +kernel) (pa_cons (pe_lc (own := [("_law_k", 6)]) (g := gName 6) (by rfl) nd (pi_range1 (by rfl) bi.range (pa_cons (pe_op op_add pe_int (pe_c c_below hr (by omega) (by rfl) (pa_cons (pv 0) (pa_cons pe_int pa_nil)))) pa_nil)) (blkOk_by (own := [("_law_k", 6)]) (N := N_tree) (sc := defScope sx_tree) (by decide +kernel)) (fun _ _ _ _ _ => (pg_name (i := 6) nd rfl (Or.inl rfl))) (fun _ _ _ _ _ => pts_nil) (fun _ _ _ _ _ => (pe_c c_part hr (by omega) (by rfl) (pa_cons (pv 0) (pa_cons (pv 4) (pa_cons pe_int (pa_cons (pv 3) pa_nil))))))) pa_nil)) pa_nil))))))), ?_⟩
  walk_at "rd"
  refine s_newX (by walk_at "sz") (fun q H1 hq e1 h1 => ?_)
  have hqa := src.ne hq
  have hqp : p ≠ q := ne_some hp hq
  walk_at "rd"
  refine s_newD (ds := ([] : List Str).map .str) (by walk_at "sz") .nil (fun m1 H2 e2 k1 => ?_)
  walk_at "rd"
  refine s_newD (ds := (["strict"] : List Str).map .str) (by walk_at "sz") (.one (.str _)) (fun m2 H3 e3 k2 => ?_)
  walk_at "rd"
  refine s_newX (by walk_at "sz") (fun ml H4 hml e4 h4 => ?_)
  have y1 := k1.e0 (e3.then0 e4)
  have y2 := k2.e0 e4
  have e14 : Ext [] H1 H4 := (e2.then0 e3).then0 e4
  have e04 : Ext [] H H4 := e1.then0 e14
  have hma := (src.e0 ((e1.then0 e2).then0 e3)).ne hml
  walk_at "rd"
  refine ⟨a, l, c, n + 1048575, ml, _, rfl, h4, hma.1, hma.2.1, (fun z => nomatch z), by walk_at "sz", (src.e0 e04).le (by omega), fun mk H5 hmk e5 src5 => ?_⟩
  have hmk' : ∃ ms : List Str, Dt H5 mk (.tuple (ms.map .str)) ∧ ∀ m ∈ ms, PyData.strOk m = true := by
    have x1 := y1.ext e5
    have x2 := y2.ext e5
    simp only [List.mem_cons, List.not_mem_nil, or_false] at hmk
    rcases hmk with rfl | rfl
    · exact ⟨_, x1, by decide +kernel⟩
    · exact ⟨_, x2, by decide +kernel⟩
  obtain ⟨ms, hms0, hmsok⟩ := hmk'
  walk_at "rd"
  refine s_newX (by walk_at "sz") (fun tp H5' htp e5' h5' => ?_)
  have hms := hms0.e0 e5'
  replace src5 := src5.e0 e5'
  walk_at "rd"
  refine ⟨a, l, c, n + 1048574, 5, rfl, by decide, by decide, src5.le (by omega), fun m H6 hm0 hm1 e6 src6 => ?_⟩
  obtain ⟨m, rfl⟩ : ∃ j : Nat, m = j := ⟨_, (Int.toNat_of_nonneg hm0).symm⟩
  have e16 : Ext [a, l] H1 H6 := (((Ext.mono0 e14).trans e5).then0 e5').trans e6
  have hq6 : H6 q = some (.lst [.int ((0 : Nat) : Int), .int ((0 : Nat) : Int), .int ((8 : Nat) : Int), .int ((4 : Nat) : Int)]) := e16.at h1 (ne2 hqa.1 hqa.2.1)
  have hp6 := e16.at (e1.at0 hp) (ne2 hpa hpl)
  walk_at "rd"
  refine ⟨_, rfl, by omega, by omega, ?_⟩
  rw [show (1 + (m : Int)).toNat = m + 1 by omega]
  refine lc_W walk_range [a, l, q] (fun i acc H' => ∃ (pts : List Part) (d2 b2 : Nat), DtAll H' acc (pts.map Part.enc) ∧ d2 ≤ 8 ∧ b2 ≤ 4 ∧ Nums H' q d2 b2 8 4 ∧ PsMx pts ∧ nmss pts = (List.range' 0 (d2 + b2 - 0)).map ltr ∧ cnts pts ≤ i + 3 * d2 + 3 * b2 ∧ deps pts ≤ b2 ∧ Src H' a l c (n + (m + 1 - i) * 40960))
    (fun _ _ => trivial) (fun H' e' => ⟨[], 0, 0, .nil, by omega, by omega, e'.at0 hq6, trivial, rfl, Nat.zero_le _, Nat.zero_le _, (src6.e0 e').le ?_⟩) (fun i x DD acc H7 H8 hi hDD e hacc hl hR y => ?_) (fun DD acc H7 hDD e hacc hl hR => ?_)
  · have : (m + 1 - 0) * 40960 ≤ 5 * 40960 := Nat.mul_le_mul_right _ (by omega)
    omega
  · obtain ⟨rfl, rfl⟩ := y
    obtain ⟨pts, d2, b2, hR1, hR2, hR3, hR4, hR5, hR6, hR7, hR8, hR9⟩ := hR
    have hDa := src6.ne hDD
    have hDq : DD ≠ q := (ne_some hq6 hDD).symm
    have hmi : (m + 1 - i) * 40960 = (m + 1 - (i + 1)) * 40960 + 40960 := by omega
    rw [hmi] at hR9
    unfold Nums at hR4
    walk_at "rd"
    refine ⟨rfl, ?_⟩
    walk_at "rd"
    refine ⟨a, l, c, n + (m + 1 - (i + 1)) * 40960, q, d2, b2, 8, 4, _, p, es, rfl, by rw [← Nat.add_assoc] at hR9; rw [h5]; exact hR9, hR4, hqa, e.at hp6 (ne3 hpa hpl hqp), hpa, hpl, hqp, hes, hR2, hR3, by decide, by decide, by omega, fun v pt d3 b3 H13 j1 j2 j3 j4 hv hn13 hpm hnm hct hdpt e13 src13 => ?_⟩
    refine lc_put hDD (e.trans e13) (e13.at hacc (ne3 hDa.1 hDa.2.1 hDq)) hl (by omega) (fun H14 e14 => ⟨pts ++ [pt], d3, b3, ?_, j2, j4, e14.at hn13 (ne1 hDq.symm), psMx_append hR5 ⟨hpm, trivial⟩, ?_, ?_, ?_, src13.e1 e14 hDa⟩)
    · rw [List.map_append]
      exact ((hR1.ext e13).ext e14).append (.one (hv.ext e14))
    · rw [nmss_append, nmss_one, hR6, hnm]
      exact names_cat (by omega) (by omega)
    · rw [cnts_append, cnts_one]
      omega
    · rw [deps_append, deps_one]
      omega
  · obtain ⟨pts, d2, b2, hR1, hR2, hR3, hR4, hR5, hR6, hR7, hR8, hR9⟩ := hR
    walk_at "rd"
    refine s_tupOfD hacc hR1 (fun pv H8 e8 hpv => ?_)
    walk_at "rd"
    refine s_newD (ds := [.str "tree", .tuple (ms.map .str), .tuple (encs pts)]) (by walk_at "sz") (.cons (.str _) (.cons (((hms.ext e6).ext e).e0 e8) (.cons (by rw [encs_map]; exact hpv) .nil))) (fun v H9 e9 hv => ?_)
    refine Q1 v ms pts H9 ⟨hR5, by omega, by omega, by rw [hR6]; exact ltr_nodup (by omega)⟩ hmsok hv (Ext.d3 e1 ((((e16.mono nil3).trans e).then0 e8).then0 e9) hq) (((hR9.e0 e8).e0 e9).le (by omega))
abbrev sx_deep : Stmt := top 48
abbrev N_deep : List Str := ["_law_source_here", "_law_exps", "_law_part_here", "_law_k", "_law_devices", "_law_name", "_law_areas", "_law_marks", "_law_n"]
theorem sc_deep : FnScope N_deep ["_law_source_here", "_law_exps"] (defScope sx_deep) := ⟨rfl, rfl, rfl, by decide +kernel, rfl, by decide +kernel, by decide +kernel⟩
theorem ok_deep (bi : Bi mg kd) (T : At K mg "_law_deep" sx_deep ["_law_source_here", "_law_exps"]) (c_below : Cal P w K mg base k "_law_below" spBelow []) (c_pick : Cal P w K mg base k "_law_pick" spPick [])
    (c_area : Cal P w K mg base k "_law_area" spArea []) : Cal P w K mg base (k + 1) "_law_deep" spDeep [] := by
  refine T.ok sc_deep (fun vs H Q E h => ?_) (fun f cdv A outer s H vs Q E hr h => ?_)
  · obtain ⟨a, l, c, n, p, es, rfl, _⟩ := h
    rfl
  have nd := sc_deep.nd
  obtain ⟨a, l, c, n, p, es, rfl, hp, hpa, hpl, hes, src, Q1⟩ := h
  have hN : (2 : Nat) ^ 20 = 1048576 := by decide
  rw [hN] at src
  refine ⟨_, (pss_cons (ps_set (i := 2) nd rfl (Or.inl rfl) pe_non)
      (pss_cons (ps_for PassesOwn.never rfl (pi_range1 (by rfl) bi.range (pa_cons pe_int pa_nil)) (pg_name (i := 3) nd rfl (Or.inl rfl)) (pss_cons (ps_set (i := 4) nd rfl (Or.inl rfl) (pe_lst pa_nil))
      (pss_cons (ps_for PassesOwn.never rfl (pi_str (pe_slice sl_str (pe_ix ix_list (pe_lst (pa_cons pe_str (pa_cons pe_str (pa_cons pe_str (pa_cons pe_str (pa_cons pe_str (pa_cons pe_str pa_nil))))))) (pv 3) (fun _ _ => rfl)) po_none (po_some (pe_c c_below hr (by omega) (by rfl) (pa_cons (pv 0) (pa_cons pe_int pa_nil)))))) (pg_name (i := 5) nd rfl (Or.inl rfl)) (pss_cons (ps_set (i := 6) nd rfl (Or.inl rfl) (pe_callTy (call_tupR (K := K) rfl) (by rfl) bi.tuple (by decide +kernel) (pa_cons (pe_lc (own := [("_law_n", 8)]) (g := gName 8) (by rfl) nd (pi_range1 (by rfl) bi.range (pa_cons (pe_c c_below hr (by omega) (by rfl) (pa_cons (pv 0) (pa_cons pe_int pa_nil))) pa_nil)) (blkOk_by (own := [("_law_n", 8)]) (N := N_deep) (sc := defScope sx_deep) (by decide +kernel)) (fun _ _ _ _ _ => (pg_name (i := 8) nd rfl (Or.inl rfl))) (fun _ _ _ _ _ => pts_nil) (fun _ _ _ _ _ => (pe_c c_area hr (by omega) (by rfl) (pa_cons (pv 0) (pa_cons (pv 1) pa_nil))))) pa_nil)))
      (pss_one (ps_expr (pe_bm PySem.F.plainAttrs_list PySem.F.slot_list_append PySem.F.type_list_append mt_append (pv 4) (pa_cons (pe_tup (pa_cons pe_str (pa_cons (pv 5) (pa_cons (pv 6) pa_nil)))) pa_nil))))))
      (pss_cons (ps_set (i := 7) nd rfl (Or.inl rfl) (pe_c c_pick hr (by omega) (by rfl) (pa_cons (pv 0) (pa_cons (pe_lst (pa_cons (pe_tup pa_nil) (pa_cons (pe_tup pa_nil) (pa_cons (pe_tup (pa_cons pe_str pa_nil)) (pa_cons (pe_tup (pa_cons pe_str pa_nil)) pa_nil))))) pa_nil))))
      (pss_one (ps_set (i := 2) nd rfl (Or.inl rfl) (pe_tup (pa_cons pe_str (pa_cons (pe_ix ix_str pe_str (pv 3) (fun _ _ => rfl)) (pa_cons (pv 7) (pa_cons (pe_callTy (call_tupR (K := K) rfl) (by rfl) bi.tuple (by decide +kernel) (pa_cons (pe_op op_cat (pv 4) (pe_lst (pa_cons (pv 2) (pa_cons pe_non pa_nil)))) pa_nil)) pa_nil)))))))))))
      (pss_one (ps_ret (pe_tup (pa_cons pe_str (pa_cons (pe_tup pa_nil) (pa_cons (pe_tup (pa_cons pe_non (pa_cons (pv 2) pa_nil))) pa_nil)))))))), ?_⟩
  walk_at "rd"
  refine ⟨_, rfl, by decide, by decide, ?_⟩
  refine f_W walk_range (fun i σ H' => ∃ v pt o3 o4 o5 o6 o7 o8, σ = [some (.ref a), some (.ref p), some v, o3, o4, o5, o6, o7, o8] ∧ Ext [a, l] H H' ∧ Dt H' v (Part.enc pt) ∧ PMx pt ∧ (nms pt).Nodup ∧ (∀ x ∈ nms pt, ∃ j, x = ltr j ∧ (j < 2 * i ∨ 12 ≤ j ∧ j < 12 + i)) ∧ cnt pt ≤ 1 + 8 * i ∧ dep pt ≤ i ∧ Src H' a l c (n + 100 * (6 - i)))
    ⟨.non, .emp, _, _, _, _, _, _, rfl, .refl, .non, trivial, .nil, (fun _ h => nomatch h), by show 1 ≤ _; omega, Nat.zero_le _, src.le (by omega)⟩ (fun _ _ _ _ _ => trivial) (fun i x σ H1 H2 hi hP y => ?_) (fun σ H1 hP => ?_)
  · obtain ⟨v, pt, o3, o4, o5, o6, o7, o8, rfl, e01, hv, hmx, hnd, hnm, hct, hdp, src1⟩ := hP
    obtain ⟨rfl, rfl⟩ := y
    have hn1 := src1
    walk_at "rd"
    refine s_newX (by walk_at "sz") (fun Dv H3 hDv e3 h3 => ?_)
    have hDa := src1.ne hDv
    walk_at "rd"
    refine s_iStr (z := "") ?_
    walk_at "rd"
    refine s_newX (by show 6 ≤ sizeLine; decide) (fun sl H4 hsl e4 h4 => ?_)
    walk_at "rd"
    refine s_ixL h4 (pairs6_at i hi) ?_
    walk_at "rd"
    have e14 := e3.then0 e4
    refine ⟨a, l, c, n + 100 * (6 - (i + 1)) + 90, 3, rfl, by decide, by decide, (src1.e0 e14).le (by omega), fun m H5 hm0 hm1 e5 src5 => ?_⟩
    obtain ⟨m, rfl⟩ : ∃ j : Nat, m = j := ⟨_, (Int.toNat_of_nonneg hm0).symm⟩
    have hm3 : m < 3 := by omega
    have hz := pairs6_cut i hi m hm3
    walk_at "rd"
    refine ⟨_, rfl, pairs6_len i hi, ?_⟩
    walk_at "rd"
    refine ⟨_, rfl, ?_⟩
    generalize L2.cutS (pairs6.getD i "") none (some (m : Int)) = z at hz ⊢
    have hzs : z.cps.size = m := by
      have := congrArg List.length hz
      rw [List.length_map, List.length_range', Array.length_toList] at this
      exact this
    have hp5 := (e5.at (e14.at0 (e01.at hp (ne2 hpa hpl))) (ne2 hpa hpl))
    have hpD : p ≠ Dv := ne_some (e01.at hp (ne2 hpa hpl)) hDv
    have hv5 := (hv.e0 e14).ext e5
    have h35 : H5 Dv = some (.lst []) := e5.at (e4.at0 h3) (ne2 hDa.1 hDa.2.1)
    refine f_W walk_str (fun j σ H' => ∃ xs pts o4 o5 o6 o7, σ = [some (.ref a), some (.ref p), some v, some (.int (0 + (i : Nat))), some (.ref Dv), o4, o5, o6, o7] ∧ Ext [a, l, Dv] H5 H' ∧ H' Dv = some (.lst xs) ∧ DtAll H' xs ((pts : List Part).map Part.enc) ∧ PsMx pts ∧ nmss pts = (List.range' (2 * i) j).map ltr ∧ cnts pts ≤ 3 * j ∧ deps pts = 0 ∧ pts.length ≤ j ∧ Src H' a l c (n + 100 * (6 - (i + 1)) + 90 - 20 * j))
      ⟨[], [], _, _, _, _, rfl, .refl, h35, .nil, trivial, rfl, Nat.zero_le _, rfl, Nat.zero_le _, src5⟩ (fun _ _ _ _ _ => trivial) (fun j x σ H6 H7 hj hP y => ?_) (fun σ H6 hP => ?_)
    · obtain ⟨xs, pts, o4, o5, o6, o7, rfl, e6, hxs, hpts, hmx6, hnm6, hct6, hdp6, hln6, src6⟩ := hP
      obtain ⟨rfl, ch, hch, rfl⟩ := y
      rw [hzs] at hj
      have hlt : ch = lets.cps.toList.getD (2 * i + j) 0 := by
        have h1 : z.cps.toList[j]? = some ch := by rw [Array.getElem?_toList]; exact hch
        rw [hz, List.getElem?_map, List.getElem?_range' (by omega)] at h1
        rw [← Option.some.inj h1]
        congr 1
        omega
      subst hlt
      have hp6 := e6.at hp5 (ne3 hpa hpl hpD)
      walk_at "rd"
      refine ⟨a, l, c, n + 100 * (6 - (i + 1)) + 90 - 20 * j - 1, 3, rfl, by decide, by decide, src6.le (by omega), fun m2 H8 hm20 hm21 e8 src8 => ?_⟩
      obtain ⟨m2, rfl⟩ : ∃ j : Nat, m2 = j := ⟨_, (Int.toNat_of_nonneg hm20).symm⟩
      walk_at "rd"
      refine ⟨_, rfl, by omega, by omega, ?_⟩
      rw [Int.toNat_natCast]
      have hp8 := e8.at hp6 (ne2 hpa hpl)
      refine lc_W walk_range [a, l] (fun i2 acc H' => ∃ as : List Area, DtAll H' acc (as.map encA) ∧ (∀ x ∈ as, ArOk x) ∧ as.length ≤ i2 ∧ Src H' a l c (n + 100 * (6 - (i + 1)) + 90 - 20 * j - 1 - 2 * i2))
        (fun _ _ => trivial) (fun H' e' => ⟨[], .nil, (fun _ h => nomatch h), Nat.zero_le _, (src8.e0 e').le (by omega)⟩) (fun i2 x DD acc H9 H10 hi2 hDD e hacc hl hR y => ?_) (fun DD acc H9 hDD e hacc hl hR => ?_)
      · obtain ⟨rfl, rfl⟩ := y
        obtain ⟨as, hR1, hR2, hR3, hR4⟩ := hR
        have hDDa := src8.ne hDD
        walk_at "rd"
        refine ⟨rfl, ?_⟩
        walk_at "rd"
        refine ⟨a, l, c, n + 100 * (6 - (i + 1)) + 90 - 20 * j - 1 - 2 * (i2 + 1), p, es, rfl, e.at hp8 (ne2 hpa hpl), hpa, hpl, hes, hR4.le (by omega), fun v x H11 hx hv e11 src11 => ?_⟩
        refine lc_put hDD (e.trans e11) (e11.at hacc (ne2 hDDa.1 hDDa.2.1)) hl (by omega) (fun H12 e12 => ⟨as ++ [x], ?_, fun z hz => ?_, by rw [List.length_append]; show _ + 1 ≤ _; omega, src11.e1 e12 hDDa⟩)
        · rw [List.map_append]
          exact ((hR1.ext e11).ext e12).append (.one (hv.ext e12))
        · rcases List.mem_append.mp hz with hz | hz
          · exact hR2 z hz
          · rw [List.mem_singleton.mp hz]; exact hx
      · obtain ⟨as, hR1, hR2, hR3, hR4⟩ := hR
        walk_at "rd"
        refine s_tupOfD hacc hR1 (fun pv H10 e10 hpv => ?_)
        have hx10 := ((e8.trans e).then0 e10).at hxs (ne2 hDa.1 hDa.2.1)
        walk_at "rd"
        refine s_newD (ds := [.str "device", .str (ltr (2 * i + j)), .tuple (as.map encA)]) (by walk_at "sz") (.cons (.str _) (.cons (.str _) (.cons hpv .nil))) (fun dv H11 e11 hdv => ?_)
        walk_at "rd"
        have e811 := ((e8.trans e).then0 e10).then0 e11
        have hx11 := e811.at hxs (ne2 hDa.1 hDa.2.1)
        have hxl : xs.length = pts.length := by rw [hpts.len, List.length_map]
        refine s_append hx11 (by rw [sizeLine_eq]; omega) (fun H12 e12 h12 => ?_)
        walk_at "rd"
        refine ⟨_, pts ++ [.dev (ltr (2 * i + j)) as], _, _, _, _, rfl, (e6.trans (e811.mono nil3)).trans (e12.mono (fun x hx => by rw [List.mem_singleton.mp hx]; simp)), h12, ?_, psMx_append hmx6 (show PsMx [.dev (ltr (2 * i + j)) as] from ⟨⟨ltr_ok _ (by omega), hR2⟩, trivial⟩), ?_, ?_, ?_, ?_, ?_⟩
        · rw [List.map_append]
          exact ((hpts.ext e811).ext e12).append (.one (by unfold Part.enc; exact hdv.ext e12))
        · rw [nmss_append, nmss_one, hnm6, List.range'_1_concat, List.map_append]
          rfl
        · rw [cnts_append, cnts_one]
          show _ + (1 + as.length) ≤ _
          omega
        · rw [deps_append, deps_one, hdp6]
          rfl
        · rw [List.length_append]
          show _ + 1 ≤ _
          omega
        · exact (((hR4.e0 e10).e0 e11).e1 e12 hDa).le (by omega)
    · obtain ⟨xs, pts, o4, o5, o6, o7, rfl, e6, hxs, hpts, hmx6, hnm6, hct6, hdp6, hln6, src6⟩ := hP
      rw [hzs] at hnm6 hct6 hln6 src6
      have hv6 := hv5.ext e6
      walk_at "rd"
      refine s_newD (ds := ([] : List Str).map .str) (by walk_at "sz") .nil (fun m1 H7 e7 k1 => ?_)
      walk_at "rd"
      refine s_newD (ds := ([] : List Str).map .str) (by walk_at "sz") .nil (fun m2 H8 e8 k2 => ?_)
      walk_at "rd"
      refine s_newD (ds := (["strict"] : List Str).map .str) (by walk_at "sz") (.one (.str _)) (fun m3 H9 e9 k3 => ?_)
      walk_at "rd"
      refine s_newD (ds := (["hiding"] : List Str).map .str) (by walk_at "sz") (.one (.str _)) (fun m4 H10 e10 k4 => ?_)
      walk_at "rd"
      refine s_newX (by walk_at "sz") (fun ml H11 hml e11 h11 => ?_)
      have y1 := k1.e0 (((e8.then0 e9).then0 e10).then0 e11)
      have y2 := k2.e0 ((e9.then0 e10).then0 e11)
      have y3 := k3.e0 (e10.then0 e11)
      have y4 := k4.e0 e11
      have e611 : Ext [] H6 H11 := (((e7.then0 e8).then0 e9).then0 e10).then0 e11
      have hma := (src6.e0 (((e7.then0 e8).then0 e9).then0 e10)).ne hml
      walk_at "rd"
      refine ⟨a, l, c, n + 100 * (6 - (i + 1)), ml, _, rfl, h11, hma.1, hma.2.1, (fun z => nomatch z), by walk_at "sz", (src6.e0 e611).le (by omega), fun mk H12 hmk e12 src12 => ?_⟩
      have hmk' : ∃ ms : List Str, Dt H12 mk (.tuple (ms.map .str)) ∧ ∀ m ∈ ms, PyData.strOk m = true := by
        have x1 := y1.ext e12
        have x2 := y2.ext e12
        have x3 := y3.ext e12
        have x4 := y4.ext e12
        simp only [List.mem_cons, List.not_mem_nil, or_false] at hmk
        rcases hmk with rfl | rfl | rfl | rfl
        · exact ⟨_, x1, by decide +kernel⟩
        · exact ⟨_, x2, by decide +kernel⟩
        · exact ⟨_, x3, by decide +kernel⟩
        · exact ⟨_, x4, by decide +kernel⟩
      obtain ⟨ms, hms, hmsok⟩ := hmk'
      walk_at "rd"
      refine rows6_at i hi ?_
      walk_at "rd"
      refine s_newX (by walk_at "sz") (fun t2 H13 ht2 e13 h13 => ?_)
      have e612 : Ext [a, l] H6 H12 := (Ext.mono0 e611).trans e12
      have hx12 := e612.at hxs (ne2 hDa.1 hDa.2.1)
      have hxl : xs.length = pts.length := by rw [hpts.len, List.length_map]
      refine s_cat (e13.at0 hx12) h13 (by rw [sizeLine_eq]; show _ + 2 ≤ _; omega) (fun t3 H14 ht3 e14' h14 => ?_)
      walk_at "rd"
      have e614 : Ext [a, l] H6 H14 := (e612.then0 e13).then0 e14'
      refine s_tupOfD (ds := encs (pts ++ [pt, .emp])) h14 (by rw [encs_map, List.map_append]; exact (hpts.ext e614).append (.two (hv6.ext e614) .non)) (fun pv H15 e15 hpv => ?_)
      walk_at "rd"
      refine s_newD (ds := [.str "bridge", .str (ltr (12 + i)), .tuple (ms.map .str), .tuple (encs (pts ++ [pt, .emp]))]) (by walk_at "sz") (.cons (.str _) (.cons (.str _) (.cons (((hms.e0 e13).e0 e14').e0 e15) (.cons hpv .nil)))) (fun v2 H16 e16 hv2 => ?_)
      walk_at "rd"
      have hnew : nms (.br (ltr (12 + i)) ms (pts ++ [pt, .emp])) = ltr (12 + i) :: ((List.range' (2 * i) m).map ltr ++ nms pt) := by
        show _ :: nmss (pts ++ [pt, .emp]) = _
        rw [nmss_append, hnm6]
        show _ :: (_ ++ (nms pt ++ ([] ++ []))) = _
        rw [List.append_nil, List.append_nil]
      have hlow : ∀ x ∈ (List.range' (2 * i) m).map ltr, ∃ j, x = ltr j ∧ 2 * i ≤ j ∧ j < 2 * i + m := fun x hx => by
        obtain ⟨j, hj, rfl⟩ := List.mem_map.mp hx
        have := List.mem_range'_1.mp hj
        exact ⟨j, rfl, this.1, this.2⟩
      refine ⟨v2, .br (ltr (12 + i)) ms (pts ++ [pt, .emp]), _, _, _, _, _, _, rfl, ?_, by unfold Part.enc; exact hv2, ⟨ltr_ok _ (by omega), hmsok, psMx_append hmx6 ⟨hmx, trivial, trivial⟩⟩, ?_, ?_, ?_, ?_, ?_⟩
      · exact e01.trans (Ext.d3 e3 ((((((((Ext.mono0 e4).trans e5).mono nil3).trans e6).trans (e614.mono nil3)).then0 e15).then0 e16)) hDv)
      · rw [hnew]
        refine List.nodup_cons.mpr ⟨fun hx => ?_, List.nodup_append.mpr ⟨ltr_nodup (by omega), hnd, fun x hx y hy => ?_⟩⟩
        · rcases List.mem_append.mp hx with hx | hx
          · obtain ⟨j, e, _, _⟩ := hlow _ hx
            have := ltr_inj (by omega) (by omega) e
            omega
          · obtain ⟨j, e, h⟩ := hnm _ hx
            have := ltr_inj (by omega) (by omega) e
            omega
        · rintro rfl
          obtain ⟨j, e, _, _⟩ := hlow _ hx
          obtain ⟨j2, e2, h⟩ := hnm _ hy
          have := ltr_inj (by omega) (by omega) (e.symm.trans e2)
          omega
      · rw [hnew]
        intro x hx
        rcases List.mem_cons.mp hx with rfl | hx
        · exact ⟨12 + i, rfl, by omega⟩
        · rcases List.mem_append.mp hx with hx | hx
          · obtain ⟨j, e, _, _⟩ := hlow _ hx
            exact ⟨j, e, by omega⟩
          · obtain ⟨j, e, h⟩ := hnm _ hx
            exact ⟨j, e, by omega⟩
      · show 1 + cnts (pts ++ [pt, .emp]) ≤ _
        rw [cnts_append]
        show 1 + (cnts pts + (cnt pt + (1 + 0))) ≤ _
        omega
      · show deps (pts ++ [pt, .emp]) + 1 ≤ _
        rw [deps_append, hdp6]
        show max 0 (max (dep pt) (max 0 0)) + 1 ≤ _
        omega
      · exact ((((src12.e0 e13).e0 e14').e0 e15).e0 e16)
  · obtain ⟨v, pt, o3, o4, o5, o6, o7, o8, rfl, e01, hv, hmx, hnd, hnm, hct, hdp, src1⟩ := hP
    walk_at "rd"
    refine s_newD (ds := ([] : List Str).map .str) (by walk_at "sz") .nil (fun m1 H2 e2 k1 => ?_)
    walk_at "rd"
    refine s_newD (ds := encs [.emp, pt]) (by walk_at "sz") (.cons .non (.cons (hv.e0 e2) .nil)) (fun pv H3 e3 hpv => ?_)
    walk_at "rd"
    refine s_newD (ds := [.str "tree", .tuple (([] : List Str).map .str), .tuple (encs [.emp, pt])]) (by walk_at "sz") (.cons (.str _) (.cons (k1.e0 e3) (.cons hpv .nil))) (fun v2 H4 e4 hv2 => ?_)
    refine Q1 v2 [] [.emp, pt] H4 ⟨⟨trivial, hmx, trivial⟩, ?_, ?_, ?_⟩ (fun _ h => nomatch h) hv2 (((e01.then0 e2).then0 e3).then0 e4) ((((src1.e0 e2).e0 e3).e0 e4).le (by omega))
    · show 1 + (cnt pt + 0) ≤ 63
      omega
    · show max 0 (max (dep pt) 0) ≤ 6
      omega
    · show ([] ++ (nms pt ++ [])).Nodup
      rw [List.nil_append, List.append_nil]
      exact hnd
end
end Bw

/-! the law: placed, sizes, least -/
namespace Bw
open PySem PySem.Spec PyProof.Rows L2
open C8 (Cal pe_c pe_gc)
open StX (pa_star tStar)
open RZ (pi_zipA iZipA)
-- the tactics of this text, by key
local macro_rules | `(tactic| walk_at "nm") => `(tactic| first | (intro hmem; cases hmem; done) | (simp only [List.mem_cons, List.mem_singleton, List.not_mem_nil, or_false, not_or, not_false_eq_true]; done) | (simp only [List.mem_cons, List.mem_singleton, List.not_mem_nil, or_false, not_or]; (repeat' apply And.intro) <;> first | assumption | exact Ne.symm (by assumption) | exact ne_some (by assumption) (by assumption) | exact Ne.symm (ne_some (by assumption) (by assumption))))
local macro_rules | `(tactic| walk_at "hx") => `(tactic| first | assumption | exact Dt.non | exact Dt.int _ | exact Dt.str _ | exact Dt.bl _ | (refine Dt.ext (by assumption) ?_; walk_at "hx") | (refine DtAll.ext (by assumption) ?_; walk_at "hx") | (refine Ext.at0 (by assumption) ?_; walk_at "hx") | (refine Ext.tupC (by assumption) ?_; walk_at "hx") | (refine Ext.atC (by assumption) ?_ (by walk_at "nm"); walk_at "hx"))
local macro_rules | `(tactic| walk_at "dm") => `(tactic| first | exact fun _ h => h | (refine dom_step (by assumption) ?_; walk_at "dm"))
local macro_rules | `(tactic| walk_at "fr") => `(tactic| first | assumption | (refine fr_of (by assumption) ?_; walk_at "dm"))
local macro_rules | `(tactic| walk_at "ex") => `(tactic| first | assumption | exact Ext.refl | exact Ext.mono0 (by assumption) | (refine Ext.then0 ?_ (by assumption); walk_at "ex") | (refine Ext.transC ?_ (by assumption); walk_at "ex") | (refine Ext.c1 ?_ (by assumption) (by walk_at "fr"); walk_at "ex") | (refine Ext.cm ?_ (by assumption) (by simp only [List.mem_cons, true_or, or_true]; done); walk_at "ex"))
local macro_rules | `(tactic| walk_at "r1") => `(tactic| first
  | (with_reducible refine s_var rfl ?_) | (with_reducible refine s_c ?_) | (with_reducible refine s_op ?_) | (with_reducible refine s_un ?_) | (with_reducible refine s_I0 ?_) | (with_reducible refine s_U ?_)
  | (with_reducible refine s_eqI ?_) | (with_reducible refine s_eqS ?_) | (with_reducible refine s_eqB ?_) | (with_reducible refine s_neI ?_) | (with_reducible refine s_neS ?_) | (with_reducible refine s_neB ?_)
  | (with_reducible refine s_isN1 ?_) | (with_reducible refine s_isN0 ?_) | (with_reducible refine s_notN1 ?_) | (with_reducible refine s_notN0 ?_) | (with_reducible refine s_isBl ?_) | (with_reducible refine s_notBl ?_)
  | (with_reducible refine s_test ?_) | (with_reducible refine s_B ?_) | (with_reducible refine s_bl ?_) | (with_reducible refine s_and ?_) | (with_reducible refine s_or ?_) | (with_reducible refine s_not ?_)
  | (with_reducible refine s_andV ?_) | (with_reducible refine s_orV ?_) | (with_reducible refine s_notV ?_) | (with_reducible refine s_ifE ?_) | (with_reducible refine s_chain ?_)
  | (with_reducible refine s_next ?_) | (with_reducible refine s_seq ?_) | (with_reducible refine s_drop ?_) | (with_reducible refine s_ret ?_) | (with_reducible refine s_retN ?_) | (with_reducible refine s_ifS ?_) | (with_reducible refine s_asg ?_)
  | ((with_reducible refine g_name ?_); refine s_name (by first | rfl) ?_) | (with_reducible refine s_parS ?_) | (with_reducible refine s_par ?_) | ((with_reducible refine g_nx ?_); refine s_nx rfl ?_) | (with_reducible refine s_gsub ?_) | (with_reducible refine s_gnil ?_) | (with_reducible refine s_gcons ?_)
  | (with_reducible refine s_call ?_) | (with_reducible refine s_cb ?_) | (with_reducible refine s_nil ?_) | (with_reducible refine s_cons ?_) | (with_reducible refine s_tupT ?_) | (with_reducible refine s_lstT ?_)
  | (with_reducible refine s_sl ?_) | (with_reducible refine s_nopart ?_) | (with_reducible refine s_part ?_) | (with_reducible refine s_int ?_) | (with_reducible refine s_bm ?_) | (with_reducible refine s_dget ?_) | (with_reducible refine s_dputS ?_)
  | (with_reducible refine s_forS ?_) | (with_reducible refine s_lc ?_) | (with_reducible refine s_iTup ?_) | (with_reducible refine s_iList ?_) | (with_reducible refine s_iRng1 ?_) | (with_reducible refine s_iRng2 ?_) | (with_reducible refine s_tYes ?_) | (with_reducible refine s_intI ?_) | (with_reducible refine s_intB ?_) | (with_reducible refine s_min2 ?_) | (with_reducible refine s_max2 ?_) | (with_reducible refine s_abs ?_) | (with_reducible refine s_revL ?_) | (with_reducible refine s_iEnumT ?_) | (with_reducible refine s_iEnum ?_) | (with_reducible refine s_iZipA ?_) | (with_reducible refine s_iZipM ?_) | (with_reducible refine s_iZip ?_) | (with_reducible refine s_iStr ?_) | (with_reducible refine s_star ?_) | (with_reducible refine s_lc2 ?_) | (with_reducible refine s_dc ?_) | (with_reducible refine s_bm ?_)
  | (with_reducible refine isi_int _ ?_) | (with_reducible refine isi_intB _ ?_) | (with_reducible refine isi_str _ ?_) | (with_reducible refine isi_non ?_)
  | (with_reducible refine iteT ?_) | (with_reducible refine iteF ?_) | (with_reducible refine iteNT ?_) | (with_reducible refine iteNF ?_))
local macro_rules | `(tactic| walk_at "r2") => `(tactic| first
  | ((with_reducible refine g_ixT ?_); first | (refine s_ixT (by walk_at "hx") rfl ?_) | (refine s_ixDs (by walk_at "hx") rfl ?_) | (refine s_ixDi (by walk_at "hx") rfl ?_) | (refine s_ixD (by walk_at "hx") rfl (fun _ _ => ?_)) | (refine s_ixD0s (by walk_at "hx") ?_))
  | ((with_reducible refine g_form ?_); first | (refine isDev_non ?_) | (refine isBr_non ?_) | (refine isDev_dev (by walk_at "hx") ?_) | (refine isDev_br (by walk_at "hx") ?_) | (refine isBr_dev (by walk_at "hx") ?_) | (refine isBr_br (by walk_at "hx") ?_))
  | ((with_reducible refine g_isi ?_); first | (with_reducible refine isi_dt (by walk_at "hx") ?_) | (with_reducible refine isi_tup (by walk_at "hx") ?_))
  | ((with_reducible refine g_len ?_); first | (with_reducible refine s_lenL (by walk_at "hx") ?_) | (with_reducible refine s_lenT (by walk_at "hx") ?_) | (with_reducible refine s_lenD (by walk_at "hx") ?_))
  | ((with_reducible refine g_ty ?_); first | (refine s_tyK (by assumption) ?_) | (with_reducible refine s_tyL (by walk_at "hx") ?_))
  | ((with_reducible refine g_tix ?_); first | (refine s_idx0 (by assumption) ?_) | (refine s_idx1 (by assumption) ?_))
  | ((with_reducible refine g_enT ?_); with_reducible refine s_enT (by walk_at "hx") ?_) | ((with_reducible refine g_enL ?_); with_reducible refine s_enL (by walk_at "hx") ?_)
  | ((with_reducible refine g_za ?_); first | (with_reducible refine s_zaT2 (by walk_at "hx") (by walk_at "hx") ?_) | (with_reducible refine s_zaL (by walk_at "hx") (by walk_at "hx") ?_))
  | ((with_reducible refine g_zm ?_); first | (with_reducible refine s_zmT (by walk_at "hx") (by walk_at "hx") ?_) | (with_reducible refine s_zmL (by walk_at "hx") (by walk_at "hx") ?_))
  | ((with_reducible refine g_zl ?_); with_reducible refine s_zl (by walk_at "hx") (by walk_at "hx") ?_)
  | ((with_reducible refine g_itT ?_); with_reducible refine s_itT (by walk_at "hx") ?_) | ((with_reducible refine g_itL ?_); with_reducible refine s_itL (by walk_at "hx") ?_)
  | ((with_reducible refine g_gtup ?_); refine s_gtup (by walk_at "hx") rfl ?_))
local macro_rules | `(tactic| walk_at "rd") => `(tactic| repeat (first | walk_at "r1" | walk_at "r2"))
local macro_rules | `(tactic| walk_at "sz") => `(tactic| (simp only [List.length_cons, List.length_nil, List.length_append, List.length_map, sizeLine_eq] <;> omega))
section
variable {P : Program} {w : World} {K : PySem.W.Frag} {mg : Str → Option Value} {base : Heap} {kd : Addr} {k : Nat}
abbrev sx_lplaced : Stmt := top 49
abbrev N_lplaced : List Str := ["_law_parts", "_law_path", "_law_found", "_law_slot", "_law_part_here"]
theorem sc_lplaced : FnScope N_lplaced ["_law_parts", "_law_path"] (defScope sx_lplaced) := ⟨rfl, rfl, rfl, by decide +kernel, rfl, by decide +kernel, by decide +kernel⟩
theorem ok_lplaced0 (T : At K mg "_law_placed" sx_lplaced ["_law_parts", "_law_path"]) : Cal P w K mg base (k + 1) "_law_placed" (spLPlaced 0) [] := by
  refine T.ok sc_lplaced (fun vs H Q E h => ?_) (fun f cdv A outer s H vs Q E hr h => ?_)
  · obtain ⟨v, u, ps, ab, rfl, _⟩ := h
    rfl
  obtain ⟨v, u, ps, ab, rfl, _, _, _, _, h, _⟩ := h
  omega
theorem ok_lplaced {d : Nat} (bi : Bi mg kd) (T : At K mg "_law_placed" sx_lplaced ["_law_parts", "_law_path"]) (c_lplaced : Cal P w K mg base k "_law_placed" (spLPlaced d) []) : Cal P w K mg base (k + 1) "_law_placed" (spLPlaced (d + 1)) [] := by
  refine T.ok sc_lplaced (fun vs H Q E h => ?_) (fun f cdv A outer s H vs Q E hr h => ?_)
  · obtain ⟨v, u, ps, ab, rfl, _⟩ := h
    rfl
  obtain ⟨v, u, ps, ab, rfl, hv, hu, hab, hcn, hdp, q⟩ := h
  have nd := sc_lplaced.nd
  obtain ⟨a, xs, rfl, ha, hs⟩ := hv.tupE
  refine ⟨_, (pss_cons (ps_set (i := 2) nd rfl (Or.inl rfl) (pe_lst pa_nil))
      (pss_cons (ps_for PassesOwn.never rfl (pi_enumT (by rfl) bi.enumerate (pa_cons (pv 0) pa_nil)) (pg_tup rfl (pgs_cons (pg_name (i := 3) nd rfl (Or.inl rfl)) (pgs_cons (pg_name (i := 4) nd rfl (Or.inl rfl)) pgs_nil))) (pss_one (ps_if (pt_cmpR op_notN1 (pv 4) pe_non (nomark _)) (pss_cons (ps_expr (pe_bm PySem.F.plainAttrs_list PySem.F.slot_list_append PySem.F.type_list_append mt_append (pv 2) (pa_cons (pe_tup (pa_cons (pe_op op_catA (pv 1) (pe_tup (pa_cons (pv 3) pa_nil))) (pa_cons (pv 4) pa_nil))) pa_nil)))
      (pss_one (ps_if (pt_cmpR op_eq (pe_ix ix_tup (pv 4) pe_int (fun _ _ => rfl)) pe_str (nomark _)) (pss_one (ps_expr (pe_bm PySem.F.plainAttrs_list PySem.F.slot_list_extend PySem.F.type_list_extend mt_extend (pv 2) (pa_cons (pe_c c_lplaced hr (by omega) (by rfl) (pa_cons (pe_ix ix_tup (pv 4) pe_int (fun _ _ => rfl)) (pa_cons (pe_op op_catA (pv 1) (pe_tup (pa_cons (pv 3) pa_nil))) pa_nil))) pa_nil)))) pss_nil))) pss_nil)))
      (pss_one (ps_ret (pv 2))))), ?_⟩
  walk_at "rd"
  refine s_newX (by walk_at "sz") (fun F H1 hF e1 h1 => ?_)
  walk_at "rd"
  have hxl : xs.length = ps.length := by rw [hs.len, encs_len]
  have hpl := len_cnts ps
  refine f_W walk_enumT (fun i σ H' => ∃ x y ys L, σ = [some (.ref a), some u, some (.ref F), x, y] ∧ Ext [] H H' ∧ H' F = some (.lst ys) ∧ DtAll H' ys L ∧ IsPl L (plss (ps.take i))) ⟨_, _, _, _, rfl, e1, h1, .nil, .nil⟩ (fun i σ H' _ h => SqT.of (h.elim fun _ h => h.elim fun _ h => h.elim fun _ h => h.elim fun _ h => h.2.1.tup _ _ ha)) (fun i x σ H2 H3 hi hP y => ?_) (fun σ H' hP => ?_)
  · obtain ⟨x', y', ys, L, rfl, e, hl, hL, hpl2⟩ := hP
    obtain ⟨T2, x, z, rfl, hT, e2, hT2, hx, hz⟩ := YPair.get y
    cases hx
    obtain ⟨d2, hd', hxd⟩ := hs.getV hz
    obtain ⟨p, hp, rfl⟩ := encs_at hd'
    have hpm := mem_at hp
    have hb1 := dep_mem hpm
    have hb2 := cnt_mem hpm
    have hb3 := cnts_kids p
    have hlen : ys.length ≤ 1000 := by
      rw [hL.len, hpl2.len]
      have := plss_len (ps.take i)
      have := cnts_take ps i
      omega
    have hFT : F ≠ T2 := ne_some hl hT
    have e03 : Ext [] H H3 := e.then0 e2
    have hxd3 := hxd.e0 e03
    have hu3 := hu.e0 e03
    have hl3 := e2.at0 hl
    clear y
    walk_at "rd"
    cases p with
    | emp =>
      have := hxd3.empE
      subst this
      walk_at "rd"
      refine ⟨_, _, ys, L, rfl, e03, hl3, hL.e0 e2, ?_⟩
      rw [plss_take hp]
      show IsPl L (_ ++ [])
      rw [List.append_nil]
      exact hpl2
    | dev n as =>
      obtain ⟨t, u2, us, rfl, ht, _⟩ := hxd3.devE
      walk_at "rd"
      refine s_newD (by walk_at "sz") (.one (.int _)) (fun pv H4 e4 hpv => ?_)
      refine s_catD (hu3.e0 e4) hpv (by rw [sizeLine_eq]; show _ + 1 ≤ _; omega) (fun pc H5 e5 hpc => ?_)
      walk_at "rd"
      refine s_newD (by walk_at "sz") (.two hpc (hxd3.e0 (e4.then0 e5))) (fun pp H6 e6 hpp => ?_)
      walk_at "rd"
      have e36 : Ext [] H3 H6 := (e4.then0 e5).then0 e6
      refine s_append (e36.at0 hl3) (by rw [sizeLine_eq]; omega) (fun H7 e7 h7 => ?_)
      have ht7 := e7.tup _ _ (e36.tup _ _ ht)
      walk_at "rd"
      refine ifd0 (by decide) ?_
      walk_at "rd"
      refine ⟨_, _, _, _, rfl, (e03.then0 e36).c1 e7 hF, h7, (((hL.e0 e2).e0 e36).ext e7).append (.one (hpp.ext e7)), ?_⟩
      rw [plss_take hp]
      exact hpl2.append (.cons _ (.dev n as) .nil)
    | br n ms qs =>
      obtain ⟨t, m, u2, us, rfl, ht, hm, hu2, hus⟩ := hxd3.brE
      have hdq : deps qs + 1 ≤ deps ps := hb1
      walk_at "rd"
      refine s_newD (by walk_at "sz") (.one (.int _)) (fun pv H4 e4 hpv => ?_)
      refine s_catD (hu3.e0 e4) hpv (by rw [sizeLine_eq]; show _ + 1 ≤ _; omega) (fun pc H5 e5 hpc => ?_)
      walk_at "rd"
      refine s_newD (by walk_at "sz") (.two hpc (hxd3.e0 (e4.then0 e5))) (fun pp H6 e6 hpp => ?_)
      walk_at "rd"
      have e36 : Ext [] H3 H6 := (e4.then0 e5).then0 e6
      refine s_append (e36.at0 hl3) (by rw [sizeLine_eq]; omega) (fun H7 e7 h7 => ?_)
      have ht7 := e7.tup _ _ (e36.tup _ _ ht)
      walk_at "rd"
      refine ifd1 rfl ?_
      have hF7 : F ∉ ([] : List Addr) := fun z => nomatch z
      walk_at "rd"
      refine s_newD (by walk_at "sz") (.one (.int _)) (fun pv8 H8 e8 hpv8 => ?_)
      refine s_catD (((hu3.e0 e36).ext e7).e0 e8) hpv8 (by rw [sizeLine_eq]; show _ + 1 ≤ _; omega) (fun pc9 H9 e9 hpc9 => ?_)
      walk_at "rd"
      have e79 : Ext [] H7 H9 := e8.then0 e9
      have hc : cnts qs + 1 ≤ cnt (.br n ms qs) := hb3
      refine ⟨_, _, _, _, rfl, (Dt.tup (e7.tup _ _ (e36.tup _ _ hu2)) ((hus.e0 e36).ext e7)).e0 e79, hpc9, by rw [List.length_append]; show _ + 1 + d ≤ 100; omega, by omega, by omega, fun p8 xs8 L8 H10 e10 hp8 h8 hL8 hPl8 => ?_⟩
      walk_at "rd"
      have h10 := e10.at0 (e79.at0 h7)
      refine s_extend h10 h8 (by
        rw [List.length_append, hL8.len, hPl8.len, sizeLine_eq]
        have := plss_len qs
        show _ + 1 + _ ≤ _
        omega) (fun H11 e11 h11 => ?_)
      walk_at "rd"
      refine ⟨_, _, _, _, rfl, ((((e03.then0 e36).c1 e7 hF).then0 e79).then0 e10).c1 e11 hF, h11, (((((hL.e0 e2).e0 e36).ext e7).append (.one (hpp.ext e7))).e0 (e79.then0 e10) |>.ext e11).append (hL8.ext e11), ?_⟩
      rw [plss_take hp, pls_kids (p := .br n ms qs) (fun z => nomatch z), show (Part.br n ms qs) :: plss (Part.br n ms qs).kids = [Part.br n ms qs] ++ plss qs from rfl, ← List.append_assoc]
      exact (hpl2.append (.cons _ (.br n ms qs) .nil)).append hPl8
  · obtain ⟨x', y', ys, L, rfl, e, hl, hL, hpl2⟩ := hP
    walk_at "rd"
    rw [hxl, List.take_length] at hpl2
    exact q _ _ _ _ e hF hl hL hpl2
abbrev sx_least : Stmt := top 51
abbrev N_least : List Str := ["_law_bridge", "_law_kind", "_law_sizes_here", "_law_width"]
theorem sc_least : FnScope N_least ["_law_bridge", "_law_kind"] (defScope sx_least) := ⟨rfl, rfl, rfl, by decide +kernel, rfl, by decide +kernel, by decide +kernel⟩
theorem ok_least0 (T : At K mg "_law_least" sx_least ["_law_bridge", "_law_kind"]) : Cal P w K mg base (k + 1) "_law_least" (spLeastSize 0) [] := by
  refine T.ok sc_least (fun vs H Q E h => ?_) (fun f cdv A outer s H vs Q E hr h => ?_)
  · obtain ⟨v, n, ms, ps, kk, rfl, _⟩ := h
    rfl
  obtain ⟨v, n, ms, ps, kk, rfl, _, h, _⟩ := h
  omega
theorem ok_least {d : Nat} (bi : Bi mg kd) (T : At K mg "_law_least" sx_least ["_law_bridge", "_law_kind"]) (c_sizes : Cal P w K mg base k "_law_sizes" (spSizesOn d) []) : Cal P w K mg base (k + 1) "_law_least" (spLeastSize (d + 1)) [] := by
  refine T.ok sc_least (fun vs H Q E h => ?_) (fun f cdv A outer s H vs Q E hr h => ?_)
  · obtain ⟨v, n, ms, ps, kk, rfl, _⟩ := h
    rfl
  have nd := sc_least.nd
  obtain ⟨v, n, ms, ps, kk, rfl, hv, hdp, hcn, q⟩ := h
  obtain ⟨t, m, u, us, rfl, ht, hm, hu, hus⟩ := hv.brE
  refine ⟨_, (pss_cons (ps_set (i := 2) nd rfl (Or.inl rfl) (pe_c c_sizes hr (by omega) (by rfl) (pa_cons (pe_ix ix_tup (pv 0) pe_int (fun _ _ => rfl)) (pa_cons (pv 1) pa_nil))))
      (pss_cons (ps_set (i := 3) nd rfl (Or.inl rfl) pe_int)
      (pss_cons (ps_while PassesOwn.never (pt_cmpR op_lt (pv 3) (pe_callB (cr_sum rfl) (by rfl) bi.sum (by decide +kernel) (pa_cons (pv 2) pa_nil)) (nomark _)) (pss_one (ps_set (i := 3) nd rfl (Or.inl rfl) (pe_op op_mul pe_int (pv 3)))))
      (pss_one (ps_ret (pe_op op_mul (pv 3) (pe_callTy call_intR (by rfl) bi.int (by decide +kernel) (pa_cons (pe_cmpR (op_neD hr.units) (pv 2) (pe_lst pa_nil) (nomark _)) pa_nil)))))))), ?_⟩
  walk_at "rd"
  refine ⟨_, ps, _, rfl, .tup hu hus, by omega, hcn, fun p H2 hp e2 h2 => ?_⟩
  walk_at "rd"
  refine s_while (fun m σ H' => H' = H2 ∧ ∃ w, σ = [some (.ref t), some (.str kk), some (.ref p), some (.int w)] ∧ PwAt (szs kk ps).sum w ∧ m = ((szs kk ps).sum - w).toNat) (m0 := ((szs kk ps).sum - 4096).toNat) ⟨rfl, _, rfl, pwAt0 _, rfl⟩ (fun m σ H' h => ?_)
  obtain ⟨rfl, w, rfl, hw, rfl⟩ := h
  walk_at "rd"
  refine s_sumL h2 ?_
  walk_at "rd"
  refine ifd (fun c => ?_) (fun c => ?_)
  · refine ⟨_, fun σ' H' h => h, ?_⟩
    walk_at "rd"
    refine s_I (.inl ⟨by decide, by decide⟩) ?_
    walk_at "rd"
    have := hw.1
    exact ⟨_, by omega, rfl, _, rfl, hw.next c, rfl⟩
  · walk_at "rd"
    refine s_newX (by walk_at "sz") (fun p3 H3 hp3 e3 h3 => ?_)
    refine s_neNil (e3.at0 h2) .ints (plain_ints _) h3 ?_
    walk_at "rd"
    rw [hw.done c]
    have q1 := q H3 (e2.then0 e3)
    by_cases hz : szs kk ps = []
    · rw [hz, lw_nil] at q1
      rw [hz]
      refine s_I (.inr ⟨by decide, by decide⟩) ?_
      exact q1
    · rw [lw_pos hz] at q1
      have hb : (if (!decide ((szs kk ps).map PyData.int = [])) = true then (1 : Int) else 0) = 1 := by
        rw [decide_eq_false (fun z => hz (List.map_eq_nil_iff.mp z))]
        rfl
      refine s_I (.inr (by rw [hb]; exact ⟨by decide, by decide⟩)) ?_
      rw [hb, Int.mul_one]
      exact q1
abbrev sx_sizes : Stmt := top 50
abbrev N_sizes : List Str := ["_law_parts", "_law_kind", "_law_found", "_law_part_here", "_law_area_here"]
theorem sc_sizes : FnScope N_sizes ["_law_parts", "_law_kind"] (defScope sx_sizes) := ⟨rfl, rfl, rfl, by decide +kernel, rfl, by decide +kernel, by decide +kernel⟩
theorem ok_sizes {d : Nat} (bi : Bi mg kd) (T : At K mg "_law_sizes" sx_sizes ["_law_parts", "_law_kind"]) (c_least : Cal P w K mg base k "_law_least" (spLeastSize d) []) : Cal P w K mg base (k + 1) "_law_sizes" (spSizesOn d) [] := by
  refine T.ok sc_sizes (fun vs H Q E h => ?_) (fun f cdv A outer s H vs Q E hr h => ?_)
  · obtain ⟨v, ps, kk, rfl, _⟩ := h
    rfl
  have nd := sc_sizes.nd
  obtain ⟨v, ps, kk, rfl, hv, hdp, hcn, q⟩ := h
  obtain ⟨a, xs, rfl, ha, hs⟩ := hv.tupE
  have hxl : xs.length = ps.length := by rw [hs.len, encs_len]
  refine ⟨_, (pss_cons (ps_set (i := 2) nd rfl (Or.inl rfl) (pe_lst pa_nil))
      (pss_cons (ps_for PassesOwn.never rfl (pi_tup (pv 0)) (pg_name (i := 3) nd rfl (Or.inl rfl)) (pss_cons (ps_if (PW.pt (pw_and (pt_cmpR op_notN1 (pv 3) pe_non (nomark _)) (pw_and1 (pt_cmpR op_eq (pe_ix ix_tup (pv 3) pe_int (fun _ _ => rfl)) pe_str (nomark _))))) (pss_one (ps_expr (pe_bm PySem.F.plainAttrs_list PySem.F.slot_list_extend PySem.F.type_list_extend mt_extend (pv 2) (pa_cons (pe_lc (own := [("_law_area_here", 4)]) (g := gName 4) (by rfl) nd (pi_tup (pe_ix ix_tup (pv 3) pe_int (fun _ _ => rfl))) (blkOk_by (own := [("_law_area_here", 4)]) (N := N_sizes) (sc := defScope sx_sizes) (by decide +kernel)) (fun _ _ _ _ _ => (pg_name (i := 4) nd rfl (Or.inl rfl))) (fun _ _ _ _ _ => pts_one (pt_cmpR op_eq (pe_ix (ix_tupK (K := K) rfl) (pv 4) pe_int (fun _ _ => rfl)) (pv 1) (nomark _))) (fun _ _ _ _ _ => (pe_ix (ix_tupK (K := K) rfl) (pv 4) pe_int (fun _ _ => rfl)))) pa_nil)))) pss_nil)
      (pss_one (ps_if (PW.pt (pw_and (pt_cmpR op_notN1 (pv 3) pe_non (nomark _)) (pw_and (pt_cmpR op_eq (pe_ix ix_tup (pv 3) pe_int (fun _ _ => rfl)) pe_str (nomark _)) (pw_and1 (pt_cmpR op_gt (pe_c c_least hr (by omega) (by rfl) (pa_cons (pv 3) (pa_cons (pv 1) pa_nil))) pe_int (nomark _)))))) (pss_one (ps_expr (pe_bm PySem.F.plainAttrs_list PySem.F.slot_list_append PySem.F.type_list_append mt_append (pv 2) (pa_cons (pe_c c_least hr (by omega) (by rfl) (pa_cons (pv 3) (pa_cons (pv 1) pa_nil))) pa_nil)))) pss_nil))))
      (pss_one (ps_ret (pv 2))))), ?_⟩
  walk_at "rd"
  refine s_newX (by walk_at "sz") (fun F H1 hF e1 h1 => ?_)
  walk_at "rd"
  refine f_W walk_tup (fun i σ H' => ∃ x y, σ = [some (.ref a), some (.str kk), some (.ref F), x, y] ∧ Ext [] H H' ∧ H' F = some (.lst ((szs kk (ps.take i)).map V.int))) ⟨_, _, rfl, e1, h1⟩ (fun i σ H' _ h => SqT.of (h.elim fun _ h => h.elim fun _ h => h.2.1.tup _ _ ha)) (fun i x σ H2 H3 hi hP y => ?_) (fun σ H' hP => ?_)
  · obtain ⟨x', y', rfl, e, hl⟩ := hP
    obtain ⟨rfl, hx⟩ := y
    obtain ⟨d2, hd2, hxd0⟩ := hs.getV hx
    obtain ⟨p, hp, rfl⟩ := encs_at hd2
    have hxd := hxd0.ext e
    have hpm := mem_at hp
    have hb1 := dep_mem hpm
    have hb2 := cnt_mem hpm
    have hlen := szs_len kk (ps.take i)
    have hct := cnts_take ps i
    have hstep := szs_take kk hp
    walk_at "rd"
    cases p with
    | emp =>
      have := hxd.empE
      subst this
      walk_at "rd"
      refine ⟨_, _, rfl, e, ?_⟩
      rw [hstep]
      show _ = some (HO.lst (((_ ++ [] : List Int)).map V.int))
      rw [List.append_nil]
      exact hl
    | dev n as =>
      have hla : as.length ≤ 1000 := by
        have : 1 + as.length ≤ cnts ps := hb2
        omega
      obtain ⟨t, u, us, rfl, ht, hu, hus⟩ := hxd.devE
      walk_at "rd"
      refine ifd1 rfl ?_
      walk_at "rd"
      have hul : us.length = as.length := by rw [hus.len, List.length_map]
      refine lc_W walk_tup [] (fun i acc _ => acc = (szA kk (as.take i)).map V.int) (fun H' e => SqT.of (e.tup _ _ hu)) (fun _ _ => rfl) (fun i x D acc H4 H5 hi hD e4 hacc hl4 hR y => ?_) (fun D acc H4 hD e4 hacc hl4 hR => ?_)
      · obtain ⟨rfl, hx⟩ := y
        obtain ⟨d, hd', hxd⟩ := hus.getV hx
        obtain ⟨b, hb, rfl⟩ := map_at hd'
        obtain ⟨t2, rfl, ht2⟩ := (hxd.ext e4).areaE
        subst hR
        walk_at "rd"
        refine ⟨rfl, ?_⟩
        walk_at "rd"
        refine ifd (fun c => ?_) (fun c => ?_)
        · walk_at "rd"
          refine lc_put hD e4 hacc hl4 (by omega) (fun _ _ => ?_)
          unfold szA
          rw [take1 hb, List.filter_append, List.filter_cons, if_pos (decide_eq_true c), List.map_append, List.map_append]
          rfl
        · refine lc_skip e4 hacc hl4 ?_
          unfold szA
          rw [take1 hb, List.filter_append, List.filter_cons, if_neg (by simpa using c), List.map_append, List.map_append, List.filter_nil, List.map_nil, List.map_nil, List.append_nil]
      · rw [hul, List.take_length] at hR
        subst hR
        have hla2 := szA_len kk as
        have hl5 := e4.at0 hl
        walk_at "rd"
        refine s_extend hl5 hacc (by rw [List.length_map, List.length_map, sizeLine_eq]; omega) (fun H5 e5 h5 => ?_)
        have ht5 := e5.tup _ _ (e4.tup _ _ ht)
        walk_at "rd"
        refine ifd0 (by decide) ?_
        walk_at "rd"
        refine ⟨_, _, rfl, (e.then0 e4).c1 e5 hF, ?_⟩
        rw [hstep, List.map_append]
        exact h5
    | br n ms ps2 =>
      have hd2 : deps ps2 + 1 ≤ deps ps := hb1
      have hc2 : 1 + cnts ps2 ≤ cnts ps := hb2
      obtain ⟨t, m, u, us, rfl, ht, hm, hu, hus⟩ := hxd.brE
      walk_at "rd"
      refine ifd0 (by decide) ?_
      walk_at "rd"
      refine ifd1 rfl ?_
      walk_at "rd"
      refine ⟨_, n, ms, ps2, _, rfl, hxd, by omega, by omega, fun H4 e4 => ?_⟩
      walk_at "rd"
      have hlb := sz_len kk (.br n ms ps2)
      refine ifd (fun c => ?_) (fun c => ?_)
      · walk_at "rd"
        refine ⟨_, n, ms, ps2, _, rfl, hxd.e0 e4, by omega, by omega, fun H5 e5 => ?_⟩
        have hF5 := (e4.then0 e5).at0 hl
        walk_at "rd"
        refine s_append hF5 (by rw [List.length_map, sizeLine_eq]; omega) (fun H6 e6 h6 => ?_)
        walk_at "rd"
        refine ⟨_, _, rfl, (e.then0 (e4.then0 e5)).c1 e6 hF, ?_⟩
        rw [hstep, List.map_append]
        unfold sz
        rw [if_pos c]
        exact h6
      · walk_at "rd"
        refine ⟨_, _, rfl, e.then0 e4, ?_⟩
        rw [hstep]
        unfold sz
        rw [if_neg c, List.append_nil]
        exact e4.at0 hl
  · obtain ⟨x', y', rfl, e, hl⟩ := hP
    rw [hxl, List.take_length] at hl
    walk_at "rd"
    exact q _ _ hF e hl
end
end Bw

/-! the law: units, room, rooms -/
namespace Bw
open PySem PySem.Spec PyProof.Rows L2
open C8 (Cal pe_c pe_gc)
open StX (pa_star tStar)
open RZ (pi_zipA iZipA)
-- the tactics of this text, by key
local macro_rules | `(tactic| walk_at "nm") => `(tactic| first | (intro hmem; cases hmem; done) | (simp only [List.mem_cons, List.mem_singleton, List.not_mem_nil, or_false, not_or, not_false_eq_true]; done) | (simp only [List.mem_cons, List.mem_singleton, List.not_mem_nil, or_false, not_or]; (repeat' apply And.intro) <;> first | assumption | exact Ne.symm (by assumption) | exact ne_some (by assumption) (by assumption) | exact Ne.symm (ne_some (by assumption) (by assumption))))
local macro_rules | `(tactic| walk_at "hx") => `(tactic| first | assumption | exact Dt.non | exact Dt.int _ | exact Dt.str _ | exact Dt.bl _ | (refine Dt.ext (by assumption) ?_; walk_at "hx") | (refine DtAll.ext (by assumption) ?_; walk_at "hx") | (refine Ext.at0 (by assumption) ?_; walk_at "hx") | (refine Ext.tupC (by assumption) ?_; walk_at "hx") | (refine Ext.atC (by assumption) ?_ (by walk_at "nm"); walk_at "hx"))
local macro_rules | `(tactic| walk_at "dm") => `(tactic| first | exact fun _ h => h | (refine dom_step (by assumption) ?_; walk_at "dm"))
local macro_rules | `(tactic| walk_at "fr") => `(tactic| first | assumption | (refine fr_of (by assumption) ?_; walk_at "dm"))
local macro_rules | `(tactic| walk_at "ex") => `(tactic| first | assumption | exact Ext.refl | exact Ext.mono0 (by assumption) | (refine Ext.then0 ?_ (by assumption); walk_at "ex") | (refine Ext.transC ?_ (by assumption); walk_at "ex") | (refine Ext.c1 ?_ (by assumption) (by walk_at "fr"); walk_at "ex") | (refine Ext.cm ?_ (by assumption) (by simp only [List.mem_cons, true_or, or_true]; done); walk_at "ex"))
local macro_rules | `(tactic| walk_at "r1") => `(tactic| first
  | (with_reducible refine s_var rfl ?_) | (with_reducible refine s_c ?_) | (with_reducible refine s_op ?_) | (with_reducible refine s_un ?_) | (with_reducible refine s_I0 ?_) | (with_reducible refine s_U ?_)
  | (with_reducible refine s_eqI ?_) | (with_reducible refine s_eqS ?_) | (with_reducible refine s_eqB ?_) | (with_reducible refine s_neI ?_) | (with_reducible refine s_neS ?_) | (with_reducible refine s_neB ?_)
  | (with_reducible refine s_isN1 ?_) | (with_reducible refine s_isN0 ?_) | (with_reducible refine s_notN1 ?_) | (with_reducible refine s_notN0 ?_) | (with_reducible refine s_isBl ?_) | (with_reducible refine s_notBl ?_)
  | (with_reducible refine s_test ?_) | (with_reducible refine s_B ?_) | (with_reducible refine s_bl ?_) | (with_reducible refine s_and ?_) | (with_reducible refine s_or ?_) | (with_reducible refine s_not ?_)
  | (with_reducible refine s_andV ?_) | (with_reducible refine s_orV ?_) | (with_reducible refine s_notV ?_) | (with_reducible refine s_ifE ?_) | (with_reducible refine s_chain ?_)
  | (with_reducible refine s_next ?_) | (with_reducible refine s_seq ?_) | (with_reducible refine s_drop ?_) | (with_reducible refine s_ret ?_) | (with_reducible refine s_retN ?_) | (with_reducible refine s_ifS ?_) | (with_reducible refine s_asg ?_)
  | ((with_reducible refine g_name ?_); refine s_name (by first | rfl) ?_) | (with_reducible refine s_parS ?_) | (with_reducible refine s_par ?_) | ((with_reducible refine g_nx ?_); refine s_nx rfl ?_) | (with_reducible refine s_gsub ?_) | (with_reducible refine s_gnil ?_) | (with_reducible refine s_gcons ?_)
  | (with_reducible refine s_call ?_) | (with_reducible refine s_cb ?_) | (with_reducible refine s_nil ?_) | (with_reducible refine s_cons ?_) | (with_reducible refine s_tupT ?_) | (with_reducible refine s_lstT ?_)
  | (with_reducible refine s_sl ?_) | (with_reducible refine s_nopart ?_) | (with_reducible refine s_part ?_) | (with_reducible refine s_int ?_) | (with_reducible refine s_bm ?_) | (with_reducible refine s_dget ?_) | (with_reducible refine s_dputS ?_)
  | (with_reducible refine s_forS ?_) | (with_reducible refine s_lc ?_) | (with_reducible refine s_iTup ?_) | (with_reducible refine s_iList ?_) | (with_reducible refine s_iRng1 ?_) | (with_reducible refine s_iRng2 ?_) | (with_reducible refine s_tYes ?_) | (with_reducible refine s_intI ?_) | (with_reducible refine s_intB ?_) | (with_reducible refine s_min2 ?_) | (with_reducible refine s_max2 ?_) | (with_reducible refine s_abs ?_) | (with_reducible refine s_revL ?_) | (with_reducible refine s_iEnumT ?_) | (with_reducible refine s_iEnum ?_) | (with_reducible refine s_iZipA ?_) | (with_reducible refine s_iZipM ?_) | (with_reducible refine s_iZip ?_) | (with_reducible refine s_iStr ?_) | (with_reducible refine s_star ?_) | (with_reducible refine s_lc2 ?_) | (with_reducible refine s_dc ?_) | (with_reducible refine s_bm ?_)
  | (with_reducible refine isi_int _ ?_) | (with_reducible refine isi_intB _ ?_) | (with_reducible refine isi_str _ ?_) | (with_reducible refine isi_non ?_)
  | (with_reducible refine iteT ?_) | (with_reducible refine iteF ?_) | (with_reducible refine iteNT ?_) | (with_reducible refine iteNF ?_))
local macro_rules | `(tactic| walk_at "r2") => `(tactic| first
  | ((with_reducible refine g_ixT ?_); first | (refine s_ixT (by walk_at "hx") rfl ?_) | (refine s_ixDs (by walk_at "hx") rfl ?_) | (refine s_ixDi (by walk_at "hx") rfl ?_) | (refine s_ixD (by walk_at "hx") rfl (fun _ _ => ?_)) | (refine s_ixD0s (by walk_at "hx") ?_))
  | ((with_reducible refine g_form ?_); first | (refine isDev_non ?_) | (refine isBr_non ?_) | (refine isDev_dev (by walk_at "hx") ?_) | (refine isDev_br (by walk_at "hx") ?_) | (refine isBr_dev (by walk_at "hx") ?_) | (refine isBr_br (by walk_at "hx") ?_))
  | ((with_reducible refine g_isi ?_); first | (with_reducible refine isi_dt (by walk_at "hx") ?_) | (with_reducible refine isi_tup (by walk_at "hx") ?_))
  | ((with_reducible refine g_len ?_); first | (with_reducible refine s_lenL (by walk_at "hx") ?_) | (with_reducible refine s_lenT (by walk_at "hx") ?_) | (with_reducible refine s_lenD (by walk_at "hx") ?_))
  | ((with_reducible refine g_ty ?_); first | (refine s_tyK (by assumption) ?_) | (with_reducible refine s_tyL (by walk_at "hx") ?_))
  | ((with_reducible refine g_tix ?_); first | (refine s_idx0 (by assumption) ?_) | (refine s_idx1 (by assumption) ?_))
  | ((with_reducible refine g_enT ?_); with_reducible refine s_enT (by walk_at "hx") ?_) | ((with_reducible refine g_enL ?_); with_reducible refine s_enL (by walk_at "hx") ?_)
  | ((with_reducible refine g_za ?_); first | (with_reducible refine s_zaT2 (by walk_at "hx") (by walk_at "hx") ?_) | (with_reducible refine s_zaL (by walk_at "hx") (by walk_at "hx") ?_))
  | ((with_reducible refine g_zm ?_); first | (with_reducible refine s_zmT (by walk_at "hx") (by walk_at "hx") ?_) | (with_reducible refine s_zmL (by walk_at "hx") (by walk_at "hx") ?_))
  | ((with_reducible refine g_zl ?_); with_reducible refine s_zl (by walk_at "hx") (by walk_at "hx") ?_)
  | ((with_reducible refine g_itT ?_); with_reducible refine s_itT (by walk_at "hx") ?_) | ((with_reducible refine g_itL ?_); with_reducible refine s_itL (by walk_at "hx") ?_)
  | ((with_reducible refine g_gtup ?_); refine s_gtup (by walk_at "hx") rfl ?_))
local macro_rules | `(tactic| walk_at "rd") => `(tactic| repeat (first | walk_at "r1" | walk_at "r2"))
local macro_rules | `(tactic| walk_at "sz") => `(tactic| (simp only [List.length_cons, List.length_nil, List.length_append, List.length_map, sizeLine_eq] <;> omega))
theorem ixN_pos {n : Nat} {i : Int} (h0 : 0 ≤ i) (h1 : i < n) : ixN n i = some i.toNat := by unfold ixN; rw [if_pos h0, if_pos h1]
theorem Ext.d3g {a l q : Addr} {H H1 H2 : Hp} (e : Ext [a, l] H H1) (f : Ext [a, l, q] H1 H2) (h : H q = none) : Ext [a, l] H H2 := e.comp f fun x hx => by
  simp only [List.mem_cons, List.not_mem_nil, or_false] at hx ⊢
  rcases hx with rfl | rfl | rfl
  · exact .inl (.inl rfl)
  · exact .inl (.inr rfl)
  · exact .inr h
section
variable {P : Program} {w : World} {K : PySem.W.Frag} {mg : Str → Option Value} {base : Heap} {kd : Addr} {k : Nat}
abbrev sx_units : Stmt := top 52
abbrev N_units : List Str := ["_law_source_here", "_law_many", "_law_draw", "_law_found", "_law_turn", "_law_spot", "_law_length", "_law_k"]
theorem sc_units : FnScope N_units ["_law_source_here", "_law_many"] (defScope sx_units) := ⟨rfl, rfl, rfl, by decide +kernel, rfl, by decide +kernel, by decide +kernel⟩
theorem ok_units (bi : Bi mg kd) (T : At K mg "_law_units" sx_units ["_law_source_here", "_law_many"]) (c_below : Cal P w K mg base k "_law_below" spBelow []) (c_pick : Cal P w K mg base k "_law_pick" spPick []) : Cal P w K mg base (k + 1) "_law_units" spUnits [] := by
  refine T.ok sc_units (fun vs H Q E h => ?_) (fun f cdv A outer s H vs Q E hr h => ?_)
  · obtain ⟨a, l, c, n, rfl, _⟩ := h
    rfl
  have nd := sc_units.nd
  obtain ⟨a, l, c, n, rfl, src, q⟩ := h
  refine ⟨_, (pss_cons (ps_set (i := 2) nd rfl (Or.inl rfl) (pe_c c_below hr (by omega) (by rfl) (pa_cons (pv 0) (pa_cons pe_int pa_nil))))
      (pss_cons (ps_if (pt_cmpR op_eq (pv 2) pe_int (nomark _)) (pss_one (ps_ret (pe_lc (own := [("_law_k", 7)]) (g := gName 7) (by rfl) nd (pi_range1 (by rfl) bi.range (pa_cons (pv 1) pa_nil)) (blkOk_by (own := [("_law_k", 7)]) (N := N_units) (sc := defScope sx_units) (by decide +kernel)) (fun _ _ _ _ _ => (pg_name (i := 7) nd rfl (Or.inl rfl))) (fun _ _ _ _ _ => pts_nil) (fun _ _ _ _ _ => (pe_cmpR op_eq (pe_c c_below hr (by omega) (by rfl) (pa_cons (pv 0) (pa_cons pe_int pa_nil))) pe_int (nomark _)))))) pss_nil)
      (pss_cons (ps_set (i := 3) nd rfl (Or.inl rfl) (pe_op op_rep (pe_lst (pa_cons (pe_cmpR op_eq (pv 2) pe_int (nomark _)) pa_nil)) (pv 1)))
      (pss_cons (ps_for PassesOwn.never rfl (pi_range1 (by rfl) bi.range (pa_cons (pe_c c_below hr (by omega) (by rfl) (pa_cons (pv 0) (pa_cons pe_int pa_nil))) pa_nil)) (pg_name (i := 4) nd rfl (Or.inl rfl)) (pss_cons (ps_set (i := 5) nd rfl (Or.inl rfl) (pe_c c_below hr (by omega) (by rfl) (pa_cons (pv 0) (pa_cons (pv 1) pa_nil))))
      (pss_cons (ps_set (i := 6) nd rfl (Or.inl rfl) (pe_c c_pick hr (by omega) (by rfl) (pa_cons (pv 0) (pa_cons (pe_lst (pa_cons pe_int (pa_cons pe_int (pa_cons pe_int (pa_cons pe_int (pa_cons (pe_op op_add pe_int (pe_c c_below hr (by omega) (by rfl) (pa_cons (pv 0) (pa_cons (pv 1) pa_nil)))) pa_nil)))))) pa_nil))))
      (pss_one (ps_for PassesOwn.never rfl (pi_range2 (by rfl) bi.range (pa_cons (pv 5) (pa_cons (pe_callB (call_minR rfl) (by rfl) bi.min (by decide +kernel) (pa_cons (pv 1) (pa_cons (pe_op op_add (pv 5) (pv 6)) pa_nil))) pa_nil))) (pg_name (i := 7) nd rfl (Or.inl rfl)) (pss_one (ps_asg (pe_cmpR op_ne (pv 2) pe_int (nomark _)) (pg_sub (pv 3) (pv 7) set_list))))))))
      (pss_one (ps_ret (pv 3))))))), ?_⟩
  walk_at "rd"
  refine ⟨a, l, c, n + 199, 4, rfl, by decide, by decide, src.le (by omega), fun r H1 hr0 hr1 e1 src1 => ?_⟩
  walk_at "rd"
  refine ifd (fun c1 => ?_) (fun c1 => ?_)
  · walk_at "rd"
    refine ⟨_, rfl, by decide, by decide, ?_⟩
    refine lc_W (n := 32) walk_range [a, l] (fun i acc H' => ∃ bs : List Bool, acc = bs.map V.bl ∧ bs.length = i ∧ Src H' a l c (n + 199 - i)) (fun _ _ => trivial) (fun H' e' => ⟨[], rfl, rfl, src1.e0 e'⟩) (fun i x D acc H2 H3 hi hD e hacc hl hR y => ?_) (fun D acc H2 hD e hacc hl hR => ?_)
    · obtain ⟨rfl, rfl⟩ := y
      obtain ⟨bs, rfl, hbl, src2⟩ := hR
      have hDa := src1.ne hD
      walk_at "rd"
      refine ⟨rfl, ?_⟩
      walk_at "rd"
      refine ⟨a, l, c, n + 199 - (i + 1), 2, rfl, by decide, by decide, src2.le (by omega), fun r2 H4 _ _ e4 src4 => ?_⟩
      walk_at "rd"
      refine lc_put hD (e.trans e4) (e4.at hacc (ne2 hDa.1 hDa.2.1)) hl (by omega) (fun H5 e5 => ⟨bs ++ [decide (r2 = 0)], by rw [List.map_append]; rfl, by rw [List.length_append, hbl]; rfl, src4.e1 e5 hDa⟩)
    · obtain ⟨bs, rfl, hbl, src2⟩ := hR
      exact q _ bs _ (e1.free hD) hbl hacc (e1.trans e) (src2.le (by omega))
  · walk_at "rd"
    refine s_newX (by walk_at "sz") (fun p2 H2 hp2 e2 h2 => ?_)
    walk_at "rd"
    refine s_rep h2 (by decide) (by decide) (by rw [sizeLine_eq]; show 1 * 32 ≤ _; decide) (fun F H3 hF e3 h3 => ?_)
    have h3' : H3 F = some (.lst ((List.replicate 32 (decide (r = 3))).map V.bl)) := by rw [h3]; rfl
    have hFa := (src1.e0 e2).ne hF
    walk_at "rd"
    have e13 : Ext [] H1 H3 := e2.then0 e3
    refine ⟨a, l, c, n + 198, 6, rfl, by decide, by decide, (src1.e0 e13).le (by omega), fun m H4 hm0 hm1 e4 src4 => ?_⟩
    obtain ⟨m, rfl⟩ : ∃ j : Nat, m = j := ⟨_, (Int.toNat_of_nonneg hm0).symm⟩
    walk_at "rd"
    refine ⟨_, rfl, by omega, by omega, ?_⟩
    rw [Int.toNat_natCast]
    refine f_W walk_range (fun i σ H' => ∃ bs o4 o5 o6 o7, σ = [some (.ref a), some (.int 32), some (.int r), some (.ref F), o4, o5, o6, o7] ∧ Ext [a, l, F] H3 H' ∧ H' F = some (.lst ((bs : List Bool).map V.bl)) ∧ bs.length = 32 ∧ Src H' a l c (n + 190 - 3 * i))
      ⟨_, _, _, _, _, rfl, e4.mono nil3, e4.at h3' (ne2 hFa.1 hFa.2.1), List.length_replicate, src4.le (by omega)⟩ (fun _ _ _ _ _ => trivial) (fun i x σ H5 H6 hi hP y => ?_) (fun σ H5 hP => ?_)
    · obtain ⟨bs, o4, o5, o6, o7, rfl, e5, h5, hbl, src5⟩ := hP
      obtain ⟨rfl, rfl⟩ := y
      walk_at "rd"
      refine ⟨a, l, c, n + 190 - 3 * i - 1, 32, rfl, by decide, by decide, src5.le (by omega), fun sp H7 hs0 hs1 e7 src7 => ?_⟩
      walk_at "rd"
      refine ⟨a, l, c, n + 190 - 3 * i - 2, 32, rfl, by decide, by decide, src7.le (by omega), fun ln H8 hl0 hl1 e8 src8 => ?_⟩
      walk_at "rd"
      refine s_newX (by walk_at "sz") (fun L H9 hL e9 h9 => ?_)
      have hLa := src8.ne hL
      walk_at "rd"
      refine ⟨a, l, c, n + 190 - 3 * i - 3, L, _, rfl, h9, hLa.1, hLa.2.1, (fun z => nomatch z), by walk_at "sz", (src8.e0 e9).le (by omega), fun lv H10 hlv e10 src10 => ?_⟩
      have hlv' : ∃ y : Int, lv = .int y ∧ 0 ≤ y ∧ y ≤ 100 := by
        simp only [List.mem_cons, List.not_mem_nil, or_false] at hlv
        rcases hlv with rfl | rfl | rfl | rfl | rfl
        · exact ⟨_, rfl, by decide, by decide⟩
        · exact ⟨_, rfl, by decide, by decide⟩
        · exact ⟨_, rfl, by decide, by decide⟩
        · exact ⟨_, rfl, by decide, by decide⟩
        · exact ⟨_, rfl, by omega, by omega⟩
      obtain ⟨y, rfl, hy0, hy1⟩ := hlv'
      walk_at "rd"
      refine ⟨_, _, rfl, ⟨by omega, by omega, by omega, by omega⟩, ?_⟩
      have e510 := ((e7.trans e8).then0 e9).trans e10
      refine f_W walk_range (fun j σ H' => ∃ bs o7, σ = [some (.ref a), some (.int 32), some (.int r), some (.ref F), some (.int (0 + (i : Nat))), some (.int sp), some (.int y), o7] ∧ Ext [a, l, F] H3 H' ∧ H' F = some (.lst ((bs : List Bool).map V.bl)) ∧ bs.length = 32 ∧ Src H' a l c (n + 190 - 3 * (i + 1)))
        ⟨bs, _, rfl, e5.trans (e510.mono nil3), e510.at h5 (ne2 hFa.1 hFa.2.1), hbl, src10.le (by omega)⟩ (fun _ _ _ _ _ => trivial) (fun j x σ H11 H12 hj hP y2 => ?_) (fun σ H11 hP => ?_)
      · obtain ⟨bs2, o7, rfl, e11, h11, hbl2, src11⟩ := hP
        obtain ⟨rfl, rfl⟩ := y2
        walk_at "rd"
        have hjl : sp + (j : Nat) < 32 := by omega
        refine s_setL (j := (sp + (j : Nat)).toNat) h11 (by rw [List.length_map, hbl2]; exact ixN_pos (by omega) hjl) (fun H13 e13 h13 => ?_)
        walk_at "rd"
        refine ⟨bs2.set (sp + (j : Nat)).toNat (!decide (r = 3)), _, rfl, e11.trans (e13.mono (fun x hx => by rw [List.mem_singleton.mp hx]; simp)), by rw [h13, List.map_set], by rw [List.length_set]; exact hbl2, src11.e1 e13 hFa⟩
      · obtain ⟨bs2, o7, rfl, e11, h11, hbl2, src11⟩ := hP
        walk_at "rd"
        exact ⟨bs2, _, _, _, _, rfl, e11, h11, hbl2, src11⟩
    · obtain ⟨bs, o4, o5, o6, o7, rfl, e5, h5, hbl, src5⟩ := hP
      walk_at "rd"
      exact q F bs H5 (e1.free (e2.free hF)) hbl h5 ((e1.then0 e13).d3g e5 (e1.free (e2.free hF))) (src5.le (by omega))
theorem range_mul {u f0 : Int} {spot wd : Nat} (h1 : wd ∣ 32) (h2 : wd ∣ spot) (h3 : 32 * u ∣ f0) : ((wd : Int) * u) ∣ (f0 + (spot : Int) * u) := by
  obtain ⟨x, hx⟩ := h1
  obtain ⟨y, rfl⟩ := h2
  obtain ⟨z, rfl⟩ := h3
  refine ⟨(x : Int) * z + y, ?_⟩
  have hx' : (32 : Int) = (wd : Int) * x := by rw [← Int.natCast_mul, ← hx]; rfl
  rw [hx', Int.natCast_mul, Int.mul_add]
  congr 1
  · rw [Int.mul_assoc, Int.mul_assoc, Int.mul_assoc, ← Int.mul_assoc (x : Int) u z, Int.mul_comm (x : Int) u, Int.mul_assoc]
  · rw [Int.mul_assoc, Int.mul_assoc, Int.mul_comm (y : Int) u]
/-- widths: powers of two up to 32 -/
def Wd (w : Nat) : Prop := w = 1 ∨ w = 2 ∨ w = 4 ∨ w = 8 ∨ w = 16 ∨ w = 32
theorem Wd.half {w : Nat} (h : Wd w) (h1 : 1 < w) : Wd (w / 2) ∧ w / 2 < w := by
  unfold Wd at *
  omega
theorem Wd.dvd {w : Nat} (h : Wd w) : w ∣ 32 := by
  unfold Wd at h
  rcases h with rfl | rfl | rfl | rfl | rfl | rfl <;> decide
theorem Wd.p2 {w : Nat} (h : Wd w) : P2 (w : Int) := by
  unfold Wd at h
  rcases h with rfl | rfl | rfl | rfl | rfl | rfl
  · exact ⟨0, rfl⟩
  · exact ⟨1, rfl⟩
  · exact ⟨2, rfl⟩
  · exact ⟨3, rfl⟩
  · exact ⟨4, rfl⟩
  · exact ⟨5, rfl⟩
theorem P2.mul {s t : Int} (hs : P2 s) (ht : P2 t) : P2 (s * t) := by
  obtain ⟨i, rfl⟩ := hs
  obtain ⟨j, rfl⟩ := ht
  exact ⟨i + j, by rw [Int.pow_add]⟩
theorem cut_map {α : Type} (f : α → V) (xs : List α) (lo hi : Option Int) : cutV (xs.map f) lo hi = ((xs.drop (HT.sIx xs.length 0 lo)).take (HT.sIx xs.length xs.length hi - HT.sIx xs.length 0 lo)).map f := by
  unfold cutV
  rw [List.length_map, List.map_take, List.map_drop]
abbrev sx_room : Stmt := top 53
abbrev N_room : List Str := ["_law_units_here", "_law_unit", "_law_first", "_law_found", "_law_spot", "_law_width"]
theorem sc_room : FnScope N_room ["_law_units_here", "_law_unit", "_law_first"] (defScope sx_room) := ⟨rfl, rfl, rfl, by decide +kernel, rfl, by decide +kernel, by decide +kernel⟩
theorem ok_room (bi : Bi mg kd) (T : At K mg "_law_room" sx_room ["_law_units_here", "_law_unit", "_law_first"]) : Cal P w K mg base (k + 1) "_law_room" spRoom [] := by
  refine T.ok sc_room (fun vs H Q E h => ?_) (fun f cdv A outer s H vs Q E hr h => ?_)
  · obtain ⟨p, bs, u, f0, rfl, _⟩ := h
    rfl
  have nd := sc_room.nd
  obtain ⟨p, bs, u, f0, rfl, hp, hbl, hu, hu16, hu20, hf, hf0, hf1, q⟩ := h
  refine ⟨_, (pss_cons (ps_par (i := 3) (j := 4) (by rfl) nd rfl rfl (by decide) rfl rfl (pa_cons (pe_lst pa_nil) (pa_cons pe_int pa_nil)) (by rfl))
      (pss_cons (ps_while PassesOwn.never (pt_cmpR op_lt (pv 4) (pe_callB (call_lenR (K := K) rfl) (by rfl) bi.len (by decide +kernel) (pa_cons (pv 0) pa_nil)) (nomark _)) (pss_cons (ps_set (i := 5) nd rfl (Or.inl rfl) (pe_callB (call_lenR (K := K) rfl) (by rfl) bi.len (by decide +kernel) (pa_cons (pv 0) pa_nil)))
      (pss_cons (ps_while PassesOwn.never (PW.pt (pw_and (pt_cmpR op_gt (pv 5) pe_int (nomark _)) (pw_and1 (PW.pt (pw_or (pt_cmpR op_gt (pe_op op_mod (pv 4) (pv 5)) pe_int (nomark _)) (pw_or1 (pt_cmpR op_in_seq pe_bl (pe_slice sl_list (pv 0) (po_some (pv 4)) (po_some (pe_op op_add (pv 4) (pv 5)))) (by rfl)))))))) (pss_one (ps_set (i := 5) nd rfl (Or.inl rfl) (pe_op op_fdivW (pv 5) pe_int))))
      (pss_cons (ps_if (pt_val (pe_ix ix_list (pv 0) (pv 4) (fun _ _ => rfl))) (pss_one (ps_expr (pe_bm PySem.F.plainAttrs_list PySem.F.slot_list_append PySem.F.type_list_append mt_append (pv 3) (pa_cons (pe_tup (pa_cons (pe_op op_add (pv 2) (pe_op op_mul (pv 4) (pv 1))) (pa_cons (pe_op op_mul (pv 5) (pv 1)) pa_nil))) pa_nil)))) pss_nil)
      (pss_one (ps_set (i := 4) nd rfl (Or.inl rfl) (pe_op op_add (pv 4) (pv 5))))))))
      (pss_one (ps_ret (pe_callTy (call_tupR (K := K) rfl) (by rfl) bi.tuple (by decide +kernel) (pa_cons (pv 3) pa_nil)))))), ?_⟩
  walk_at "rd"
  refine s_newX (by walk_at "sz") (fun F H1 hF e1 h1 => ?_)
  walk_at "rd"
  have hpF : F ≠ p := (ne_some hp hF).symm
  refine s_while (fun m σ H' => ∃ (spot : Nat) (rm : List Blk) (ys : List V) (o5 : Option V), σ = [some (.ref p), some (.int u), some (.int f0), some (.ref F), some (.int spot), o5] ∧ Ext [F] H1 H' ∧ H' F = some (.lst ys) ∧ DtAll H' ys (rm.map encB) ∧ RoomOk rm ∧ (∀ b ∈ rm, b.1 + b.2 ≤ f0 + (spot : Int) * u) ∧ rm.length ≤ spot ∧ spot ≤ 32 ∧ m = 32 - spot)
    (m0 := 32) ⟨0, [], [], _, rfl, .refl, h1, .nil, RoomOk.nil, (fun _ h => nomatch h), Nat.zero_le _, by decide, rfl⟩ (fun m σ H' h => ?_)
  obtain ⟨spot, rm, ys, o5, rfl, e2, h2, hys, hrm, hen, hrl, hsp, rfl⟩ := h
  have hp2 := e2.at (e1.at0 hp) (ne1 hpF.symm)
  walk_at "rd"
  refine ifd (fun c0 => ?_) (fun c0 => ?_)
  · have hs32 : spot < 32 := by rw [List.length_map, hbl] at c0; omega
    refine ⟨_, fun σ' H' h => h, ?_⟩
    walk_at "rd"
    refine s_while (fun m σ H' => ∃ wd : Nat, σ = [some (.ref p), some (.int u), some (.int f0), some (.ref F), some (.int spot), some (.int wd)] ∧ Ext [F] H1 H' ∧ H' F = some (.lst ys) ∧ DtAll H' ys (rm.map encB) ∧ Wd wd ∧ m = wd)
      (m0 := 32) ⟨32, by rw [List.length_map, hbl]; rfl, e2, h2, hys, .inr (.inr (.inr (.inr (.inr rfl)))), rfl⟩ (fun m2 σ H3 h => ?_)
    obtain ⟨wd, rfl, e3, h3, hys3, hwd, rfl⟩ := h
    have hp3 := e3.at (e1.at0 hp) (ne1 hpF.symm)
    walk_at "rd"
    refine ifd (fun c1 => ?a1) (fun c1 => ?x1)
    case' a1 =>
      have c1' : 1 < m2 := by omega
      walk_at "rd"
      refine s_I (show (0 : Int) < (m2 : Nat) by omega) ?_
      walk_at "rd"
      refine ifd (fun c2 => ?l1) (fun c2 => ?a2)
    case' a2 =>
      walk_at "rd"
      refine s_slL hp3 (fun S H4 hS e4 h4 => ?_)
      have h4' := h4.trans (congrArg (fun z => some (HO.lst z)) (cut_map V.bl bs _ _))
      refine s_inB h4' ?_
      walk_at "rd"
      refine ifd (fun c3 => ?l2) (fun c3 => ?x2)
    case' x1 =>
      have hdv : m2 ∣ spot := by
        have : m2 = 1 := by unfold Wd at hwd; omega
        rw [this]
        exact Nat.one_dvd _
      have ef := e3
      have h2f := h3
      have hysf := hys3
    case' x2 =>
      have hdv : m2 ∣ spot := by
        refine Nat.dvd_of_mod_eq_zero ?_
        have : ((spot : Int) % (m2 : Nat)) = ((spot % m2 : Nat) : Int) := rfl
        omega
      have ef := e3.then0 e4
      have h2f := e4.at0 h3
      have hysf := hys3.e0 e4
    case' l1 =>
      have ef := e3
      have h2f := h3
      have hysf := hys3
    case' l2 =>
      have ef := e3.then0 e4
      have h2f := e4.at0 h3
      have hysf := hys3.e0 e4
    case l1 | l2 =>
      have hh := hwd.half c1'
      refine ⟨_, fun σ' H' h => h, ?_⟩
      walk_at "rd"
      refine s_I ⟨by decide, by decide⟩ ?_
      walk_at "rd"
      exact ⟨m2 / 2, hh.2, m2 / 2, rfl, ef, h2f, hysf, hh.1, rfl⟩
    all_goals
      have hpf := ef.at (e1.at0 hp) (ne1 hpF.symm)
      have hw32 : spot + m2 ≤ 32 := by
        obtain ⟨x, hx⟩ := hdv
        obtain ⟨y, hy⟩ := hwd.dvd
        have : x < y := by
          by_cases q : x < y
          · exact q
          · have := Nat.mul_le_mul_left m2 (show y ≤ x by omega)
            omega
        have := Nat.mul_le_mul_left m2 (show x + 1 ≤ y by omega)
        rw [Nat.mul_add, Nat.mul_one] at this
        omega
      have hw1 : 1 ≤ m2 := by unfold Wd at hwd; omega
      have hgap : ((spot + m2 : Nat) : Int) * u = (spot : Int) * u + (m2 : Int) * u := by rw [Int.natCast_add, Int.add_mul]
      have hlim : ((spot + m2 : Nat) : Int) * u ≤ 32 * u := Int.mul_le_mul_of_nonneg_right (by omega) (by omega)
      have hlow : 0 ≤ (spot : Int) * u := Int.mul_nonneg (by omega) (by omega)
      have hone : 1 * u ≤ (m2 : Int) * u := Int.mul_le_mul_of_nonneg_right (by omega) (by omega)
      walk_at "rd"
      refine s_ixL hpf (atI_nat (show (bs.map V.bl)[spot]? = some (.bl (bs[spot]'(by omega))) by rw [List.getElem?_map, List.getElem?_eq_getElem]; rfl)) ?_
      walk_at "rd"
      cases bs[spot]'(by omega) with
      | true =>
        walk_at "rd"
        refine s_I (.inl ⟨by omega, by omega⟩) ?_
        walk_at "rd"
        refine s_I (.inl ⟨by omega, by omega⟩) ?_
        walk_at "rd"
        refine s_newD (ds := [.int (f0 + (spot : Int) * u), .int ((m2 : Int) * u)]) (by walk_at "sz") (.two (.int _) (.int _)) (fun bv H5 e5 hbv => ?_)
        have h5 := e5.at0 h2f
        walk_at "rd"
        refine s_append h5 (by
          have : ys.length = rm.length := by rw [hys.len, List.length_map]
          rw [sizeLine_eq]; omega) (fun H6 e6 h6 => ?_)
        walk_at "rd"
        refine ⟨32 - (spot + m2), by omega, spot + m2, rm ++ [(f0 + (spot : Int) * u, (m2 : Int) * u)], _, _, rfl, (ef.then0 e5).trans e6, h6, ?_, ⟨fun b hb => ?_, ?_⟩, fun b hb => ?_, ?_, hw32, rfl⟩
        · rw [List.map_append]
          exact ((hysf.e0 e5).ext e6).append (.one (hbv.ext e6))
        · rcases List.mem_append.mp hb with hb | hb
          · exact hrm.blk b hb
          · rw [List.mem_singleton.mp hb]
            exact ⟨hwd.p2.mul hu, by show 16 ≤ (m2 : Int) * u; omega, by show 0 ≤ f0 + (spot : Int) * u; omega, Int.emod_eq_zero_of_dvd (range_mul hwd.dvd hdv hf), by show f0 + (spot : Int) * u + (m2 : Int) * u ≤ _; omega⟩
        · refine List.pairwise_append.mpr ⟨hrm.ap, List.pairwise_singleton _ _, fun x hx y hy => ?_⟩
          rw [List.mem_singleton.mp hy]
          exact .inl (hen x hx)
        · rcases List.mem_append.mp hb with hb | hb
          · have := hen b hb
            omega
          · rw [List.mem_singleton.mp hb]
            show f0 + (spot : Int) * u + (m2 : Int) * u ≤ _
            omega
        · rw [List.length_append]
          show _ + 1 ≤ _
          omega
      | false =>
        walk_at "rd"
        refine ⟨32 - (spot + m2), by omega, spot + m2, rm, _, _, rfl, ef, h2f, hysf, hrm, fun b hb => ?_, by omega, hw32, rfl⟩
        have := hen b hb
        omega
  · walk_at "rd"
    refine s_tupOfD h2 hys (fun v H3 e3 hv => ?_)
    have hl : rm.length ≤ 32 := by omega
    exact q v rm H3 hrm hl hv (((Ext.mono0 e1).c1 e2 hF).then0 e3)
theorem unit_facts : ∀ j : Nat, j < 13 → 16 ≤ (16 : Int) * 2 ^ j ∧ (16 : Int) * 2 ^ j ≤ 65536 ∧ 32 * ((16 : Int) * 2 ^ j) * (4294967296 / (32 * ((16 : Int) * 2 ^ j))) = 4294967296 ∧ 1 ≤ 4294967296 / (32 * ((16 : Int) * 2 ^ j)) ∧ 4294967296 / (32 * ((16 : Int) * 2 ^ j)) ≤ 8388608 := by decide +kernel
theorem s_p32 {H : Hp} {Q : VK} (q : Q (.int 4294967296) H) : rI CPow (fun i j => V.int (i ^ j.toNat)) (.int 2) (.int 32) H Q := ⟨2, 32, rfl, rfl, ⟨by decide, by decide, by decide⟩, by
  show Q (.int ((2 : Int) ^ (32 : Nat))) H
  rw [show ((2 : Int) ^ (32 : Nat)) = 4294967296 from by decide]
  exact q⟩
abbrev sx_rooms : Stmt := top 54
abbrev N_rooms : List Str := ["_law_source_here", "_law_found", "_law_kind", "_law_unit", "_law_spots", "_law_first"]
theorem sc_rooms : FnScope N_rooms ["_law_source_here"] (defScope sx_rooms) := ⟨rfl, rfl, rfl, by decide +kernel, rfl, by decide +kernel, by decide +kernel⟩
theorem ok_rooms (bi : Bi mg kd) (T : At K mg "_law_rooms" sx_rooms ["_law_source_here"]) (c_below : Cal P w K mg base k "_law_below" spBelow []) (c_pick : Cal P w K mg base k "_law_pick" spPick []) (c_units : Cal P w K mg base k "_law_units" spUnits []) (c_room : Cal P w K mg base k "_law_room" spRoom []) : Cal P w K mg base (k + 1) "_law_rooms" spRooms [] := by
  refine T.ok sc_rooms (fun vs H Q E h => ?_) (fun f cdv A outer s H vs Q E hr h => ?_)
  · obtain ⟨a, l, c, n, rfl, _⟩ := h
    rfl
  have nd := sc_rooms.nd
  obtain ⟨a, l, c, n, rfl, src, q⟩ := h
  refine ⟨_, (pss_cons (ps_set (i := 1) nd rfl (Or.inl rfl) (pe_lst pa_nil))
      (pss_cons (ps_for PassesOwn.never rfl (pi_list (pe_lst (pa_cons pe_str (pa_cons pe_str pa_nil)))) (pg_name (i := 2) nd rfl (Or.inl rfl)) (pss_cons (ps_set (i := 3) nd rfl (Or.inl rfl) (pe_op op_shl pe_int (pe_c c_pick hr (by omega) (by rfl) (pa_cons (pv 0) (pa_cons (pe_lst (pa_cons pe_int (pa_cons pe_int (pa_cons pe_int (pa_cons pe_int (pa_cons pe_int (pa_cons pe_int pa_nil))))))) pa_nil)))))
      (pss_cons (ps_set (i := 4) nd rfl (Or.inl rfl) (pe_lst (pa_cons pe_int (pa_cons (pe_op op_sub (pe_op op_fdivW (pe_op op_pow pe_int pe_int) (pe_op op_mul pe_int (pv 3))) pe_int) (pa_cons (pe_c c_below hr (by omega) (by rfl) (pa_cons (pv 0) (pa_cons (pe_op op_fdivW (pe_op op_pow pe_int pe_int) (pe_op op_mul pe_int (pv 3))) pa_nil))) pa_nil)))))
      (pss_cons (ps_set (i := 5) nd rfl (Or.inl rfl) (pe_op op_add (pe_op op_mul (pe_op op_mul pe_int (pv 3)) (pe_c c_pick hr (by omega) (by rfl) (pa_cons (pv 0) (pa_cons (pv 4) pa_nil)))) (pe_op op_mul (pe_op op_pow pe_int pe_int) (pe_callTy call_intR (by rfl) bi.int (by decide +kernel) (pa_cons (pe_cmpR op_eq (pv 2) pe_str (nomark _)) pa_nil)))))
      (pss_one (ps_expr (pe_bm PySem.F.plainAttrs_list PySem.F.slot_list_append PySem.F.type_list_append mt_append (pv 1) (pa_cons (pe_c c_room hr (by omega) (by rfl) (pa_cons (pe_c c_units hr (by omega) (by rfl) (pa_cons (pv 0) (pa_cons pe_int pa_nil))) (pa_cons (pv 3) (pa_cons (pv 5) pa_nil)))) pa_nil))))))))
      (pss_one (ps_ret (pe_tup (pa_cons (pe_ix ix_list (pv 1) pe_int (fun _ _ => rfl)) (pa_cons (pe_ix ix_list (pv 1) pe_int (fun _ _ => rfl)) pa_nil))))))), ?_⟩
  walk_at "rd"
  refine s_newX (by walk_at "sz") (fun F H1 hF e1 h1 => ?_)
  have hFa := src.ne hF
  walk_at "rd"
  refine s_newX (by walk_at "sz") (fun L H2 hL e2 h2 => ?_)
  have hLa := (src.e0 e1).ne hL
  have hLF : L ≠ F := (ne_some h1 hL).symm
  walk_at "rd"
  refine f_W walk_list (fun i σ H' => ∃ ys rs o2 o3 o4 o5, σ = [some (.ref a), some (.ref F), o2, o3, o4, o5] ∧ Ext [a, l, F] H2 H' ∧ H' F = some (.lst ys) ∧ DtAll H' ys ((rs : List (List Blk)).map encR) ∧ (∀ r ∈ rs, RoomOk r ∧ r.length ≤ 32) ∧ rs.length = i ∧ Src H' a l c (n + 1000 - 300 * i))
    ⟨[], [], _, _, _, _, rfl, .refl, e2.at0 h1, .nil, (fun _ h => nomatch h), rfl, (src.e0 (e1.then0 e2)).le (by omega)⟩ (fun i σ H' _ h => by
      obtain ⟨_, _, _, _, _, _, _, e, _⟩ := h
      exact SqL.of (e.at h2 (ne3 hLa.1 hLa.2.1 hLF))) (fun i x σ H3 H4 hi hP y => ?_) (fun σ H3 hP => ?_)
  · obtain ⟨ys, rs, o2, o3, o4, o5, rfl, e3, h3, hys, hrs, hrl, src3⟩ := hP
    obtain ⟨rfl, hx⟩ := y
    have hi2 : i < 2 := hi
    obtain ⟨kk, rfl⟩ : ∃ kk : Str, x = .str kk := by
      match i, hi2, hx with
      | 0, _, hx => exact ⟨_, (Option.some.inj hx).symm⟩
      | 1, _, hx => exact ⟨_, (Option.some.inj hx).symm⟩
    walk_at "rd"
    refine s_newX (by walk_at "sz") (fun L5 H5 hL5 e5 h5 => ?_)
    have hLa5 := src3.ne hL5
    walk_at "rd"
    refine ⟨a, l, c, n + 1000 - 300 * i - 1, L5, _, rfl, h5, hLa5.1, hLa5.2.1, (fun z => nomatch z), by walk_at "sz", (src3.e0 e5).le (by omega), fun ev H6 hev e6 src6 => ?_⟩
    obtain ⟨j, rfl, hj⟩ : ∃ j : Nat, ev = .int j ∧ j < 13 := by
      simp only [List.mem_cons, List.not_mem_nil, or_false] at hev
      rcases hev with rfl | rfl | rfl | rfl | rfl | rfl
      · exact ⟨0, rfl, by decide⟩
      · exact ⟨6, rfl, by decide⟩
      · exact ⟨8, rfl, by decide⟩
      · exact ⟨8, rfl, by decide⟩
      · exact ⟨9, rfl, by decide⟩
      · exact ⟨12, rfl, by decide⟩
    obtain ⟨u1, u2, u3, u4, u5⟩ := unit_facts j hj
    have hp2 : P2 ((16 : Int) * 2 ^ j) := P2.mul ⟨4, rfl⟩ ⟨j, rfl⟩
    walk_at "rd"
    refine s_I ⟨by omega, by omega, by decide⟩ ?_
    rw [Int.toNat_natCast]
    generalize (16 : Int) * 2 ^ j = u at u1 u2 u3 u4 u5 hp2 ⊢
    have hlg : (32 * u).natAbs.log2 < 9000 := by
      have h2 := (Nat.log2_lt (n := (32 * u).natAbs) (k := 22) (by omega)).mpr (by omega)
      omega
    walk_at "rd"
    refine s_p32 ?_
    walk_at "rd"
    refine s_I (.inl ⟨by decide, by decide⟩) ?_
    walk_at "rd"
    refine s_I ⟨by omega, hlg⟩ ?_
    walk_at "rd"
    refine s_p32 ?_
    walk_at "rd"
    refine s_I (.inl ⟨by decide, by decide⟩) ?_
    walk_at "rd"
    refine s_I ⟨by omega, hlg⟩ ?_
    generalize (4294967296 : Int) / (32 * u) = M at u3 u4 u5 ⊢
    walk_at "rd"
    refine ⟨a, l, c, n + 1000 - 300 * i - 2, M, rfl, by omega, by omega, src6.le (by omega), fun r H7 hr0 hr1 e7 src7 => ?_⟩
    walk_at "rd"
    refine s_newX (by walk_at "sz") (fun L8 H8 hL8 e8 h8 => ?_)
    have hLa8 := src7.ne hL8
    walk_at "rd"
    refine s_I (.inl ⟨by decide, by decide⟩) ?_
    walk_at "rd"
    refine ⟨a, l, c, n + 1000 - 300 * i - 3, L8, _, rfl, h8, hLa8.1, hLa8.2.1, (fun z => nomatch z), by walk_at "sz", (src7.e0 e8).le (by omega), fun yv H9 hyv e9 src9 => ?_⟩
    obtain ⟨y, rfl, hy0, hy1⟩ : ∃ y : Int, yv = .int y ∧ 0 ≤ y ∧ y ≤ M - 1 := by
      simp only [List.mem_cons, List.not_mem_nil, or_false] at hyv
      rcases hyv with rfl | rfl | rfl
      · exact ⟨_, rfl, by decide, by omega⟩
      · exact ⟨_, rfl, by omega, by omega⟩
      · exact ⟨_, rfl, by omega, by omega⟩
    refine s_I (.inl ⟨by omega, by omega⟩) ?_
    walk_at "rd"
    refine s_p32 ?_
    walk_at "rd"
    refine s_I (.inl ⟨by decide, by decide⟩) ?_
    obtain ⟨b, hb, hb2⟩ : ∃ b : Int, (if decide (kk = "far") = true then (1 : Int) else 0) = b ∧ (b = 0 ∨ b = 1) := by
      refine ⟨_, rfl, ?_⟩
      split
      · exact .inr rfl
      · exact .inl rfl
    rw [hb]
    have hy2 : 0 ≤ 32 * u * y := Int.mul_nonneg (by omega) hy0
    have hy3 : 32 * u * y + 32 * u ≤ 4294967296 := by
      have := Int.mul_le_mul_of_nonneg_left (show y + 1 ≤ M by omega) (show 0 ≤ 32 * u by omega)
      rw [Int.mul_add] at this
      omega
    have hdv : 32 * u ∣ 32 * u * y + 4294967296 * b := Int.dvd_add ⟨y, rfl⟩ ⟨M * b, by rw [← Int.mul_assoc, u3]⟩
    have hf0 : 0 ≤ 32 * u * y + 4294967296 * b := by omega
    have hf1 : 32 * u * y + 4294967296 * b + 32 * u ≤ 281474976710656 := by omega
    have e39 := (((Ext.mono0 e5 (M := [a, l])).trans e6).trans e7).then0 e8 |>.trans e9
    have h9 := e39.at h3 (ne2 hFa.1 hFa.2.1)
    walk_at "rd"
    refine ⟨a, l, c, n + 1000 - 300 * i - 290, rfl, src9.le (by omega), fun up bs H10 hup hbl h10 e10 src10 => ?_⟩
    walk_at "rd"
    refine ⟨up, bs, u, _, rfl, h10, hbl, hp2, u1, by omega, hdv, hf0, hf1, fun rv rm H11 hrm hrml hrv e11 => ?_⟩
    have h11 := e11.at0 (e10.at h9 (ne2 hFa.1 hFa.2.1))
    walk_at "rd"
    have e311 := (e39.trans e10).then0 e11
    refine s_append h11 (by
      have : ys.length = rs.length := by rw [hys.len, List.length_map]
      rw [sizeLine_eq]; omega) (fun H12 e12 h12 => ?_)
    walk_at "rd"
    refine ⟨_, rs ++ [rm], _, _, _, _, rfl, (e3.trans (e311.mono nil3)).trans (e12.mono (fun x hx => by rw [List.mem_singleton.mp hx]; simp)), h12, ?_, fun z hz => ?_, by rw [List.length_append, hrl]; rfl, ((src10.e0 e11).e1 e12 hFa).le (by omega)⟩
    · rw [List.map_append]
      exact ((hys.ext e311).ext e12).append (.one (hrv.ext e12))
    · rcases List.mem_append.mp hz with hz | hz
      · exact hrs z hz
      · rw [List.mem_singleton.mp hz]; exact ⟨hrm, hrml⟩
  · obtain ⟨ys, rs, o2, o3, o4, o5, rfl, e3, h3, hys, hrs, hrl, src3⟩ := hP
    have hrl' : rs.length = 2 := hrl
    match rs, hrl', hys, hrs with
    | [rf, re], _, hys, hrs =>
      cases hys with
      | cons g1 g2 => cases g2 with
        | cons g2 g3 =>
          cases g3
          walk_at "rd"
          refine s_ixL h3 rfl ?_
          walk_at "rd"
          refine s_ixL h3 rfl ?_
          walk_at "rd"
          have r1 := hrs rf List.mem_cons_self
          have r2 := hrs re (List.mem_cons_of_mem _ List.mem_cons_self)
          exact s_newD (ds := [.tuple (rf.map encB), .tuple (re.map encB)]) (by walk_at "sz") (.two g1 g2) (fun v H4 e4 hv => q v rf re H4 r1.1 r2.1 r1.2 r2.2 hv ((Ext.d3 (e1.then0 e2) e3 hF).then0 e4) ((src3.e0 e4).le (by show n ≤ n + 1000 - 300 * 2; omega)))
end
end Bw

/-! the law: halves, both, fitting -/
namespace Bw
open PySem PySem.Spec PyProof.Rows L2
open C8 (Cal pe_c pe_gc)
open StX (pa_star tStar)
open RZ (pi_zipA iZipA)
-- the tactics of this text, by key
local macro_rules | `(tactic| walk_at "nm") => `(tactic| first | (intro hmem; cases hmem; done) | (simp only [List.mem_cons, List.mem_singleton, List.not_mem_nil, or_false, not_or, not_false_eq_true]; done) | (simp only [List.mem_cons, List.mem_singleton, List.not_mem_nil, or_false, not_or]; (repeat' apply And.intro) <;> first | assumption | exact Ne.symm (by assumption) | exact ne_some (by assumption) (by assumption) | exact Ne.symm (ne_some (by assumption) (by assumption))))
local macro_rules | `(tactic| walk_at "hx") => `(tactic| first | assumption | exact Dt.non | exact Dt.int _ | exact Dt.str _ | exact Dt.bl _ | (refine Dt.ext (by assumption) ?_; walk_at "hx") | (refine DtAll.ext (by assumption) ?_; walk_at "hx") | (refine Ext.at0 (by assumption) ?_; walk_at "hx") | (refine Ext.tupC (by assumption) ?_; walk_at "hx") | (refine Ext.atC (by assumption) ?_ (by walk_at "nm"); walk_at "hx"))
local macro_rules | `(tactic| walk_at "dm") => `(tactic| first | exact fun _ h => h | (refine dom_step (by assumption) ?_; walk_at "dm"))
local macro_rules | `(tactic| walk_at "fr") => `(tactic| first | assumption | (refine fr_of (by assumption) ?_; walk_at "dm"))
local macro_rules | `(tactic| walk_at "ex") => `(tactic| first | assumption | exact Ext.refl | exact Ext.mono0 (by assumption) | (refine Ext.then0 ?_ (by assumption); walk_at "ex") | (refine Ext.transC ?_ (by assumption); walk_at "ex") | (refine Ext.c1 ?_ (by assumption) (by walk_at "fr"); walk_at "ex") | (refine Ext.cm ?_ (by assumption) (by simp only [List.mem_cons, true_or, or_true]; done); walk_at "ex"))
local macro_rules | `(tactic| walk_at "r1") => `(tactic| first
  | (with_reducible refine s_var rfl ?_) | (with_reducible refine s_c ?_) | (with_reducible refine s_op ?_) | (with_reducible refine s_un ?_) | (with_reducible refine s_I0 ?_) | (with_reducible refine s_U ?_)
  | (with_reducible refine s_eqI ?_) | (with_reducible refine s_eqS ?_) | (with_reducible refine s_eqB ?_) | (with_reducible refine s_neI ?_) | (with_reducible refine s_neS ?_) | (with_reducible refine s_neB ?_)
  | (with_reducible refine s_isN1 ?_) | (with_reducible refine s_isN0 ?_) | (with_reducible refine s_notN1 ?_) | (with_reducible refine s_notN0 ?_) | (with_reducible refine s_isBl ?_) | (with_reducible refine s_notBl ?_)
  | (with_reducible refine s_test ?_) | (with_reducible refine s_B ?_) | (with_reducible refine s_bl ?_) | (with_reducible refine s_and ?_) | (with_reducible refine s_or ?_) | (with_reducible refine s_not ?_)
  | (with_reducible refine s_andV ?_) | (with_reducible refine s_orV ?_) | (with_reducible refine s_notV ?_) | (with_reducible refine s_ifE ?_) | (with_reducible refine s_chain ?_)
  | (with_reducible refine s_next ?_) | (with_reducible refine s_seq ?_) | (with_reducible refine s_drop ?_) | (with_reducible refine s_ret ?_) | (with_reducible refine s_retN ?_) | (with_reducible refine s_ifS ?_) | (with_reducible refine s_asg ?_)
  | ((with_reducible refine g_name ?_); refine s_name (by first | rfl) ?_) | (with_reducible refine s_parS ?_) | (with_reducible refine s_par ?_) | ((with_reducible refine g_nx ?_); refine s_nx rfl ?_) | (with_reducible refine s_gsub ?_) | (with_reducible refine s_gnil ?_) | (with_reducible refine s_gcons ?_)
  | (with_reducible refine s_call ?_) | (with_reducible refine s_cb ?_) | (with_reducible refine s_nil ?_) | (with_reducible refine s_cons ?_) | (with_reducible refine s_tupT ?_) | (with_reducible refine s_lstT ?_)
  | (with_reducible refine s_sl ?_) | (with_reducible refine s_nopart ?_) | (with_reducible refine s_part ?_) | (with_reducible refine s_int ?_) | (with_reducible refine s_bm ?_) | (with_reducible refine s_dget ?_) | (with_reducible refine s_dputS ?_)
  | (with_reducible refine s_forS ?_) | (with_reducible refine s_lc ?_) | (with_reducible refine s_iTup ?_) | (with_reducible refine s_iList ?_) | (with_reducible refine s_iRng1 ?_) | (with_reducible refine s_iRng2 ?_) | (with_reducible refine s_tYes ?_) | (with_reducible refine s_intI ?_) | (with_reducible refine s_intB ?_) | (with_reducible refine s_min2 ?_) | (with_reducible refine s_max2 ?_) | (with_reducible refine s_abs ?_) | (with_reducible refine s_revL ?_) | (with_reducible refine s_iEnumT ?_) | (with_reducible refine s_iEnum ?_) | (with_reducible refine s_iZipA ?_) | (with_reducible refine s_iZipM ?_) | (with_reducible refine s_iZip ?_) | (with_reducible refine s_iStr ?_) | (with_reducible refine s_star ?_) | (with_reducible refine s_lc2 ?_) | (with_reducible refine s_dc ?_) | (with_reducible refine s_bm ?_)
  | (with_reducible refine isi_int _ ?_) | (with_reducible refine isi_intB _ ?_) | (with_reducible refine isi_str _ ?_) | (with_reducible refine isi_non ?_)
  | (with_reducible refine iteT ?_) | (with_reducible refine iteF ?_) | (with_reducible refine iteNT ?_) | (with_reducible refine iteNF ?_))
local macro_rules | `(tactic| walk_at "r2") => `(tactic| first
  | ((with_reducible refine g_ixT ?_); first | (refine s_ixT (by walk_at "hx") rfl ?_) | (refine s_ixDs (by walk_at "hx") rfl ?_) | (refine s_ixDi (by walk_at "hx") rfl ?_) | (refine s_ixD (by walk_at "hx") rfl (fun _ _ => ?_)) | (refine s_ixD0s (by walk_at "hx") ?_))
  | ((with_reducible refine g_form ?_); first | (refine isDev_non ?_) | (refine isBr_non ?_) | (refine isDev_dev (by walk_at "hx") ?_) | (refine isDev_br (by walk_at "hx") ?_) | (refine isBr_dev (by walk_at "hx") ?_) | (refine isBr_br (by walk_at "hx") ?_))
  | ((with_reducible refine g_isi ?_); first | (with_reducible refine isi_dt (by walk_at "hx") ?_) | (with_reducible refine isi_tup (by walk_at "hx") ?_))
  | ((with_reducible refine g_len ?_); first | (with_reducible refine s_lenL (by walk_at "hx") ?_) | (with_reducible refine s_lenT (by walk_at "hx") ?_) | (with_reducible refine s_lenD (by walk_at "hx") ?_))
  | ((with_reducible refine g_ty ?_); first | (refine s_tyK (by assumption) ?_) | (with_reducible refine s_tyL (by walk_at "hx") ?_))
  | ((with_reducible refine g_tix ?_); first | (refine s_idx0 (by assumption) ?_) | (refine s_idx1 (by assumption) ?_))
  | ((with_reducible refine g_enT ?_); with_reducible refine s_enT (by walk_at "hx") ?_) | ((with_reducible refine g_enL ?_); with_reducible refine s_enL (by walk_at "hx") ?_)
  | ((with_reducible refine g_za ?_); first | (with_reducible refine s_zaT2 (by walk_at "hx") (by walk_at "hx") ?_) | (with_reducible refine s_zaL (by walk_at "hx") (by walk_at "hx") ?_))
  | ((with_reducible refine g_zm ?_); first | (with_reducible refine s_zmT (by walk_at "hx") (by walk_at "hx") ?_) | (with_reducible refine s_zmL (by walk_at "hx") (by walk_at "hx") ?_))
  | ((with_reducible refine g_zl ?_); with_reducible refine s_zl (by walk_at "hx") (by walk_at "hx") ?_)
  | ((with_reducible refine g_itT ?_); with_reducible refine s_itT (by walk_at "hx") ?_) | ((with_reducible refine g_itL ?_); with_reducible refine s_itL (by walk_at "hx") ?_)
  | ((with_reducible refine g_gtup ?_); refine s_gtup (by walk_at "hx") rfl ?_))
local macro_rules | `(tactic| walk_at "rd") => `(tactic| repeat (first | walk_at "r1" | walk_at "r2"))
local macro_rules | `(tactic| walk_at "sz") => `(tactic| (simp only [List.length_cons, List.length_nil, List.length_append, List.length_map, sizeLine_eq] <;> omega))
theorem cut_drop1 (ys : List V) : cutV ys (some 1) none = ys.drop 1 := by
  unfold cutV
  rw [show HT.sIx ys.length 0 (some 1) = min 1 ys.length from HT.sIx_nat _ _ 1, show HT.sIx ys.length ys.length none = ys.length from rfl]
  rcases ys with _ | ⟨y, r⟩
  · rfl
  · rw [show min 1 (y :: r).length = 1 by rw [List.length_cons]; omega]
    rw [List.take_of_length_le (by rw [List.length_drop]; exact Nat.le_refl _)]
def encP (p : Blk × Blk) : PyData := .tuple [encB p.1, encB p.2]
structure JOk (bl : List Blk) (p : Blk × Blk) : Prop where
  m1 : p.1 ∈ bl
  m2 : p.2 ∈ bl
  hv : isHalves p.1 p.2 = true
theorem canLay_encB (b : Blk) : PyData.canLay0 (encB b) = true := rfl
theorem depth_encB (b : Blk) : PyData.depth (encB b) = 1 := rfl
theorem plain_encP : ∀ ps : List (Blk × Blk), Plain (ps.map encP)
  | [] => plain_nil
  | p :: r => ⟨by
    show (PyData.canLay0 (encP p) && PyData.canLayAll0 (r.map encP)) = true
    rw [(plain_encP r).1]
    rfl, by
    show max (PyData.depth (encP p)) (PyData.depthAll (r.map encP)) ≤ 60
    have := (plain_encP r).2
    have : PyData.depth (encP p) = 2 := rfl
    omega⟩
theorem plain_encBs : ∀ ps : List Blk, Plain (ps.map encB)
  | [] => plain_nil
  | p :: r => ⟨by
    show (PyData.canLay0 (encB p) && PyData.canLayAll0 (r.map encB)) = true
    rw [(plain_encBs r).1]
    rfl, by
    show max (PyData.depth (encB p)) (PyData.depthAll (r.map encB)) ≤ 60
    have := (plain_encBs r).2
    have : PyData.depth (encB p) = 1 := rfl
    omega⟩
theorem shaped_encB (b : Blk) : SeqAt.shaped (encB b) = true := shaped_tup (plain_ints [b.1, b.2])
theorem eqv_encB (b : Blk) : PyData.eqv (encB b) (encB b) = true := by
  show PyData.eqvAll [.int b.1, .int b.2] [.int b.1, .int b.2] = true
  simp [PyData.eqvAll, PyData.eqv]
theorem RoomOk.perm {xs ys : List Blk} (h : ys.Perm xs) (r : RoomOk xs) : RoomOk ys := ⟨fun b hb => r.blk b (h.mem_iff.mp hb), apart_perm h r.ap⟩
theorem RoomOk.sub {xs ys : List Blk} (h : ys.Sublist xs) (r : RoomOk xs) : RoomOk ys := ⟨fun b hb => r.blk b (h.subset hb), r.ap.sublist h⟩
theorem RoomOk.two : ∀ {xs : List Blk}, RoomOk xs → ∀ x ∈ xs, ∀ y ∈ xs, x ≠ y → Apart x y
  | [], _, x, hx, _, _, _ => by cases hx
  | z :: r, h, x, hx, y, hy, ne => by
    obtain ⟨h1, h2⟩ := List.pairwise_cons.mp h.ap
    rcases List.mem_cons.mp hx with ex | hx' <;> rcases List.mem_cons.mp hy with ey | hy'
    · exact absurd (ex.trans ey.symm) ne
    · rw [ex]; exact h1 y hy'
    · rw [ey]; exact (h1 x hx').symm
    · exact RoomOk.two (h.sub (List.sublist_cons_self _ _)) x hx' y hy' ne
/-- two blocks that are halves of one, joined -/
theorem join_ok {bl bs : List Blk} {p : Blk × Blk} {hi : Int} (h : RoomOk bl) (j : JOk bl p) (hs : bs.Sublist bl) (n1 : p.1 ∉ bs) (n2 : p.2 ∉ bs) (he : ∀ x ∈ bl, x.1 + x.2 ≤ hi) :
    RoomOk (bs ++ [(p.1.1, 2 * p.1.2)]) ∧ (∀ x ∈ bs ++ [(p.1.1, 2 * p.1.2)], x.1 + x.2 ≤ hi) ∧ bs.length + 2 ≤ bl.length := by
  obtain ⟨low, high⟩ := p
  obtain ⟨m1, m2, hv⟩ := j
  have m1 : low ∈ bl := m1
  have m2 : high ∈ bl := m2
  have n1 : low ∉ bs := n1
  have n2 : high ∉ bs := n2
  have hv : isHalves low high = true := hv
  unfold isHalves at hv
  rw [Bool.and_eq_true, Bool.and_eq_true] at hv
  have v1 := of_decide_eq_true hv.1
  have v2 := of_decide_eq_true hv.2.1
  have v3 := of_decide_eq_true hv.2.2
  have b1 := h.blk low m1
  have b2 := h.blk high m2
  have hg1 := b1.big
  have hg2 := b2.big
  have hh2 := b2.hi
  have hl1 := b1.lo
  have hne : high ≠ low := fun z => by rw [z] at v2; omega
  refine ⟨⟨fun b hb => ?_, ?_⟩, fun x hx => ?_, ?_⟩
  · rcases List.mem_append.mp hb with hb | hb
    · exact h.blk b (hs.subset hb)
    · rw [List.mem_singleton.mp hb]
      exact ⟨b1.p2.two, by show 16 ≤ 2 * low.2; omega, hl1, v3, by show low.1 + 2 * low.2 ≤ _; omega⟩
  · refine List.pairwise_append.mpr ⟨(h.sub hs).ap, List.pairwise_singleton _ _, fun x hx y hy => ?_⟩
    rw [List.mem_singleton.mp hy]
    have xb := hs.subset hx
    have a1 := h.two x xb low m1 (fun z => n1 (z ▸ hx))
    have a2 := h.two x xb high m2 (fun z => n2 (z ▸ hx))
    have hxg := (h.blk x xb).big
    unfold Apart at a1 a2 ⊢
    show x.1 + x.2 ≤ low.1 ∨ low.1 + 2 * low.2 ≤ x.1
    omega
  · rcases List.mem_append.mp hx with hx | hx
    · exact he x (hs.subset hx)
    · rw [List.mem_singleton.mp hx]
      have := he high m2
      show low.1 + 2 * low.2 ≤ hi
      omega
  · have s1 : bs.Sublist (bl.erase low) := by
      have := hs.erase low
      rwa [List.erase_of_not_mem n1] at this
    have hm : high ∈ bl.erase low := (List.mem_erase_of_ne hne).mpr m2
    have l1 : (bl.erase low).length = bl.length - 1 := List.length_erase_of_mem m1
    have l2 := List.length_pos_of_mem m1
    have l3 := s1.length_le
    have l4 : bs.length ≠ (bl.erase low).length := fun z => n2 ((s1.eq_of_length z) ▸ hm)
    have l5 := List.length_pos_of_mem hm
    omega
section
variable {P : Program} {w : World} {K : PySem.W.Frag} {mg : Str → Option Value} {base : Heap} {kd : Addr} {k : Nat}
abbrev sx_halves : Stmt := top 55
abbrev N_halves : List Str := ["_law_one", "_law_other"]
theorem sc_halves : FnScope N_halves ["_law_one", "_law_other"] (defScope sx_halves) := ⟨rfl, rfl, rfl, by decide +kernel, rfl, by decide +kernel, by decide +kernel⟩
theorem ok_halves (bi : Bi mg kd) (T : At K mg "_law_halves" sx_halves ["_law_one", "_law_other"]) : Cal P w K mg base (k + 1) "_law_halves" spHalves [] := by
  refine T.ok sc_halves (fun vs H Q E h => ?_) (fun f cdv A outer s H vs Q E hr h => ?_)
  · obtain ⟨v, u, b, c, rfl, _⟩ := h
    rfl
  have nd := sc_halves.nd
  obtain ⟨v, u, b, c, rfl, hv, hu, hb, q⟩ := h
  unfold encB at hv hu
  refine ⟨_, (pss_one (ps_ret (pe_and (pe_cmpR op_eq (pe_ix ix_tup (pv 0) pe_int (fun _ _ => rfl)) (pe_ix ix_tup (pv 1) pe_int (fun _ _ => rfl)) (nomark _)) (pe_and (pe_cmpR op_eq (pe_op op_add (pe_ix ix_tup (pv 0) pe_int (fun _ _ => rfl)) (pe_ix ix_tup (pv 0) pe_int (fun _ _ => rfl))) (pe_ix ix_tup (pv 1) pe_int (fun _ _ => rfl)) (nomark _)) (pe_one (pe_cmpR op_eq (pe_op op_mod (pe_ix ix_tup (pv 0) pe_int (fun _ _ => rfl)) (pe_op op_mul pe_int (pe_ix ix_tup (pv 0) pe_int (fun _ _ => rfl)))) pe_int (nomark _))))))), ?_⟩
  walk_at "rd"
  refine ifd (fun h1 => ?_) (fun h1 => ?_)
  · walk_at "rd"
    refine ifd (fun h2 => ?_) (fun h2 => ?_)
    · walk_at "rd"
      refine s_I (.inl ⟨by decide, by decide⟩) ?_
      refine s_I (show 0 < 2 * b.2 by omega) ?_
      walk_at "rd"
      exact cb (by unfold isHalves; rw [decide_eq_true h1, decide_eq_true h2]; rfl) q
    · exact cb (by unfold isHalves; rw [decide_eq_false h2, Bool.false_and, Bool.and_false]) q
  · exact cb (by unfold isHalves; rw [decide_eq_false h1, Bool.false_and]) q
abbrev sx_both : Stmt := top 56
abbrev N_both : List Str := ["_law_room_here", "_law_block", "_law_blocks", "_law_joined", "_law_low", "_law_high", "_law_pair", "_law_one"]
theorem sc_both : FnScope N_both ["_law_room_here", "_law_block"] (defScope sx_both) := ⟨rfl, rfl, rfl, by decide +kernel, rfl, by decide +kernel, by decide +kernel⟩
theorem ok_both (bi : Bi mg kd) (T : At K mg "_law_both" sx_both ["_law_room_here", "_law_block"]) (c_halves : Cal P w K mg base k "_law_halves" spHalves []) : Cal P w K mg base (k + 1) "_law_both" spBoth [] := by
  refine T.ok sc_both (fun vs H Q E h => ?_) (fun f cdv A outer s H vs Q E hr h => ?_)
  · obtain ⟨v, u, rm, b, rfl, _⟩ := h
    rfl
  have nd := sc_both.nd
  obtain ⟨v, u, rm, b, rfl, hv, hu, hrm, hb, hen, hrl, q⟩ := h
  obtain ⟨a, xs, rfl, ha, hs⟩ := hv.tupE
  have hxl : xs.length = rm.length := by rw [hs.len, List.length_map]
  have hrm1 : RoomOk (rm ++ [b]) := ⟨fun x hx => (List.mem_append.mp hx).elim (hrm.blk x) (fun h => by rw [List.mem_singleton.mp h]; exact hb), List.pairwise_append.mpr ⟨hrm.ap, List.pairwise_singleton _ _, fun x hx y hy => by rw [List.mem_singleton.mp hy]; exact .inl (hen x hx)⟩⟩
  have hbg := hb.big
  have hen1 : ∀ x ∈ rm ++ [b], x.1 + x.2 ≤ b.1 + b.2 := fun x hx => (List.mem_append.mp hx).elim (fun h => by have := hen x h; omega) (fun h => by rw [List.mem_singleton.mp h]; omega)
  refine ⟨_, (pss_cons (ps_set (i := 2) nd rfl (Or.inl rfl) (pe_callB cr_sortedPO (by rfl) bi.sorted (by decide +kernel) (pa_cons (pe_op op_cat (pe_lc (own := [("_law_one", 7)]) (g := gName 7) (by rfl) nd (pi_tup (pv 0)) (blkOk_by (own := [("_law_one", 7)]) (N := N_both) (sc := defScope sx_both) (by decide +kernel)) (fun _ _ _ _ _ => (pg_name (i := 7) nd rfl (Or.inl rfl))) (fun _ _ _ _ _ => pts_nil) (fun _ _ _ _ _ => (pv 7))) (pe_lst (pa_cons (pv 1) pa_nil))) pa_nil)))
      (pss_cons (ps_setLc (i := 3) (own := [("_law_pair", 6)]) (g := gName 6) (by rfl) nd rfl rfl (sw_true rfl rfl rfl (by decide +kernel)) (pi_zipN (by rfl) bi.zip (pa_cons (pv 2) (pa_cons (pe_slice sl_list (pv 2) (po_some pe_int) po_none) pa_nil))) (blkOk_by (own := [("_law_pair", 6)]) (N := N_both) (sc := defScope sx_both) (by decide +kernel)) (fun _ _ _ _ _ => (pg_name (i := 6) nd rfl (Or.inl rfl))) (fun _ _ _ _ _ => pts_one (pt_val (pe_c c_halves hr (by omega) (by rfl) (pa_cons (pe_ix (ix_tupK (K := K) rfl) (pv 6) pe_int (fun _ _ => rfl)) (pa_cons (pe_ix (ix_tupK (K := K) rfl) (pv 6) pe_int (fun _ _ => rfl)) pa_nil))))) (fun _ _ _ _ _ => (pv 6)))
      (pss_cons (ps_while PassesOwn.never (pt_cmpR (op_neD hr.units) (pv 3) (pe_lst pa_nil) (nomark _)) (pss_cons (ps_asg (pe_ix ix_list (pv 3) pe_int (fun _ _ => rfl)) (pg_tup rfl (pgs_cons (pg_name (i := 4) nd rfl (Or.inr rfl)) (pgs_cons (pg_name (i := 5) nd rfl (Or.inr rfl)) pgs_nil))))
      (pss_cons (ps_set (i := 2) nd rfl (Or.inl rfl) (pe_callB cr_sortedPO (by rfl) bi.sorted (by decide +kernel) (pa_cons (pe_op op_cat (pe_lc (own := [("_law_one", 7)]) (g := gName 7) (by rfl) nd (pi_list (pv 2)) (blkOk_by (own := [("_law_one", 7)]) (N := N_both) (sc := defScope sx_both) (by decide +kernel)) (fun _ _ _ _ _ => (pg_name (i := 7) nd rfl (Or.inl rfl))) (fun _ _ _ _ _ => pts_one (PW.pt (pw_and (pt_cmpR (op_neDK (K := K) rfl hr.units) (pv 7) (pv 4) (nomark _)) (pw_and1 (pt_cmpR (op_neDK (K := K) rfl hr.units) (pv 7) (pv 5) (nomark _)))))) (fun _ _ _ _ _ => (pv 7))) (pe_lst (pa_cons (pe_tup (pa_cons (pe_ix ix_tup (pv 4) pe_int (fun _ _ => rfl)) (pa_cons (pe_op op_mul pe_int (pe_ix ix_tup (pv 4) pe_int (fun _ _ => rfl))) pa_nil))) pa_nil))) pa_nil)))
      (pss_one (ps_setLc (i := 3) (own := [("_law_pair", 6)]) (g := gName 6) (by rfl) nd rfl rfl (sw_true rfl rfl rfl (by decide +kernel)) (pi_zipN (by rfl) bi.zip (pa_cons (pv 2) (pa_cons (pe_slice sl_list (pv 2) (po_some pe_int) po_none) pa_nil))) (blkOk_by (own := [("_law_pair", 6)]) (N := N_both) (sc := defScope sx_both) (by decide +kernel)) (fun _ _ _ _ _ => (pg_name (i := 6) nd rfl (Or.inl rfl))) (fun _ _ _ _ _ => pts_one (pt_val (pe_c c_halves hr (by omega) (by rfl) (pa_cons (pe_ix (ix_tupK (K := K) rfl) (pv 6) pe_int (fun _ _ => rfl)) (pa_cons (pe_ix (ix_tupK (K := K) rfl) (pv 6) pe_int (fun _ _ => rfl)) pa_nil))))) (fun _ _ _ _ _ => (pv 6)))))))
      (pss_one (ps_ret (pe_callTy (call_tupR (K := K) rfl) (by rfl) bi.tuple (by decide +kernel) (pa_cons (pv 2) pa_nil))))))), ?_⟩
  walk_at "rd"
  refine lc_W walk_tup [] (fun i acc H' => acc = xs.take i) (fun H' e => SqT.of (e.tup _ _ ha)) (fun _ _ => rfl) (fun i x D acc H1 H2 hi hD e hacc hl hR y => ?_) (fun D acc H1 hD e1 hacc hl hR => ?_)
  · obtain ⟨rfl, hx⟩ := y
    subst hR
    walk_at "rd"
    refine ⟨rfl, ?_⟩
    walk_at "rd"
    refine lc_put hD e hacc hl (by omega) (fun _ _ => ?_)
    rw [take1 hx]
  rw [List.take_length] at hR
  subst hR
  walk_at "rd"
  refine s_newX (by walk_at "sz") (fun p2 H2 hp2 e2 h2 => ?_)
  refine s_cat (e2.at0 hacc) h2 (by rw [sizeLine_eq]; show _ + 1 ≤ _; omega) (fun p3 H3 hp3 e3 h3 => ?_)
  walk_at "rd"
  have e13 := (e1.then0 e2).then0 e3
  refine s_sortB (bs := rm ++ [b]) h3 (by rw [List.map_append]; exact (hs.e0 e13).append (.one (hu.e0 e13))) (fun B ys bl H4 hperm _ hB e4 h4 hys => ?_)
  have hbl := hrm1.perm hperm
  have hbe : ∀ x ∈ bl, x.1 + x.2 ≤ b.1 + b.2 := fun x hx => hen1 x (hperm.mem_iff.mp hx)
  have hbll : bl.length = rm.length + 1 := by rw [hperm.length_eq, List.length_append]; rfl
  walk_at "rd"
  refine s_slL h4 (fun S1 HS1 hS1 eS1 hs1 => ?_)
  rw [cut_drop1] at hs1
  walk_at "rd"
  have hB1' := eS1.at0 h4
  walk_at "rd"
  refine lc_W (walk_zip (n := min ys.length (ys.drop 1).length) rfl) [] (fun i acc H' => ∃ ps : List (Blk × Blk), DtAll H' acc (ps.map encP) ∧ ∀ pr ∈ ps, JOk bl pr) (fun H' e => ⟨SqL.of (e.at0 hB1'), SqL.of (e.at0 hs1)⟩) (fun _ _ => ⟨[], .nil, fun _ h => nomatch h⟩) (fun i x D acc H3 H4 hi hD e hacc hl hR y => ?_) (fun J1 zs1 HJ1 hJ1 eJ1 hz1 hzl1 hR1 => ?_)
  · obtain ⟨T2, x1, z1, rfl, hT, e4, hT2, hx1, hz1⟩ := YPair.get y
    obtain ⟨ps, hps, hok⟩ := hR
    obtain ⟨d1, hd1, hxd⟩ := hys.getV hx1
    obtain ⟨b1, hb1, rfl⟩ := map_at hd1
    rw [show (ys.drop 1)[i]? = ys[i + 1]? by rw [List.getElem?_drop, Nat.add_comm]] at hz1
    obtain ⟨d2, hd2, hzd⟩ := hys.getV hz1
    obtain ⟨b2, hb2, rfl⟩ := map_at hd2
    have eH4 := (eS1.then0 e).then0 e4
    have hxd2 := hxd.e0 eH4
    have hzd2 := hzd.e0 eH4
    have hpos := (hbl.blk b1 (mem_at hb1)).big
    clear y
    have hyl1 : ys.length = bl.length := by rw [hys.len, List.length_map]
    walk_at "rd"
    refine ⟨rfl, ?_⟩
    walk_at "rd"
    refine ⟨_, _, b1, b2, rfl, hxd2, hzd2, by omega, ?_⟩
    walk_at "rd"
    cases hh : isHalves b1 b2 with
    | true =>
      refine iteT ?_
      walk_at "rd"
      refine lc_put hD (e.then0 e4) (e4.at0 hacc) hl (by omega) (fun H5 e5 => ⟨ps ++ [(b1, b2)], ?_, fun pr hpr => ?_⟩)
      · rw [List.map_append]
        exact ((hps.e0 e4).ext e5).append (.one (.tup (e5.tup _ _ hT2) (.two (hxd2.ext e5) (hzd2.ext e5))))
      · rcases List.mem_append.mp hpr with hpr | hpr
        · exact hok pr hpr
        · rw [List.mem_singleton.mp hpr]
          exact ⟨mem_at hb1, mem_at hb2, hh⟩
    | false =>
      refine iteF ?_
      exact lc_skip (e.then0 e4) (e4.at0 hacc) hl ⟨ps, hps.e0 e4, hok⟩
  · obtain ⟨ps1, hps1, hok1⟩ := hR1
    have eSJ1 := eS1.then0 eJ1
    walk_at "rd"
    refine s_while (fun m σ H' => ∃ B J ys zs bl ps o4 o5 o6 o7, σ = [some (.ref a), some u, some (.ref B), some (.ref J), o4, o5, o6, o7] ∧ Ext [] H4 H' ∧ H' B = some (.lst ys) ∧ DtAll H' ys (bl.map encB) ∧ RoomOk bl ∧ (∀ x ∈ bl, x.1 + x.2 ≤ b.1 + b.2) ∧ bl.length ≤ rm.length + 1 ∧ H' J = some (.lst zs) ∧ DtAll H' zs (ps.map encP) ∧ (∀ pr ∈ ps, JOk bl pr) ∧ m = bl.length)
      (m0 := bl.length) ⟨B, J1, ys, zs1, bl, ps1, _, _, _, _, rfl, eSJ1, eSJ1.at0 h4, hys.e0 eSJ1, hbl, hbe, by omega, hz1, hps1, hok1, rfl⟩ (fun m σ H5 h => ?_)
    clear hok1 hps1 hz1 hys h4 hbl hbe hbll hperm
    obtain ⟨B, J, ys, zs, bl, ps, o4, o5, o6, o7, rfl, e5, h5, hys, hbl, hbe, hbll, hz, hps, hok, rfl⟩ := h
    walk_at "rd"
    refine s_newX (by walk_at "sz") (fun p6 H6 hp6 e6 h6 => ?_)
    refine s_neNil (e6.at0 hz) (hps.e0 e6) (plain_encP _) h6 ?_
    walk_at "rd"
    refine ifn (fun c => ?_) (fun c => ?_)
    · obtain ⟨pr, prs, rfl⟩ : ∃ pr prs, ps = pr :: prs := by
        cases ps with
        | nil => exact absurd rfl c
        | cons pr prs => exact ⟨pr, prs, rfl⟩
      have hj := hok pr List.mem_cons_self
      refine ⟨_, fun σ' H' h => h, ?_⟩
      have hz6 := e6.at0 hz
      have hps6 := hps.e0 e6
      have h56 := e6.at0 h5
      have hys6 := hys.e0 e6
      obtain ⟨pv, pvs, rfl⟩ : ∃ pv pvs, zs = pv :: pvs := by
        cases hps6 with
        | cons g1 g2 => exact ⟨_, _, rfl⟩
      obtain ⟨tp, lo, hi, rfl, htp, hlo, hhi⟩ : ∃ tp lo hi, pv = .ref tp ∧ H6 tp = some (.tup [lo, hi]) ∧ Dt H6 lo (encB pr.1) ∧ Dt H6 hi (encB pr.2) := by
        cases hps6 with
        | cons g1 g2 =>
          obtain ⟨tp, xs2, rfl, htp, hxs2⟩ := Dt.tupE g1
          cases hxs2 with
          | cons k1 k2 => cases k2 with
            | cons k2 k3 =>
              cases k3
              exact ⟨tp, _, _, rfl, htp, k1, k2⟩
      walk_at "rd"
      refine s_ixL hz6 (atI_zero _ _) ?_
      walk_at "rd"
      have hyl : ys.length = bl.length := by rw [hys.len, List.length_map]
      refine lc_W walk_list [] (fun i acc H' => ∃ bs, DtAll H' acc (bs.map encB) ∧ bs.Sublist (bl.take i) ∧ pr.1 ∉ bs ∧ pr.2 ∉ bs) (fun H' e => SqL.of (e.at0 h56)) (fun _ _ => ⟨[], .nil, List.Sublist.refl _, (fun h => nomatch h), (fun h => nomatch h)⟩) (fun i x D acc H7 H8 hi hD e hacc hl hR y => ?_) (fun D acc H7 hD e7 hacc hl hR => ?_)
      · obtain ⟨rfl, hx⟩ := y
        obtain ⟨bs, hbs, hsub, n1, n2⟩ := hR
        obtain ⟨d, hd, hxd0⟩ := hys6.getV hx
        obtain ⟨b1, hb1, rfl⟩ := map_at hd
        have hxd := hxd0.e0 e
        have htk := take1 hb1
        have skip : bs.Sublist (bl.take (i + 1)) := by rw [htk]; exact hsub.trans (List.sublist_append_left _ _)
        walk_at "rd"
        refine ⟨rfl, ?_⟩
        walk_at "rd"
        refine s_neD hxd (hlo.e0 e) (shaped_encB _) (shaped_encB _) ?_
        walk_at "rd"
        cases q1 : PyData.eqv (encB b1) (encB pr.1) with
        | true =>
          walk_at "rd"
          exact lc_skip e hacc hl ⟨bs, hbs, skip, n1, n2⟩
        | false =>
          walk_at "rd"
          refine s_neD hxd (hhi.e0 e) (shaped_encB _) (shaped_encB _) ?_
          walk_at "rd"
          cases q2 : PyData.eqv (encB b1) (encB pr.2) with
          | true =>
            walk_at "rd"
            exact lc_skip e hacc hl ⟨bs, hbs, skip, n1, n2⟩
          | false =>
            walk_at "rd"
            refine lc_put hD e hacc hl (by omega) (fun H9 e9 => ⟨bs ++ [b1], ?_, ?_, fun z => ?_, fun z => ?_⟩)
            · rw [List.map_append]
              exact (hbs.ext e9).append (.one (hxd.ext e9))
            · rw [htk]; exact List.Sublist.append hsub (List.Sublist.refl _)
            · rcases List.mem_append.mp z with z | z
              · exact n1 z
              · rw [List.mem_singleton.mp z, eqv_encB] at q1; cases q1
            · rcases List.mem_append.mp z with z | z
              · exact n2 z
              · rw [List.mem_singleton.mp z, eqv_encB] at q2; cases q2
      · obtain ⟨bs, hbs, hsub, n1, n2⟩ := hR
        rw [hyl, List.take_length] at hsub
        obtain ⟨j1, j2, j3⟩ := join_ok hbl hj hsub n1 n2 hbe
        have hlo7 := hlo.e0 e7
        unfold encB at hlo7
        walk_at "rd"
        refine s_I (.inl ⟨by decide, by decide⟩) ?_
        walk_at "rd"
        refine s_newD (ds := [.int pr.1.1, .int (2 * pr.1.2)]) (by walk_at "sz") (.two (.int _) (.int _)) (fun nv H8 e8 hnv => ?_)
        walk_at "rd"
        refine s_newX (by walk_at "sz") (fun p9 H9 hp9 e9 h9 => ?_)
        have hal : acc.length = bs.length := by rw [hbs.len, List.length_map]
        refine s_cat ((e8.then0 e9).at0 hacc) h9 (by rw [sizeLine_eq]; show _ + 1 ≤ _; omega) (fun p10 H10 hp10 e10 h10 => ?_)
        walk_at "rd"
        have e810 := (e8.then0 e9).then0 e10
        refine s_sortB (bs := bs ++ [(pr.1.1, 2 * pr.1.2)]) h10 (by rw [List.map_append]; exact (hbs.e0 e810).append (.one ((hnv.e0 e9).e0 e10))) (fun B2 ys2 bl2 H11 hperm2 _ hB2 e11 h11 hys2 => ?_)
        have hbl2 := j1.perm hperm2
        have hbe2 : ∀ x ∈ bl2, x.1 + x.2 ≤ b.1 + b.2 := fun x hx => j2 x (hperm2.mem_iff.mp hx)
        have hbll2 : bl2.length = bs.length + 1 := by rw [hperm2.length_eq, List.length_append]; rfl
        walk_at "rd"
        refine s_slL h11 (fun S2 HS2 hS2 eS2 hs2 => ?_)
        rw [cut_drop1] at hs2
        walk_at "rd"
        have hB2' := eS2.at0 h11
        walk_at "rd"
        refine lc_W (walk_zip (n := min ys2.length (ys2.drop 1).length) rfl) [] (fun i acc H' => ∃ ps : List (Blk × Blk), DtAll H' acc (ps.map encP) ∧ ∀ pr ∈ ps, JOk bl2 pr) (fun H' e => ⟨SqL.of (e.at0 hB2'), SqL.of (e.at0 hs2)⟩) (fun _ _ => ⟨[], .nil, fun _ h => nomatch h⟩) (fun i x D acc H3 H4 hi hD e hacc hl hR y => ?_) (fun J2 zs2 HJ2 hJ2 eJ2 hz2 hzl2 hR2 => ?_)
        · obtain ⟨T2, x1, z1, rfl, hT, e4, hT2, hx1, hz1⟩ := YPair.get y
          obtain ⟨ps, hps, hok⟩ := hR
          obtain ⟨d1, hd1, hxd⟩ := hys2.getV hx1
          obtain ⟨b1, hb1, rfl⟩ := map_at hd1
          rw [show (ys2.drop 1)[i]? = ys2[i + 1]? by rw [List.getElem?_drop, Nat.add_comm]] at hz1
          obtain ⟨d2, hd2, hzd⟩ := hys2.getV hz1
          obtain ⟨b2, hb2, rfl⟩ := map_at hd2
          have eH4 := (eS2.then0 e).then0 e4
          have hxd2 := hxd.e0 eH4
          have hzd2 := hzd.e0 eH4
          have hpos := (hbl2.blk b1 (mem_at hb1)).big
          clear y
          have hyl2 : ys2.length = bl2.length := by rw [hys2.len, List.length_map]
          walk_at "rd"
          refine ⟨rfl, ?_⟩
          walk_at "rd"
          refine ⟨_, _, b1, b2, rfl, hxd2, hzd2, by omega, ?_⟩
          walk_at "rd"
          cases hh : isHalves b1 b2 with
          | true =>
            refine iteT ?_
            walk_at "rd"
            refine lc_put hD (e.then0 e4) (e4.at0 hacc) hl (by omega) (fun H5 e5 => ⟨ps ++ [(b1, b2)], ?_, fun pr hpr => ?_⟩)
            · rw [List.map_append]
              exact ((hps.e0 e4).ext e5).append (.one (.tup (e5.tup _ _ hT2) (.two (hxd2.ext e5) (hzd2.ext e5))))
            · rcases List.mem_append.mp hpr with hpr | hpr
              · exact hok pr hpr
              · rw [List.mem_singleton.mp hpr]
                exact ⟨mem_at hb1, mem_at hb2, hh⟩
          | false =>
            refine iteF ?_
            exact lc_skip (e.then0 e4) (e4.at0 hacc) hl ⟨ps, hps.e0 e4, hok⟩
        · obtain ⟨ps2, hps2, hok2⟩ := hR2
          have eSJ2 := eS2.then0 eJ2
          walk_at "rd"
          have eF := ((((e5.then0 e6).then0 e7).then0 e810).then0 e11).then0 eSJ2
          exact ⟨bl2.length, by omega, B2, J2, ys2, zs2, bl2, ps2, _, _, _, _, rfl, eF, eSJ2.at0 h11, hys2.e0 eSJ2, hbl2, hbe2, by omega, hz2, hps2, hok2, rfl⟩
    · walk_at "rd"
      refine s_tupOfD (e6.at0 h5) (hys.e0 e6) (fun v2 H7 e7 hv2 => ?_)
      exact q v2 bl H7 hbl hbe hbll hv2 ((((e13.then0 e4).then0 e5).then0 e6).then0 e7)
theorem pw_at {α : Type} {R : α → α → Prop} : ∀ {l : List α}, l.Pairwise R → ∀ {i j : Nat} {x y : α}, i < j → l[i]? = some x → l[j]? = some y → R x y
  | [], _, _, _, _, _, _, h, _ => by simp at h
  | z :: r, h, 0, j + 1, x, y, _, hx, hy => by
    have e : z = x := Option.some.inj hx
    subst e
    exact (List.pairwise_cons.mp h).1 y (mem_at (i := j) (by simpa using hy))
  | z :: r, h, i + 1, j + 1, x, y, hij, hx, hy => pw_at (List.pairwise_cons.mp h).2 (i := i) (j := j) (by omega) (by simpa using hx) (by simpa using hy)
structure FB (b : Blk) : Prop where
  p2 : P2 b.2
  big : 16 ≤ b.2
  lo : 0 ≤ b.1
  al : b.1 % b.2 = 0
def Asc (bs : List Blk) : Prop := bs.Pairwise fun x y => x.1 + x.2 ≤ y.1
theorem sub_erase {α : Type} (l : List α) (k : Nat) : (l.take k ++ l.drop (k + 1)).Sublist l := by
  have : (l.take k ++ l.drop (k + 1)).Sublist (l.take k ++ l.drop k) := List.Sublist.append (List.Sublist.refl _) (by
    have e : l.drop (k + 1) = (l.drop k).drop 1 := by rw [List.drop_drop]
    rw [e]
    exact List.drop_sublist _ _)
  rwa [List.take_append_drop] at this
theorem ixN_at {n k : Nat} (h : k < n) : ixN n (k : Int) = some k := by
  unfold ixN
  rw [if_pos (by omega), if_pos (by omega), Int.toNat_natCast]
theorem s_popN {H : Hp} {Q : VK} {a : Addr} {xs : List V} {k : Nat} (h : H a = some (.lst xs)) (hk : k < xs.length) (hl : xs.length ≤ 1000) (q : ∀ y H', Ext [a] H H' → H' a = some (.lst (xs.take k ++ xs.drop (k + 1))) → Q y H') : rPopAt (.ref a) [.int (k : Nat)] H Q :=
  ⟨a, xs, k, k, xs[k], rfl, rfl, h, by omega, by omega, (ixN_seq (ixN_at hk)).1, List.getElem?_eq_getElem hk, q _ _ (Ext.mutL h) (by rw [upd_same, List.eraseIdx_eq_take_drop_succ])⟩
abbrev sx_fitting : Stmt := top 57
abbrev N_fitting : List Str := ["_law_source_here", "_law_sizes_here", "_law_room_here", "_law_first", "_law_blocks", "_law_spot", "_law_size", "_law_found", "_law_block"]
theorem sc_fitting : FnScope N_fitting ["_law_source_here", "_law_sizes_here", "_law_room_here", "_law_first"] (defScope sx_fitting) := ⟨rfl, rfl, rfl, by decide +kernel, rfl, by decide +kernel, by decide +kernel⟩
theorem ok_fitting (bi : Bi mg kd) (T : At K mg "_law_fitting" sx_fitting ["_law_source_here", "_law_sizes_here", "_law_room_here", "_law_first"]) (c_below : Cal P w K mg base k "_law_below" spBelow []) (c_both : Cal P w K mg base k "_law_both" spBoth []) : Cal P w K mg base (k + 1) "_law_fitting" spFitting [] := by
  refine T.ok sc_fitting (fun vs H Q E h => ?_) (fun f cdv A outer s H vs Q E hr h => ?_)
  · obtain ⟨a, l, c, n, p, zs, v, rm, f0, rfl, _⟩ := h
    rfl
  have nd := sc_fitting.nd
  obtain ⟨a, l, c, n, p, zs, v, rm, f0, rfl, hp, hzl, hzs, hv, hrm, hrl, hf0, hf1, src, q⟩ := h
  refine ⟨_, (pss_cons (ps_par (i := 4) (j := 5) (by rfl) nd rfl rfl (by decide) rfl rfl (pa_cons (pe_lst pa_nil) (pa_cons (pv 3) pa_nil)) (by rfl))
      (pss_cons (ps_for PassesOwn.never rfl (pi_list (pe_revL (pe_callB cr_sortedI (by rfl) bi.sorted (by decide +kernel) (pa_cons (pv 1) pa_nil)))) (pg_name (i := 6) nd rfl (Or.inl rfl)) (pss_cons (ps_set (i := 5) nd rfl (Or.inl rfl) (pe_op op_mul (pe_op op_fdivW (pe_op op_sub (pe_op op_add (pv 5) (pv 6)) pe_int) (pv 6)) (pv 6)))
      (pss_cons (ps_expr (pe_bm PySem.F.plainAttrs_list PySem.F.slot_list_append PySem.F.type_list_append mt_append (pv 4) (pa_cons (pe_tup (pa_cons (pv 5) (pa_cons (pv 6) pa_nil))) pa_nil)))
      (pss_one (ps_set (i := 5) nd rfl (Or.inl rfl) (pe_op op_add (pe_op op_add (pv 5) (pv 6)) (pe_op op_mul (pv 6) (pe_c c_below hr (by omega) (by rfl) (pa_cons (pv 0) (pa_cons pe_int pa_nil))))))))))
      (pss_cons (ps_if (PW.pt (pw_and (pt_cmpR (op_neD hr.units) (pv 4) (pe_lst pa_nil) (nomark _)) (pw_and1 (pt_cmpR op_eq (pe_c c_below hr (by omega) (by rfl) (pa_cons (pv 0) (pa_cons pe_int pa_nil))) pe_int (nomark _))))) (pss_one (ps_expr (pe_bm PySem.F.plainAttrs_list PySem.F.slot_list_pop PySem.F.type_list_pop mt_popAt (pv 4) (pa_cons (pe_c c_below hr (by omega) (by rfl) (pa_cons (pv 0) (pa_cons (pe_callB (call_lenR (K := K) rfl) (by rfl) bi.len (by decide +kernel) (pa_cons (pv 4) pa_nil)) pa_nil))) pa_nil)))) pss_nil)
      (pss_cons (ps_if (PW.pt (pw_or (pt_cmpR op_gt (pv 5) (pe_op op_add (pv 3) (pe_op op_pow pe_int pe_int)) (nomark _)) (pw_or1 (pt_cmpR op_eq (pe_c c_below hr (by omega) (by rfl) (pa_cons (pv 0) (pa_cons pe_int pa_nil))) pe_int (nomark _))))) (pss_one (ps_ret (pv 2))) pss_nil)
      (pss_cons (ps_set (i := 7) nd rfl (Or.inl rfl) (pe_tup pa_nil))
      (pss_cons (ps_for PassesOwn.never rfl (pi_list (pv 4)) (pg_name (i := 8) nd rfl (Or.inl rfl)) (pss_one (ps_set (i := 7) nd rfl (Or.inl rfl) (pe_c c_both hr (by omega) (by rfl) (pa_cons (pv 7) (pa_cons (pv 8) pa_nil))))))
      (pss_one (ps_ret (pv 7))))))))), ?_⟩
  walk_at "rd"
  refine s_newX (by walk_at "sz") (fun B H1 hB e1 h1 => ?_)
  have hBa := src.ne hB
  walk_at "rd"
  refine s_sortI (e1.at0 hp) (fun ns p2 H2 hperm _ hp2 e2 h2 => ?_)
  refine s_revE h2 (fun L H3 hL e3 h3 => ?_)
  rw [← List.map_reverse] at h3
  have hnl : ns.reverse.length = zs.length := by rw [List.length_reverse, hperm.length_eq]
  have hns : ∀ z ∈ ns.reverse, P2 z ∧ 16 ≤ z ∧ z ≤ 2 ^ 58 := fun z hz => hzs z (hperm.mem_iff.mp (List.mem_reverse.mp hz))
  generalize ns.reverse = ms at h3 hnl hns
  have e13 := e2.then0 e3
  have hLa := ((src.e0 e1).e0 e2).ne hL
  have hLB : L ≠ B := (ne_some (e2.at0 h1) hL).symm
  walk_at "rd"
  refine f_W walk_list (fun i σ H' => ∃ ys, ∃ bs : List Blk, ∃ spot o6 o7 o8, σ = [some (.ref a), some (.ref p), some v, some (.int f0), some (.ref B), some (.int spot), o6, o7, o8] ∧ Ext [a, l, B] H3 H' ∧ H' B = some (.lst ys) ∧ DtAll H' ys (bs.map encB) ∧ Asc bs ∧ (∀ b ∈ bs, FB b ∧ b.1 + b.2 ≤ spot) ∧ f0 ≤ spot ∧ bs.length = i ∧ Src H' a l c (n + 100 - i))
    ⟨[], [], _, _, _, _, rfl, .refl, e13.at0 h1, .nil, .nil, (fun _ h => nomatch h), Int.le_refl _, rfl, (src.e0 e1).e0 e13⟩ (fun i σ H' _ h => by
      obtain ⟨_, _, _, _, _, _, _, e, _⟩ := h
      exact SqL.of (e.at h3 (ne3 hLa.1 hLa.2.1 hLB))) (fun i x σ H4 H5 hi hP y => ?_) (fun σ H4 hP => ?_)
  · obtain ⟨ys, bs, spot, o6, o7, o8, rfl, e4, h4, hys, hasc, hok, hsp, hbl, src4⟩ := hP
    obtain ⟨rfl, hx⟩ := y
    obtain ⟨z, hz, rfl⟩ := map_at hx
    obtain ⟨z1, z2, z3⟩ := hns z (mem_at hz)
    have hlg : z.natAbs.log2 < 9000 := by
      have h2 := (Nat.log2_lt (n := z.natAbs) (k := 60) (by omega)).mpr (by omega)
      omega
    have hfl := fl_le (t := z) (hi := spot + z - 1) (by omega)
    walk_at "rd"
    refine s_I ⟨by omega, hlg⟩ ?_
    walk_at "rd"
    refine s_I (.inr ⟨by omega, by omega⟩) ?_
    generalize (spot + z - 1) / z * z = st at hfl ⊢
    walk_at "rd"
    refine s_newD (ds := [.int st, .int z]) (by walk_at "sz") (.two (.int _) (.int _)) (fun bv H6 e6 hbv => ?_)
    have h6 := e6.at0 h4
    walk_at "rd"
    have hyl : ys.length = bs.length := by rw [hys.len, List.length_map]
    rw [List.length_map] at hi
    refine s_append h6 (by rw [sizeLine_eq]; omega) (fun H7 e7 h7 => ?_)
    walk_at "rd"
    refine ⟨a, l, c, n + 100 - (i + 1), 2, rfl, by decide, by decide, (((src4.e0 e6).e1 e7 hBa).le (by omega)), fun r H8 hr0 hr1 e8 src8 => ?_⟩
    refine s_I (.inl ⟨by omega, by omega⟩) ?_
    have hzr : 0 ≤ z * r := Int.mul_nonneg (by omega) hr0
    walk_at "rd"
    refine ⟨_, bs ++ [(st, z)], _, _, _, _, rfl, ((e4.then0 e6).trans (e7.mono (fun x hx => by rw [List.mem_singleton.mp hx]; simp))).trans (e8.mono nil3), e8.at h7 (ne2 hBa.1 hBa.2.1), ?_, ?_, fun b hb => ?_, by omega, by rw [List.length_append, hbl]; rfl, src8⟩
    · rw [List.map_append]
      exact (((hys.e0 e6).ext e7).ext e8).append (.one ((hbv.ext e7).ext e8))
    · refine List.pairwise_append.mpr ⟨hasc, List.pairwise_singleton _ _, fun x hx y hy => ?_⟩
      rw [List.mem_singleton.mp hy]
      have := (hok x hx).2
      show x.1 + x.2 ≤ st
      omega
    · rcases List.mem_append.mp hb with hb | hb
      · have := hok b hb
        exact ⟨this.1, by omega⟩
      · rw [List.mem_singleton.mp hb]
        exact ⟨⟨z1, z2, by show 0 ≤ st; omega, Int.emod_eq_zero_of_dvd hfl.2.2⟩, by show st + z ≤ st + z + z * r; omega⟩
  · obtain ⟨ys, bs, spot, o6, o7, o8, rfl, e4, h4, hys, hasc, hok, hsp, hbl, src4⟩ := hP
    rw [List.length_map] at hbl src4
    have hyl : ys.length = bs.length := by rw [hys.len, List.length_map]
    walk_at "rd"
    refine s_newX (by walk_at "sz") (fun p6 H6 hp6 e6 h6 => ?_)
    refine s_neNil (e6.at0 h4) (hys.e0 e6) (plain_encBs _) h6 ?_
    walk_at "rd"
    refine ifn (fun c1 => ?a1) (fun c1 => ?x1)
    case' a1 =>
      walk_at "rd"
      refine ⟨a, l, c, n + 30, 2, rfl, by decide, by decide, (src4.e0 e6).le (by omega), fun r H7 hr0 hr1 e7 src7 => ?_⟩
      walk_at "rd"
      refine ifd (fun c2 => ?a2) (fun c2 => ?x2)
    case' a2 =>
      have h7 := e7.at (e6.at0 h4) (ne2 hBa.1 hBa.2.1)
      have hb0 : bs ≠ [] := fun z => c1 (by rw [z]; rfl)
      have hb1 := List.length_pos_iff.mpr hb0
      walk_at "rd"
      refine ⟨a, l, c, n + 29, _, rfl, by omega, by omega, src7, fun r2 H8 hr20 hr21 e8 src8 => ?_⟩
      obtain ⟨j, rfl⟩ : ∃ j : Nat, r2 = j := ⟨_, (Int.toNat_of_nonneg hr20).symm⟩
      refine s_popN (e8.at h7 (ne2 hBa.1 hBa.2.1)) (by omega) (by omega) (fun yv H9 e9 h9 => ?_)
      walk_at "rd"
      obtain ⟨ysf, hysfd⟩ : ∃ z, z = ys.take j ++ ys.drop (j + 1) := ⟨_, rfl⟩
      obtain ⟨bsf, hbsfd⟩ : ∃ z, z = bs.take j ++ bs.drop (j + 1) := ⟨_, rfl⟩
      have hBf := h9
      rw [← hysfd] at hBf
      have hys8 := ((hys.e0 e6).ext e7).ext e8
      have hysf : DtAll H9 ysf (bsf.map encB) := by
        rw [hysfd, hbsfd, List.map_append, List.map_take, List.map_drop]
        exact ((hys8.take j).append (hys8.drop (j + 1))).ext e9
      have hsub : bsf.Sublist bs := by rw [hbsfd]; exact sub_erase bs j
      have hascf : Asc bsf := hasc.sublist hsub
      have hokf : ∀ b ∈ bsf, FB b ∧ b.1 + b.2 ≤ spot := fun b hb => hok b (hsub.subset hb)
      have hlf : bsf.length ≤ 63 := Nat.le_trans hsub.length_le (by omega)
      have ef := ((e4.then0 e6).trans (e7.mono nil3)).trans (e8.mono nil3) |>.trans (e9.mono (fun x hx => by rw [List.mem_singleton.mp hx]; simp))
      have srcf := (src8.e1 e9 hBa).le (show n + 28 ≤ n + 29 by omega)
    case' x1 =>
      have hBf := e6.at0 h4
      have hysf := hys.e0 e6
      have hascf := hasc
      have hokf := hok
      have hlf : bs.length ≤ 63 := by omega
      have ef := e4.then0 e6
      have srcf := (src4.e0 e6).le (show n + 28 ≤ n + 100 - ms.length by omega)
      generalize bs = bsf at hysf hascf hokf hlf
    case' x2 =>
      have hBf := e7.at (e6.at0 h4) (ne2 hBa.1 hBa.2.1)
      have hysf := (hys.e0 e6).ext e7
      have hascf := hasc
      have hokf := hok
      have hlf : bs.length ≤ 63 := by omega
      have ef := (e4.then0 e6).trans (e7.mono nil3)
      have srcf := src7.le (show n + 28 ≤ n + 30 by omega)
      generalize bs = bsf at hysf hascf hokf hlf
    all_goals
      walk_at "rd"
      refine s_I ⟨by decide, by decide, by decide⟩ ?_
      rw [show ((2 : Int) ^ (31 : Int).toNat) = 2147483648 from by decide]
      walk_at "rd"
      refine ifd (fun c3 => ?_) (fun c3 => ?_)
      · walk_at "rd"
        exact q v rm _ hrm hrl ((hv.e0 (e1.then0 e13)).ext ef) (Ext.d3 (e1.then0 e13) ef hB) (srcf.le (by omega))
      · walk_at "rd"
        refine ⟨a, l, c, n + 27, 3, rfl, by decide, by decide, srcf, fun r3 H10 hr30 hr31 e10 src10 => ?_⟩
        have ef10 := ef.trans (e10.mono nil3)
        walk_at "rd"
        refine ifd (fun c4 => ?_) (fun c4 => ?_)
        · walk_at "rd"
          exact q v rm _ hrm hrl ((hv.e0 (e1.then0 e13)).ext ef10) (Ext.d3 (e1.then0 e13) ef10 hB) (src10.le (by omega))
        · walk_at "rd"
          refine s_newD (by walk_at "sz") (ds := ([] : List Blk).map encB) .nil (fun v11 H11 e11 hv11 => ?_)
          have hB11 := e11.at0 (e10.at hBf (ne2 hBa.1 hBa.2.1))
          have hys11 := (hysf.ext e10).e0 e11
          walk_at "rd"
          refine f_W walk_list (fun i σ H' => ∃ v' rm' o8, σ = [some (.ref a), some (.ref p), some v, some (.int f0), some (.ref B), some (.int spot), o6, some v', o8] ∧ Ext [] H11 H' ∧ Dt H' v' (.tuple ((rm' : List Blk).map encB)) ∧ RoomOk rm' ∧ rm'.length ≤ i ∧ ∀ x ∈ rm', ∀ j b, i ≤ j → bsf[j]? = some b → x.1 + x.2 ≤ b.1)
            ⟨v11, [], _, rfl, .refl, hv11, RoomOk.nil, Nat.zero_le _, fun _ h => nomatch h⟩ (fun i σ H' _ h => by
              obtain ⟨_, _, _, _, e, _⟩ := h
              exact SqL.of (e.at0 hB11)) (fun i x σ H12 H13 hi hP y => ?_) (fun σ H12 hP => ?_)
          · obtain ⟨v', rm', o8', rfl, e12, hv12, hrm12, hrl12, hen⟩ := hP
            obtain ⟨rfl, hx⟩ := y
            obtain ⟨d, hd, hxd⟩ := hys11.getV hx
            obtain ⟨b, hb, rfl⟩ := map_at hd
            obtain ⟨fb, fe⟩ := hokf b (mem_at hb)
            have hil := at_lt hb
            have hbk : IsBlk b := ⟨fb.p2, fb.big, fb.lo, fb.al, by omega⟩
            walk_at "rd"
            refine ⟨_, _, rm', b, rfl, hv12, hxd.e0 e12, hrm12, hbk, fun x hx => hen x hx i b (Nat.le_refl _) hb, by omega, fun v14 rm14 H14 g1 g2 g3 g4 g5 => ?_⟩
            walk_at "rd"
            exact ⟨v14, rm14, _, rfl, e12.then0 g5, g4, g1, by omega, fun x hx j b2 hj hb2 => Int.le_trans (g2 x hx) (pw_at hascf (show i < j by omega) hb hb2)⟩
          · obtain ⟨v', rm', o8', rfl, e12, hv12, hrm12, hrl12, hen⟩ := hP
            have hyl12 : _ = _ := hys11.len
            rw [List.length_map] at hyl12
            walk_at "rd"
            exact q v' rm' _ hrm12 (by omega) hv12 (Ext.d3 (e1.then0 e13) ((ef10.then0 e11).then0 e12) hB) (((src10.e0 e11).e0 e12).le (by omega))
end
end Bw

/-! the law: free, cut, turns -/
namespace Bw
open PySem PySem.Spec PyProof.Rows L2
open C8 (Cal pe_c pe_gc)
open StX (pa_star tStar)
open RZ (pi_zipA iZipA)
-- the tactics of this text, by key
local macro_rules | `(tactic| walk_at "nm") => `(tactic| first | (intro hmem; cases hmem; done) | (simp only [List.mem_cons, List.mem_singleton, List.not_mem_nil, or_false, not_or, not_false_eq_true]; done) | (simp only [List.mem_cons, List.mem_singleton, List.not_mem_nil, or_false, not_or]; (repeat' apply And.intro) <;> first | assumption | exact Ne.symm (by assumption) | exact ne_some (by assumption) (by assumption) | exact Ne.symm (ne_some (by assumption) (by assumption))))
local macro_rules | `(tactic| walk_at "hx") => `(tactic| first | assumption | exact Dt.non | exact Dt.int _ | exact Dt.str _ | exact Dt.bl _ | (refine Dt.ext (by assumption) ?_; walk_at "hx") | (refine DtAll.ext (by assumption) ?_; walk_at "hx") | (refine Ext.at0 (by assumption) ?_; walk_at "hx") | (refine Ext.tupC (by assumption) ?_; walk_at "hx") | (refine Ext.atC (by assumption) ?_ (by walk_at "nm"); walk_at "hx"))
local macro_rules | `(tactic| walk_at "dm") => `(tactic| first | exact fun _ h => h | (refine dom_step (by assumption) ?_; walk_at "dm"))
local macro_rules | `(tactic| walk_at "fr") => `(tactic| first | assumption | (refine fr_of (by assumption) ?_; walk_at "dm"))
local macro_rules | `(tactic| walk_at "ex") => `(tactic| first | assumption | exact Ext.refl | exact Ext.mono0 (by assumption) | (refine Ext.then0 ?_ (by assumption); walk_at "ex") | (refine Ext.transC ?_ (by assumption); walk_at "ex") | (refine Ext.c1 ?_ (by assumption) (by walk_at "fr"); walk_at "ex") | (refine Ext.cm ?_ (by assumption) (by simp only [List.mem_cons, true_or, or_true]; done); walk_at "ex"))
local macro_rules | `(tactic| walk_at "r1") => `(tactic| first
  | (with_reducible refine s_var rfl ?_) | (with_reducible refine s_c ?_) | (with_reducible refine s_op ?_) | (with_reducible refine s_un ?_) | (with_reducible refine s_I0 ?_) | (with_reducible refine s_U ?_)
  | (with_reducible refine s_eqI ?_) | (with_reducible refine s_eqS ?_) | (with_reducible refine s_eqB ?_) | (with_reducible refine s_neI ?_) | (with_reducible refine s_neS ?_) | (with_reducible refine s_neB ?_)
  | (with_reducible refine s_isN1 ?_) | (with_reducible refine s_isN0 ?_) | (with_reducible refine s_notN1 ?_) | (with_reducible refine s_notN0 ?_) | (with_reducible refine s_isBl ?_) | (with_reducible refine s_notBl ?_)
  | (with_reducible refine s_test ?_) | (with_reducible refine s_B ?_) | (with_reducible refine s_bl ?_) | (with_reducible refine s_and ?_) | (with_reducible refine s_or ?_) | (with_reducible refine s_not ?_)
  | (with_reducible refine s_andV ?_) | (with_reducible refine s_orV ?_) | (with_reducible refine s_notV ?_) | (with_reducible refine s_ifE ?_) | (with_reducible refine s_chain ?_)
  | (with_reducible refine s_next ?_) | (with_reducible refine s_seq ?_) | (with_reducible refine s_drop ?_) | (with_reducible refine s_ret ?_) | (with_reducible refine s_retN ?_) | (with_reducible refine s_ifS ?_) | (with_reducible refine s_asg ?_)
  | ((with_reducible refine g_name ?_); refine s_name (by first | rfl) ?_) | (with_reducible refine s_parS ?_) | (with_reducible refine s_par ?_) | ((with_reducible refine g_nx ?_); refine s_nx rfl ?_) | (with_reducible refine s_gsub ?_) | (with_reducible refine s_gnil ?_) | (with_reducible refine s_gcons ?_)
  | (with_reducible refine s_call ?_) | (with_reducible refine s_cb ?_) | (with_reducible refine s_nil ?_) | (with_reducible refine s_cons ?_) | (with_reducible refine s_tupT ?_) | (with_reducible refine s_lstT ?_)
  | (with_reducible refine s_sl ?_) | (with_reducible refine s_nopart ?_) | (with_reducible refine s_part ?_) | (with_reducible refine s_int ?_) | (with_reducible refine s_bm ?_) | (with_reducible refine s_dget ?_) | (with_reducible refine s_dputS ?_)
  | (with_reducible refine s_forS ?_) | (with_reducible refine s_lc ?_) | (with_reducible refine s_iTup ?_) | (with_reducible refine s_iList ?_) | (with_reducible refine s_iRng1 ?_) | (with_reducible refine s_iRng2 ?_) | (with_reducible refine s_tYes ?_) | (with_reducible refine s_intI ?_) | (with_reducible refine s_intB ?_) | (with_reducible refine s_min2 ?_) | (with_reducible refine s_max2 ?_) | (with_reducible refine s_abs ?_) | (with_reducible refine s_revL ?_) | (with_reducible refine s_iEnumT ?_) | (with_reducible refine s_iEnum ?_) | (with_reducible refine s_iZipA ?_) | (with_reducible refine s_iZipM ?_) | (with_reducible refine s_iZip ?_) | (with_reducible refine s_iStr ?_) | (with_reducible refine s_star ?_) | (with_reducible refine s_lc2 ?_) | (with_reducible refine s_dc ?_) | (with_reducible refine s_bm ?_)
  | (with_reducible refine isi_int _ ?_) | (with_reducible refine isi_intB _ ?_) | (with_reducible refine isi_str _ ?_) | (with_reducible refine isi_non ?_)
  | (with_reducible refine iteT ?_) | (with_reducible refine iteF ?_) | (with_reducible refine iteNT ?_) | (with_reducible refine iteNF ?_))
local macro_rules | `(tactic| walk_at "r2") => `(tactic| first
  | ((with_reducible refine g_ixT ?_); first | (refine s_ixT (by walk_at "hx") rfl ?_) | (refine s_ixDs (by walk_at "hx") rfl ?_) | (refine s_ixDi (by walk_at "hx") rfl ?_) | (refine s_ixD (by walk_at "hx") rfl (fun _ _ => ?_)) | (refine s_ixD0s (by walk_at "hx") ?_))
  | ((with_reducible refine g_form ?_); first | (refine isDev_non ?_) | (refine isBr_non ?_) | (refine isDev_dev (by walk_at "hx") ?_) | (refine isDev_br (by walk_at "hx") ?_) | (refine isBr_dev (by walk_at "hx") ?_) | (refine isBr_br (by walk_at "hx") ?_))
  | ((with_reducible refine g_isi ?_); first | (with_reducible refine isi_dt (by walk_at "hx") ?_) | (with_reducible refine isi_tup (by walk_at "hx") ?_))
  | ((with_reducible refine g_len ?_); first | (with_reducible refine s_lenL (by walk_at "hx") ?_) | (with_reducible refine s_lenT (by walk_at "hx") ?_) | (with_reducible refine s_lenD (by walk_at "hx") ?_))
  | ((with_reducible refine g_ty ?_); first | (refine s_tyK (by assumption) ?_) | (with_reducible refine s_tyL (by walk_at "hx") ?_))
  | ((with_reducible refine g_tix ?_); first | (refine s_idx0 (by assumption) ?_) | (refine s_idx1 (by assumption) ?_))
  | ((with_reducible refine g_enT ?_); with_reducible refine s_enT (by walk_at "hx") ?_) | ((with_reducible refine g_enL ?_); with_reducible refine s_enL (by walk_at "hx") ?_)
  | ((with_reducible refine g_za ?_); first | (with_reducible refine s_zaT2 (by walk_at "hx") (by walk_at "hx") ?_) | (with_reducible refine s_zaL (by walk_at "hx") (by walk_at "hx") ?_))
  | ((with_reducible refine g_zm ?_); first | (with_reducible refine s_zmT (by walk_at "hx") (by walk_at "hx") ?_) | (with_reducible refine s_zmL (by walk_at "hx") (by walk_at "hx") ?_))
  | ((with_reducible refine g_zl ?_); with_reducible refine s_zl (by walk_at "hx") (by walk_at "hx") ?_)
  | ((with_reducible refine g_itT ?_); with_reducible refine s_itT (by walk_at "hx") ?_) | ((with_reducible refine g_itL ?_); with_reducible refine s_itL (by walk_at "hx") ?_)
  | ((with_reducible refine g_gtup ?_); refine s_gtup (by walk_at "hx") rfl ?_))
local macro_rules | `(tactic| walk_at "rd") => `(tactic| repeat (first | walk_at "r1" | walk_at "r2"))
local macro_rules | `(tactic| walk_at "sz") => `(tactic| (simp only [List.length_cons, List.length_nil, List.length_append, List.length_map, sizeLine_eq] <;> omega))
theorem no_fit {s : Int} {p : Blk} (hs : 0 < s) (h : ¬ cl s p.1 + s ≤ p.2) : ∀ x, ¬ FitAt s p x := fun x f => by
  obtain ⟨h1, h2, h3⟩ := f
  have := cl_least hs (Int.dvd_of_emod_eq_zero h3) h1
  omega
theorem cutS_len (st sz : Int) : ∀ l : List Blk, (cutS st sz l).length ≤ 2 * l.length
  | [] => Nat.zero_le _
  | p :: r => by
    rw [cutS_cons, List.length_append, List.length_cons]
    have := cutS_len st sz r
    have : (cutP st sz p).length ≤ 2 := by
      unfold cutP
      exact List.length_filter_le _ _
    omega
section
variable {P : Program} {w : World} {K : PySem.W.Frag} {mg : Str → Option Value} {base : Heap} {kd : Addr} {k : Nat}
abbrev sx_free : Stmt := top 58
abbrev N_free : List Str := ["_law_spans", "_law_size", "_law_found", "_law_low", "_law_high", "_law_start"]
theorem sc_free : FnScope N_free ["_law_spans", "_law_size"] (defScope sx_free) := ⟨rfl, rfl, rfl, by decide +kernel, rfl, by decide +kernel, by decide +kernel⟩
theorem ok_free (bi : Bi mg kd) (T : At K mg "_law_free" sx_free ["_law_spans", "_law_size"]) : Cal P w K mg base (k + 1) "_law_free" spFree [] := by
  refine T.ok sc_free (fun vs H Q E h => ?_) (fun f cdv A outer s H vs Q E hr h => ?_)
  · obtain ⟨p, xs, sp, s, rfl, _⟩ := h
    rfl
  have nd := sc_free.nd
  obtain ⟨p, xs, sp, z, rfl, hp, hs, hz0, hz1, hsl, q⟩ := h
  have hxl : xs.length = sp.length := by rw [hs.len, List.length_map]
  have hlg : z.natAbs.log2 < 9000 := by
    have h2 := (Nat.log2_lt (n := z.natAbs) (k := 61) (by omega)).mpr (by omega)
    omega
  refine ⟨_, (pss_cons (ps_set (i := 2) nd rfl (Or.inl rfl) (pe_lst pa_nil))
      (pss_cons (ps_for PassesOwn.never rfl (pi_list (pv 0)) (pg_tup rfl (pgs_cons (pg_name (i := 3) nd rfl (Or.inl rfl)) (pgs_cons (pg_name (i := 4) nd rfl (Or.inl rfl)) pgs_nil))) (pss_cons (ps_set (i := 5) nd rfl (Or.inl rfl) (pe_op op_sub pe_int (pe_op op_mul (pe_op op_fdivW (pe_op op_sub pe_int (pv 3)) (pv 1)) (pv 1))))
      (pss_one (ps_while PassesOwn.never (PW.pt (pw_and (pt_cmpR op_le (pe_op op_add (pv 5) (pv 1)) (pv 4) (nomark _)) (pw_and1 (pt_cmpR op_lt (pe_callB (call_lenR (K := K) rfl) (by rfl) bi.len (by decide +kernel) (pa_cons (pv 2) pa_nil)) pe_int (nomark _))))) (pss_cons (ps_expr (pe_bm PySem.F.plainAttrs_list PySem.F.slot_list_append PySem.F.type_list_append mt_append (pv 2) (pa_cons (pv 5) pa_nil)))
      (pss_one (ps_set (i := 5) nd rfl (Or.inl rfl) (pe_op op_add (pv 5) (pv 1)))))))))
      (pss_one (ps_ret (pv 2))))), ?_⟩
  walk_at "rd"
  refine s_newX (by walk_at "sz") (fun F H1 hF e1 h1 => ?_)
  walk_at "rd"
  refine f_W walk_list (fun i σ H' => ∃ ns o3 o4 o5, σ = [some (.ref p), some (.int z), some (.ref F), o3, o4, o5] ∧ Ext [] H H' ∧ H' F = some (.lst ((ns : List Int).map V.int)) ∧ ns.length ≤ 100 ∧ (∀ x ∈ ns, ∃ p ∈ sp, FitAt z p x) ∧ (ns = [] → ∀ p ∈ sp.take i, ∀ x, ¬ FitAt z p x))
    ⟨[], _, _, _, rfl, e1, h1, Nat.zero_le _, (fun _ h => nomatch h), fun _ p hp => by cases hp⟩ (fun i σ H' _ h => by
      obtain ⟨_, _, _, _, _, e, _⟩ := h
      exact SqL.of (e.at0 hp)) (fun i x σ H2 H3 hi hP y => ?_) (fun σ H2 hP => ?_)
  · obtain ⟨ns, o3, o4, o5, rfl, e2, h2, hnl, hn1, hn2⟩ := hP
    obtain ⟨rfl, hx⟩ := y
    obtain ⟨d, hd, hxd⟩ := hs.getV hx
    obtain ⟨b, hb, rfl⟩ := map_at hd
    obtain ⟨t, rfl, ht⟩ := (hxd.ext e2).blkE
    walk_at "rd"
    refine s_I ⟨hz0, hlg⟩ ?_
    walk_at "rd"
    refine s_I (.inr ⟨by omega, by omega⟩) ?_
    walk_at "rd"
    have hcl := cl_ge (t := z) (lo := b.1) hz0
    refine s_while (fun m σ H' => ∃ ns st, σ = [some (.ref p), some (.int z), some (.ref F), some (.int b.1), some (.int b.2), some (.int st)] ∧ Ext [] H H' ∧ H' F = some (.lst ((ns : List Int).map V.int)) ∧ ns.length ≤ 100 ∧ (∀ x ∈ ns, ∃ p ∈ sp, FitAt z p x) ∧ (ns = [] → st = cl z b.1 ∧ ∀ p ∈ sp.take i, ∀ x, ¬ FitAt z p x) ∧ z ∣ st ∧ b.1 ≤ st ∧ m = 100 - ns.length)
      (m0 := 100 - ns.length) ⟨ns, cl z b.1, rfl, e2, h2, hnl, hn1, fun e => ⟨rfl, hn2 e⟩, hcl.2.2, hcl.1, rfl⟩ (fun m σ H4 h => ?_)
    clear h2 hnl hn1 hn2
    obtain ⟨ns, st, rfl, e4, h4, hnl, hn1, hn2, hdv, hlo, rfl⟩ := h
    have hfin : (ns = [] → ¬ (st + z ≤ b.2)) → ∃ ns_1 o3 o4 o5, [some (V.ref p), some (V.int z), some (V.ref F), some (V.int b.1), some (V.int b.2), some (V.int st)] = [some (V.ref p), some (V.int z), some (V.ref F), o3, o4, o5] ∧ Ext [] H H4 ∧ H4 F = some (.lst ((ns_1 : List Int).map V.int)) ∧ ns_1.length ≤ 100 ∧ (∀ x ∈ ns_1, ∃ p ∈ sp, FitAt z p x) ∧ (ns_1 = [] → ∀ p ∈ sp.take (i + 1), ∀ x, ¬ FitAt z p x) := fun hh =>
      ⟨ns, _, _, _, rfl, e4, h4, hnl, hn1, fun e p2 hp2 => by
        obtain ⟨h1, h2⟩ := hn2 e
        rw [take1 hb] at hp2
        rcases List.mem_append.mp hp2 with hp2 | hp2
        · exact h2 p2 hp2
        · rw [List.mem_singleton.mp hp2]
          have := hh e
          rw [h1] at this
          exact no_fit hz0 this⟩
    walk_at "rd"
    refine ifd (fun c1 => ?_) (fun c1 => ?_)
    · walk_at "rd"
      refine ifd (fun c2 => ?_) (fun c2 => ?_)
      · rw [List.length_map] at c2
        refine ⟨_, fun σ' H' h => h, ?_⟩
        walk_at "rd"
        refine s_append h4 (by rw [List.length_map, sizeLine_eq]; omega) (fun H5 e5 h5 => ?_)
        walk_at "rd"
        refine ⟨_, ?_, ns ++ [st], st + z, rfl, e4.c1 e5 hF, by rw [h5, List.map_append]; rfl, by rw [List.length_append]; show _ + 1 ≤ _; omega, fun x hx => ?_, fun e => ?_, Int.dvd_add hdv (Int.dvd_refl z), by omega, rfl⟩
        · rw [List.length_append]
          show 100 - (ns.length + 1) < 100 - ns.length
          omega
        · rcases List.mem_append.mp hx with hx | hx
          · exact hn1 x hx
          · rw [List.mem_singleton.mp hx]
            exact ⟨b, mem_at hb, hlo, c1, Int.emod_eq_zero_of_dvd hdv⟩
        · have := congrArg List.length e
          rw [List.length_append] at this
          exact absurd this (by show _ + 1 ≠ 0; omega)
      · walk_at "rd"
        exact hfin fun e => by
          rw [e] at c2
          exact absurd (show ((([] : List Int).map V.int).length : Int) < 100 by decide) c2
    · walk_at "rd"
      exact hfin fun _ => c1
  · obtain ⟨ns, o3, o4, o5, rfl, e2, h2, hnl, hn1, hn2⟩ := hP
    rw [hxl, List.take_length] at hn2
    walk_at "rd"
    exact q F ns _ hF e2 h2 hnl hn1 hn2
abbrev sx_cut : Stmt := top 59
abbrev N_cut : List Str := ["_law_spans", "_law_start", "_law_size", "_law_found", "_law_low", "_law_high", "_law_pieces", "_law_piece"]
theorem sc_cut : FnScope N_cut ["_law_spans", "_law_start", "_law_size"] (defScope sx_cut) := ⟨rfl, rfl, rfl, by decide +kernel, rfl, by decide +kernel, by decide +kernel⟩
theorem ok_cut (bi : Bi mg kd) (T : At K mg "_law_cut" sx_cut ["_law_spans", "_law_start", "_law_size"]) : Cal P w K mg base (k + 1) "_law_cut" spCut [] := by
  refine T.ok sc_cut (fun vs H Q E h => ?_) (fun f cdv A outer s H vs Q E hr h => ?_)
  · obtain ⟨p, xs, sp, st, s, rfl, _⟩ := h
    rfl
  have nd := sc_cut.nd
  obtain ⟨p, xs, sp, st, z, rfl, hp, hs, hsl, q⟩ := h
  have hxl : xs.length = sp.length := by rw [hs.len, List.length_map]
  refine ⟨_, (pss_cons (ps_set (i := 3) nd rfl (Or.inl rfl) (pe_lst pa_nil))
      (pss_cons (ps_for PassesOwn.never rfl (pi_list (pv 0)) (pg_tup rfl (pgs_cons (pg_name (i := 4) nd rfl (Or.inl rfl)) (pgs_cons (pg_name (i := 5) nd rfl (Or.inl rfl)) pgs_nil))) (pss_cons (ps_set (i := 6) nd rfl (Or.inl rfl) (pe_lst (pa_cons (pe_tup (pa_cons (pv 4) (pa_cons (pe_callB (call_minR rfl) (by rfl) bi.min (by decide +kernel) (pa_cons (pv 5) (pa_cons (pv 1) pa_nil))) pa_nil))) (pa_cons (pe_tup (pa_cons (pe_callB (call_maxR rfl) (by rfl) bi.max (by decide +kernel) (pa_cons (pv 4) (pa_cons (pe_op op_add (pv 1) (pv 2)) pa_nil))) (pa_cons (pv 5) pa_nil))) pa_nil))))
      (pss_one (ps_expr (pe_bm PySem.F.plainAttrs_list PySem.F.slot_list_extend PySem.F.type_list_extend mt_extend (pv 3) (pa_cons (pe_lc (own := [("_law_piece", 7)]) (g := gName 7) (by rfl) nd (pi_list (pv 6)) (blkOk_by (own := [("_law_piece", 7)]) (N := N_cut) (sc := defScope sx_cut) (by decide +kernel)) (fun _ _ _ _ _ => (pg_name (i := 7) nd rfl (Or.inl rfl))) (fun _ _ _ _ _ => pts_one (pt_cmpR op_lt (pe_ix (ix_tupK (K := K) rfl) (pv 7) pe_int (fun _ _ => rfl)) (pe_ix (ix_tupK (K := K) rfl) (pv 7) pe_int (fun _ _ => rfl)) (nomark _))) (fun _ _ _ _ _ => (pv 7))) pa_nil))))))
      (pss_one (ps_ret (pv 3))))), ?_⟩
  walk_at "rd"
  refine s_newX (by walk_at "sz") (fun F H1 hF e1 h1 => ?_)
  walk_at "rd"
  refine f_W walk_list (fun i σ H' => ∃ ys o4 o5 o6 o7, σ = [some (.ref p), some (.int st), some (.int z), some (.ref F), o4, o5, o6, o7] ∧ Ext [] H H' ∧ H' F = some (.lst ys) ∧ DtAll H' ys ((cutS st z (sp.take i)).map encB))
    ⟨[], _, _, _, _, rfl, e1, h1, .nil⟩ (fun i σ H' _ h => by
      obtain ⟨_, _, _, _, _, _, e, _⟩ := h
      exact SqL.of (e.at0 hp)) (fun i x σ H2 H3 hi hP y => ?_) (fun σ H2 hP => ?_)
  · obtain ⟨ys, o4, o5, o6, o7, rfl, e2, h2, hys⟩ := hP
    obtain ⟨rfl, hx⟩ := y
    obtain ⟨d, hd, hxd⟩ := hs.getV hx
    obtain ⟨b, hb, rfl⟩ := map_at hd
    obtain ⟨t, rfl, ht⟩ := (hxd.ext e2).blkE
    have hyl : ys.length ≤ 2 * i := by
      rw [hys.len, List.length_map]
      have h1 := cutS_len st z (sp.take i)
      have h2 : (sp.take i).length ≤ i := List.length_take_le _ _
      omega
    walk_at "rd"
    refine s_newD (ds := [.int b.1, .int (min b.2 st)]) (by walk_at "sz") (.two (.int _) (.int _)) (fun v4 H4 e4 hv4 => ?_)
    walk_at "rd"
    refine s_newD (ds := [.int (max b.1 (st + z)), .int b.2]) (by walk_at "sz") (.two (.int _) (.int _)) (fun v5 H5 e5 hv5 => ?_)
    walk_at "rd"
    refine s_newX (by walk_at "sz") (fun L H6 hL e6 h6 => ?_)
    have e26 := (e4.then0 e5).then0 e6
    have h6F := e26.at0 h2
    have hpc : DtAll H6 [v4, v5] (([(b.1, min b.2 st), (max b.1 (st + z), b.2)] : List Blk).map encB) := .two ((hv4.e0 e5).e0 e6) (hv5.e0 e6)
    walk_at "rd"
    refine lc_W walk_list [] (fun i acc H' => DtAll H' acc (((([(b.1, min b.2 st), (max b.1 (st + z), b.2)] : List Blk).take i).filter fun q => decide (q.1 < q.2)).map encB)) (fun H' e => SqL.of (e.at0 h6)) (fun _ _ => .nil) (fun i x D acc H7 H8 hi hD e hacc hl hR y => ?_) (fun D acc H7 hD e7 hacc hl hR => ?_)
    · obtain ⟨rfl, hx⟩ := y
      obtain ⟨d, hd, hxd⟩ := hpc.getV hx
      obtain ⟨b2, hb2, rfl⟩ := map_at hd
      obtain ⟨t2, rfl, ht2⟩ := (hxd.ext e).blkE
      walk_at "rd"
      refine ⟨rfl, ?_⟩
      walk_at "rd"
      refine ifd (fun c => ?_) (fun c => ?_)
      · walk_at "rd"
        refine lc_put hD e hacc hl (by have : i < 2 := hi; omega) (fun H9 e9 => ?_)
        rw [take1 hb2, List.filter_append, List.filter_cons, if_pos (decide_eq_true c), List.map_append]
        exact (hR.ext e9).append (.one ((hxd.ext e).ext e9))
      · refine lc_skip e hacc hl ?_
        rw [take1 hb2, List.filter_append, List.filter_cons, if_neg (by simpa using c), List.filter_nil, List.append_nil]
        exact hR
    · have hR2 : DtAll H7 acc ((cutP st z b).map encB) := hR
      have hal : acc.length ≤ 2 := hl
      have h7F := e7.at0 h6F
      walk_at "rd"
      refine s_extend h7F hacc (by rw [sizeLine_eq]; omega) (fun H8 e8 h8 => ?_)
      walk_at "rd"
      refine ⟨_, _, _, _, _, rfl, ((e2.then0 e26).then0 e7).c1 e8 hF, h8, ?_⟩
      rw [take1 hb, cutS_snoc, List.map_append]
      exact (((hys.e0 e26).e0 e7).ext e8).append (hR2.ext e8)
  · obtain ⟨ys, o4, o5, o6, o7, rfl, e2, h2, hys⟩ := hP
    rw [hxl, List.take_length] at hys
    walk_at "rd"
    exact q F ys _ hF e2 h2 hys
abbrev sx_turns : Stmt := top 60
abbrev N_turns : List Str := ["_law_sizes_here", "_law_pair", "_law_k", "_law_size"]
theorem sc_turns : FnScope N_turns ["_law_sizes_here"] (defScope sx_turns) := ⟨rfl, rfl, rfl, by decide +kernel, rfl, by decide +kernel, by decide +kernel⟩
theorem ok_turns (bi : Bi mg kd) (T : At K mg "_law_turns" sx_turns ["_law_sizes_here"]) : Cal P w K mg base (k + 1) "_law_turns" spTurns [] := by
  refine T.ok sc_turns (fun vs H Q E h => ?_) (fun f cdv A outer s H vs Q E hr h => ?_)
  · obtain ⟨p, zs, rfl, _⟩ := h
    rfl
  have nd := sc_turns.nd
  obtain ⟨p, zs, rfl, hp, hzl, q⟩ := h
  refine ⟨_, (pss_one (ps_ret (pe_lc (own := [("_law_pair", 1)]) (g := gName 1) (by rfl) nd (pi_list (pe_callB cr_sortedPO (by rfl) bi.sorted (by decide +kernel) (pa_cons (pe_lc (own := [("_law_k", 2), ("_law_size", 3)]) (g := gTup K 2 (gCons (gName 2) (gCons (gName 3) (gNil)))) (by rfl) nd (pi_enum (by rfl) bi.enumerate (pa_cons (pv 0) pa_nil)) (blkOk_by (own := [("_law_k", 2), ("_law_size", 3)]) (N := N_turns) (sc := defScope sx_turns) (by decide +kernel)) (fun _ _ _ _ _ => (pg_tup rfl (pgs_cons (pg_name (i := 2) nd rfl (Or.inl rfl)) (pgs_cons (pg_name (i := 3) nd rfl (Or.inl rfl)) pgs_nil)))) (fun _ _ _ _ _ => pts_nil) (fun _ _ _ _ _ => (pe_tup (pa_cons (pe_op op_sub pe_int (pv 3)) (pa_cons (pv 2) pa_nil))))) pa_nil))) (blkOk_by (own := [("_law_pair", 1)]) (N := N_turns) (sc := defScope sx_turns) (by decide +kernel)) (fun _ _ _ _ _ => (pg_name (i := 1) nd rfl (Or.inl rfl))) (fun _ _ _ _ _ => pts_nil) (fun _ _ _ _ _ => (pe_ix (ix_tupK (K := K) rfl) (pv 1) pe_int (fun _ _ => rfl)))))), ?_⟩
  walk_at "rd"
  refine lc_W walk_enum [] (fun i acc H' => DtAll H' acc (((List.range i).map fun j => ((0 - zs.getD j 0, (j : Int)) : Blk)).map encB)) (fun H' e => SqL.of (e.at0 hp)) (fun _ _ => .nil) (fun i x D acc H1 H2 hi hD e hacc hl hR y => ?_) (fun D acc H1 hD e1 hacc hl hR => ?_)
  · obtain ⟨T2, x1, z1, rfl, hT, e2, hT2, hx1, hz1⟩ := YPair.get y
    cases hx1
    obtain ⟨z, hz, rfl⟩ := map_at hz1
    rw [List.length_map] at hi
    have hg : zs.getD i 0 = z := by rw [List.getD_eq_getElem?_getD, hz]; rfl
    clear y
    walk_at "rd"
    refine ⟨rfl, ?_⟩
    walk_at "rd"
    refine s_newD (ds := [.int (0 - z), .int (i : Nat)]) (by walk_at "sz") (.two (.int _) (.int _)) (fun v3 H3 e3 hv3 => ?_)
    refine lc_put hD ((e.then0 e2).then0 e3) (e3.at0 (e2.at0 hacc)) hl (by omega) (fun H4 e4 => ?_)
    rw [List.range_succ, List.map_append, List.map_append]
    refine ((hR.e0 (e2.then0 e3)).ext e4).append (.one ?_)
    show Dt H4 v3 (encB (0 - zs.getD i 0, (i : Int)))
    rw [hg]
    exact hv3.ext e4
  · rw [List.length_map] at hR
    walk_at "rd"
    refine s_sortB hacc hR (fun p2 ys bs H2 hperm hsort hp2 e2 h2 hys => ?_)
    have hyl : ys.length = bs.length := by rw [hys.len, List.length_map]
    have hbl : bs.length = zs.length := by rw [hperm.length_eq, List.length_map, List.length_range]
    walk_at "rd"
    refine lc_W walk_list [] (fun i acc _ => acc = (bs.take i).map fun b => V.int b.2) (fun H' e => SqL.of (e.at0 h2)) (fun _ _ => rfl) (fun i x D acc H3 H4 hi hD e hacc hl hR y => ?_) (fun D acc H3 hD e3 hacc hl hR => ?_)
    · obtain ⟨rfl, hx⟩ := y
      obtain ⟨d, hd, hxd⟩ := hys.getV hx
      obtain ⟨b2, hb2, rfl⟩ := map_at hd
      obtain ⟨t2, rfl, ht2⟩ := (hxd.ext e).blkE
      subst hR
      walk_at "rd"
      refine ⟨rfl, ?_⟩
      walk_at "rd"
      refine lc_put hD e hacc hl (by omega) (fun H5 e5 => ?_)
      rw [take1 hb2, List.map_append]
      rfl
    · rw [hyl, List.take_length] at hR
      subst hR
      have hmem : ∀ b ∈ bs, ∃ j : Nat, j < zs.length ∧ b = (0 - zs.getD j 0, (j : Int)) := fun b hb => by
        obtain ⟨j, hj, rfl⟩ := List.mem_map.mp (hperm.mem_iff.mp hb)
        exact ⟨j, List.mem_range.mp hj, rfl⟩
      refine q D (bs.map fun b => b.2.toNat) _ (e1.free (e2.free hD)) ((e1.then0 e2).then0 e3) ?_ ⟨?_, ?_⟩
      · rw [hacc, List.map_map]
        congr 2
        refine List.map_congr_left fun b hb => ?_
        obtain ⟨j, _, rfl⟩ := hmem b hb
        rfl
      · have := hperm.map fun b : Blk => b.2.toNat
        rw [List.map_map] at this
        rw [show (List.range zs.length).map ((fun b : Blk => b.2.toNat) ∘ fun j => (0 - zs.getD j 0, (j : Int))) = List.range zs.length from by
          rw [show ((fun b : Blk => b.2.toNat) ∘ fun j : Nat => ((0 - zs.getD j 0, (j : Int)) : Blk)) = id from funext fun j => Int.toNat_natCast j]
          exact List.map_id _] at this
        exact this
      · refine List.pairwise_map.mpr (hsort.imp_of_mem fun {x y} hx hy h => ?_)
        obtain ⟨j, _, rfl⟩ := hmem x hx
        obtain ⟨j2, _, rfl⟩ := hmem y hy
        show zs.getD ((j2 : Int).toNat) 0 ≤ zs.getD ((j : Int).toNat) 0
        rw [Int.toNat_natCast, Int.toNat_natCast]
        have h : (0 - zs.getD j 0) < (0 - zs.getD j2 0) ∨ (0 - zs.getD j 0) = (0 - zs.getD j2 0) ∧ _ := h
        omega
end
end Bw

/-! the law: put, grown -/
namespace Bw
open PySem PySem.Spec PyProof.Rows L2
open C8 (Cal pe_c pe_gc)
open StX (pa_star tStar)
open RZ (pi_zipA iZipA)
-- the tactics of this text, by key
local macro_rules | `(tactic| walk_at "nm") => `(tactic| first | (intro hmem; cases hmem; done) | (simp only [List.mem_cons, List.mem_singleton, List.not_mem_nil, or_false, not_or, not_false_eq_true]; done) | (simp only [List.mem_cons, List.mem_singleton, List.not_mem_nil, or_false, not_or]; (repeat' apply And.intro) <;> first | assumption | exact Ne.symm (by assumption) | exact ne_some (by assumption) (by assumption) | exact Ne.symm (ne_some (by assumption) (by assumption))))
local macro_rules | `(tactic| walk_at "hx") => `(tactic| first | assumption | exact Dt.non | exact Dt.int _ | exact Dt.str _ | exact Dt.bl _ | (refine Dt.ext (by assumption) ?_; walk_at "hx") | (refine DtAll.ext (by assumption) ?_; walk_at "hx") | (refine Ext.at0 (by assumption) ?_; walk_at "hx") | (refine Ext.tupC (by assumption) ?_; walk_at "hx") | (refine Ext.atC (by assumption) ?_ (by walk_at "nm"); walk_at "hx"))
local macro_rules | `(tactic| walk_at "dm") => `(tactic| first | exact fun _ h => h | (refine dom_step (by assumption) ?_; walk_at "dm"))
local macro_rules | `(tactic| walk_at "fr") => `(tactic| first | assumption | (refine fr_of (by assumption) ?_; walk_at "dm"))
local macro_rules | `(tactic| walk_at "ex") => `(tactic| first | assumption | exact Ext.refl | exact Ext.mono0 (by assumption) | (refine Ext.then0 ?_ (by assumption); walk_at "ex") | (refine Ext.transC ?_ (by assumption); walk_at "ex") | (refine Ext.c1 ?_ (by assumption) (by walk_at "fr"); walk_at "ex") | (refine Ext.cm ?_ (by assumption) (by simp only [List.mem_cons, true_or, or_true]; done); walk_at "ex"))
local macro_rules | `(tactic| walk_at "r1") => `(tactic| first
  | (with_reducible refine s_var rfl ?_) | (with_reducible refine s_c ?_) | (with_reducible refine s_op ?_) | (with_reducible refine s_un ?_) | (with_reducible refine s_I0 ?_) | (with_reducible refine s_U ?_)
  | (with_reducible refine s_eqI ?_) | (with_reducible refine s_eqS ?_) | (with_reducible refine s_eqB ?_) | (with_reducible refine s_neI ?_) | (with_reducible refine s_neS ?_) | (with_reducible refine s_neB ?_)
  | (with_reducible refine s_isN1 ?_) | (with_reducible refine s_isN0 ?_) | (with_reducible refine s_notN1 ?_) | (with_reducible refine s_notN0 ?_) | (with_reducible refine s_isBl ?_) | (with_reducible refine s_notBl ?_)
  | (with_reducible refine s_test ?_) | (with_reducible refine s_B ?_) | (with_reducible refine s_bl ?_) | (with_reducible refine s_and ?_) | (with_reducible refine s_or ?_) | (with_reducible refine s_not ?_)
  | (with_reducible refine s_andV ?_) | (with_reducible refine s_orV ?_) | (with_reducible refine s_notV ?_) | (with_reducible refine s_ifE ?_) | (with_reducible refine s_chain ?_)
  | (with_reducible refine s_next ?_) | (with_reducible refine s_seq ?_) | (with_reducible refine s_drop ?_) | (with_reducible refine s_ret ?_) | (with_reducible refine s_retN ?_) | (with_reducible refine s_ifS ?_) | (with_reducible refine s_asg ?_)
  | ((with_reducible refine g_name ?_); refine s_name (by first | rfl) ?_) | (with_reducible refine s_parS ?_) | (with_reducible refine s_par ?_) | ((with_reducible refine g_nx ?_); refine s_nx rfl ?_) | (with_reducible refine s_gsub ?_) | (with_reducible refine s_gnil ?_) | (with_reducible refine s_gcons ?_)
  | (with_reducible refine s_call ?_) | (with_reducible refine s_cb ?_) | (with_reducible refine s_nil ?_) | (with_reducible refine s_cons ?_) | (with_reducible refine s_tupT ?_) | (with_reducible refine s_lstT ?_)
  | (with_reducible refine s_sl ?_) | (with_reducible refine s_nopart ?_) | (with_reducible refine s_part ?_) | (with_reducible refine s_int ?_) | (with_reducible refine s_bm ?_) | (with_reducible refine s_dget ?_) | (with_reducible refine s_dputS ?_)
  | (with_reducible refine s_forS ?_) | (with_reducible refine s_lc ?_) | (with_reducible refine s_iTup ?_) | (with_reducible refine s_iList ?_) | (with_reducible refine s_iRng1 ?_) | (with_reducible refine s_iRng2 ?_) | (with_reducible refine s_tYes ?_) | (with_reducible refine s_intI ?_) | (with_reducible refine s_intB ?_) | (with_reducible refine s_min2 ?_) | (with_reducible refine s_max2 ?_) | (with_reducible refine s_abs ?_) | (with_reducible refine s_revL ?_) | (with_reducible refine s_iEnumT ?_) | (with_reducible refine s_iEnum ?_) | (with_reducible refine s_iZipA ?_) | (with_reducible refine s_iZipM ?_) | (with_reducible refine s_iZip ?_) | (with_reducible refine s_iStr ?_) | (with_reducible refine s_star ?_) | (with_reducible refine s_lc2 ?_) | (with_reducible refine s_dc ?_) | (with_reducible refine s_bm ?_)
  | (with_reducible refine isi_int _ ?_) | (with_reducible refine isi_intB _ ?_) | (with_reducible refine isi_str _ ?_) | (with_reducible refine isi_non ?_)
  | (with_reducible refine iteT ?_) | (with_reducible refine iteF ?_) | (with_reducible refine iteNT ?_) | (with_reducible refine iteNF ?_))
local macro_rules | `(tactic| walk_at "r2") => `(tactic| first
  | ((with_reducible refine g_ixT ?_); first | (refine s_ixT (by walk_at "hx") rfl ?_) | (refine s_ixDs (by walk_at "hx") rfl ?_) | (refine s_ixDi (by walk_at "hx") rfl ?_) | (refine s_ixD (by walk_at "hx") rfl (fun _ _ => ?_)) | (refine s_ixD0s (by walk_at "hx") ?_))
  | ((with_reducible refine g_form ?_); first | (refine isDev_non ?_) | (refine isBr_non ?_) | (refine isDev_dev (by walk_at "hx") ?_) | (refine isDev_br (by walk_at "hx") ?_) | (refine isBr_dev (by walk_at "hx") ?_) | (refine isBr_br (by walk_at "hx") ?_))
  | ((with_reducible refine g_isi ?_); first | (with_reducible refine isi_dt (by walk_at "hx") ?_) | (with_reducible refine isi_tup (by walk_at "hx") ?_))
  | ((with_reducible refine g_len ?_); first | (with_reducible refine s_lenL (by walk_at "hx") ?_) | (with_reducible refine s_lenT (by walk_at "hx") ?_) | (with_reducible refine s_lenD (by walk_at "hx") ?_))
  | ((with_reducible refine g_ty ?_); first | (refine s_tyK (by assumption) ?_) | (with_reducible refine s_tyL (by walk_at "hx") ?_))
  | ((with_reducible refine g_tix ?_); first | (refine s_idx0 (by assumption) ?_) | (refine s_idx1 (by assumption) ?_))
  | ((with_reducible refine g_enT ?_); with_reducible refine s_enT (by walk_at "hx") ?_) | ((with_reducible refine g_enL ?_); with_reducible refine s_enL (by walk_at "hx") ?_)
  | ((with_reducible refine g_za ?_); first | (with_reducible refine s_zaT2 (by walk_at "hx") (by walk_at "hx") ?_) | (with_reducible refine s_zaL (by walk_at "hx") (by walk_at "hx") ?_))
  | ((with_reducible refine g_zm ?_); first | (with_reducible refine s_zmT (by walk_at "hx") (by walk_at "hx") ?_) | (with_reducible refine s_zmL (by walk_at "hx") (by walk_at "hx") ?_))
  | ((with_reducible refine g_zl ?_); with_reducible refine s_zl (by walk_at "hx") (by walk_at "hx") ?_)
  | ((with_reducible refine g_itT ?_); with_reducible refine s_itT (by walk_at "hx") ?_) | ((with_reducible refine g_itL ?_); with_reducible refine s_itL (by walk_at "hx") ?_)
  | ((with_reducible refine g_gtup ?_); refine s_gtup (by walk_at "hx") rfl ?_))
local macro_rules | `(tactic| walk_at "rd") => `(tactic| repeat (first | walk_at "r1" | walk_at "r2"))
local macro_rules | `(tactic| walk_at "sz") => `(tactic| (simp only [List.length_cons, List.length_nil, List.length_append, List.length_map, sizeLine_eq] <;> omega))
theorem cutS_apart {st sz : Int} (hz : 0 < sz) : ∀ {l : List Blk}, (∀ q ∈ l, q.1 < q.2 ∧ (q.2 ≤ st ∨ st + sz ≤ q.1)) → cutS st sz l = l
  | [], _ => rfl
  | q :: l, h => by
    obtain ⟨q1, q2⟩ := h q List.mem_cons_self
    rw [cutS_cons, cutP_apart q1 hz q2, cutS_apart hz fun z hz' => h z (List.mem_cons_of_mem _ hz')]
    rfl
theorem cutS_len1 {st sz : Int} (hz : 0 < sz) : ∀ {ps : List Blk}, ps.Pairwise SpAp → (∀ p ∈ ps, p.1 < p.2) → (cutS st sz ps).length ≤ ps.length + 1
  | [], _, _ => Nat.zero_le _
  | p :: r, h, hl => by
    obtain ⟨h1, h2⟩ := List.pairwise_cons.mp h
    rw [cutS_cons, List.length_append, List.length_cons]
    by_cases hin : p.1 ≤ st ∧ st + sz ≤ p.2
    · rw [cutS_apart hz fun q hq => ⟨hl q (List.mem_cons_of_mem _ hq), by have := h1 q hq; unfold SpAp at this; omega⟩]
      have : (cutP st sz p).length ≤ 2 := by
        unfold cutP
        exact List.length_filter_le _ _
      omega
    · have ih := cutS_len1 (st := st) hz h2 fun q hq => hl q (List.mem_cons_of_mem _ hq)
      have : (cutP st sz p).length ≤ 1 := by
        unfold cutP
        rw [List.filter_cons]
        split
        · rename_i c1
          have c1' : p.1 < min p.2 st := by simpa using c1
          rw [List.filter_cons, if_neg (by show ¬ decide (max p.1 (st + sz) < p.2) = true; simp; omega)]
          exact Nat.le_refl _
        · exact List.length_filter_le _ _
      omega
theorem s_dnew {σ : L2.St} {H : Hp} {Q : VK} (q : ∀ p H', H p = none → Ext [] H H' → H' p = some (.dK []) → Q (.ref p) H') : tDNewK σ H Q := s_new q
theorem pw_at8 {α : Type} {R : α → α → Prop} : ∀ {l : List α}, l.Pairwise R → ∀ {i j : Nat} {x y : α}, i < j → l[i]? = some x → l[j]? = some y → R x y
  | [], _, _, _, _, _, _, h, _ => by simp at h
  | z :: r, h, 0, j + 1, x, y, _, hx, hy => by
    have e : z = x := Option.some.inj hx
    subst e
    exact (List.pairwise_cons.mp h).1 y (mem_at (i := j) (by simpa using hy))
  | z :: r, h, i + 1, j + 1, x, y, hij, hx, hy => pw_at8 (List.pairwise_cons.mp h).2 (i := i) (j := j) (by omega) (by simpa using hx) (by simpa using hy)
theorem putK_le8 (c : List (Key × V)) (k : Key) (x : V) : (putK c k x).length ≤ c.length + 1 := by
  unfold putK
  split
  · rw [List.length_map]; omega
  · rw [List.length_append]; exact Nat.le_refl _
theorem mem_take_range {js : List Nat} {n j : Nat} (h : js.Perm (List.range n)) (hj : j < n) : j ∈ js := h.mem_iff.mpr (List.mem_range.mpr hj)
section
variable {P : Program} {w : World} {K : PySem.W.Frag} {mg : Str → Option Value} {base : Heap} {kd : Addr} {k : Nat}
abbrev sx_put : Stmt := top 61
abbrev N_put : List Str := ["_law_source_here", "_law_room_here", "_law_sizes_here", "_law_spans", "_law_found", "_law_k", "_law_starts", "_law_start", "_law_size"]
theorem sc_put : FnScope N_put ["_law_source_here", "_law_room_here", "_law_sizes_here"] (defScope sx_put) := ⟨rfl, rfl, rfl, by decide +kernel, rfl, by decide +kernel, by decide +kernel⟩
theorem ok_put (bi : Bi mg kd) (T : At K mg "_law_put" sx_put ["_law_source_here", "_law_room_here", "_law_sizes_here"]) (c_turns : Cal P w K mg base k "_law_turns" spTurns []) (c_free : Cal P w K mg base k "_law_free" spFree []) (c_pick : Cal P w K mg base k "_law_pick" spPick [])
    (c_cut : Cal P w K mg base k "_law_cut" spCut []) : Cal P w K mg base (k + 1) "_law_put" spPut [] := by
  refine T.ok sc_put (fun vs H Q E h => ?_) (fun f cdv A outer s H vs Q E hr h => ?_)
  · obtain ⟨a, l, c, n, v, rm, p, zs, rfl, _⟩ := h
    rfl
  have nd := sc_put.nd
  obtain ⟨a, l, c, n, v, rm, p, zs, rfl, hv, hrm, hrl, hp, hpa, hpl, hzl, hzs, src, q0, q1⟩ := h
  obtain ⟨av, xv, rfl, hav, hxv⟩ := hv.tupE
  have hxl : xv.length = rm.length := by rw [hxv.len, List.length_map]
  refine ⟨_, (pss_cons (ps_asg (pe_tup (pa_cons (pe_lc (own := [("_law_start", 7), ("_law_size", 8)]) (g := gTup K 2 (gCons (gName 7) (gCons (gName 8) (gNil)))) (by rfl) nd (pi_tup (pv 1)) (blkOk_by (own := [("_law_start", 7), ("_law_size", 8)]) (N := N_put) (sc := defScope sx_put) (by decide +kernel)) (fun _ _ _ _ _ => (pg_tup rfl (pgs_cons (pg_name (i := 7) nd rfl (Or.inl rfl)) (pgs_cons (pg_name (i := 8) nd rfl (Or.inl rfl)) pgs_nil)))) (fun _ _ _ _ _ => pts_nil) (fun _ _ _ _ _ => (pe_tup (pa_cons (pv 7) (pa_cons (pe_op op_add (pv 7) (pv 8)) pa_nil))))) (pa_cons pe_dnewK pa_nil))) (pg_tup rfl (pgs_cons (pg_name (i := 3) nd rfl (Or.inl rfl)) (pgs_cons (pg_name (i := 4) nd rfl (Or.inr rfl)) pgs_nil))))
      (pss_cons (ps_for PassesOwn.never rfl (pi_list (pe_c c_turns hr (by omega) (by rfl) (pa_cons (pv 2) pa_nil))) (pg_name (i := 5) nd rfl (Or.inl rfl)) (pss_cons (ps_set (i := 6) nd rfl (Or.inl rfl) (pe_c c_free hr (by omega) (by rfl) (pa_cons (pv 3) (pa_cons (pe_ix ix_list (pv 2) (pv 5) (fun _ _ => rfl)) pa_nil))))
      (pss_cons (ps_if (pt_cmpR (op_eqD hr.units) (pv 6) (pe_lst pa_nil) (nomark _)) (pss_one (ps_ret pe_non)) pss_nil)
      (pss_cons (ps_dput (hu_of hr) (pv 4) (pv 5) (pe_tup (pa_cons (pe_c c_pick hr (by omega) (by rfl) (pa_cons (pv 0) (pa_cons (pv 6) pa_nil))) (pa_cons (pe_ix ix_list (pv 2) (pv 5) (fun _ _ => rfl)) pa_nil))) rfl)
      (pss_one (ps_set (i := 3) nd rfl (Or.inl rfl) (pe_c c_cut hr (by omega) (by rfl) (pa_cons (pv 3) (pa_cons (pe_ix ix_tup (pe_dget (hu_of hr) (pv 4) (pv 5) (fun _ _ => rfl)) pe_int (fun _ _ => rfl)) (pa_cons (pe_ix ix_list (pv 2) (pv 5) (fun _ _ => rfl)) pa_nil))))))))))
      (pss_one (ps_ret (pe_lc (own := [("_law_k", 5)]) (g := gName 5) (by rfl) nd (pi_range1 (by rfl) bi.range (pa_cons (pe_callB (call_lenR (K := K) rfl) (by rfl) bi.len (by decide +kernel) (pa_cons (pv 2) pa_nil)) pa_nil)) (blkOk_by (own := [("_law_k", 5)]) (N := N_put) (sc := defScope sx_put) (by decide +kernel)) (fun _ _ _ _ _ => (pg_name (i := 5) nd rfl (Or.inl rfl))) (fun _ _ _ _ _ => pts_nil) (fun _ _ _ _ _ => (pe_dget (hu_of hr) (pv 4) (pv 5) (fun _ _ => rfl)))))))), ?_⟩
  walk_at "rd"
  refine lc_W walk_tup [] (fun i acc H' => DtAll H' acc (((rm.take i).map fun b => ((b.1, b.1 + b.2) : Blk)).map encB)) (fun H' e => SqT.of (e.tup _ _ hav)) (fun _ _ => .nil) (fun i x D acc H1 H2 hi hD e hacc hl hR y => ?_) (fun S0 acc H1 hS0 e1 hacc hl hR => ?_)
  · obtain ⟨rfl, hx⟩ := y
    obtain ⟨d, hd, hxd⟩ := hxv.getV hx
    obtain ⟨b, hb, rfl⟩ := map_at hd
    obtain ⟨t, rfl, ht⟩ := (hxd.ext e).blkE
    walk_at "rd"
    refine ⟨rfl, ?_⟩
    walk_at "rd"
    refine s_newD (ds := [.int b.1, .int (b.1 + b.2)]) (by walk_at "sz") (.two (.int _) (.int _)) (fun v3 H3 e3 hv3 => ?_)
    refine lc_put hD (e.then0 e3) (e3.at0 hacc) hl (by omega) (fun H4 e4 => ?_)
    rw [take1 hb, List.map_append, List.map_append]
    exact ((hR.e0 e3).ext e4).append (.one (hv3.ext e4))
  · rw [hxl, List.take_length] at hR
    walk_at "rd"
    refine s_dnew (fun D H2 hD e2 h2 => ?_)
    have src1 := src.e0 e1
    have hDa := src1.ne hD
    have hDp : p ≠ D := ne_some (e1.at0 hp) hD
    have hS0a := src.ne hS0
    have hS0D : S0 ≠ D := ne_some hacc hD
    walk_at "rd"
    refine s_newX (by walk_at "sz") (fun tq H3 htq e3 h3 => ?_)
    walk_at "rd"
    have e13 := e2.then0 e3
    have hp3 := (e1.then0 e13).at0 hp
    refine ⟨p, zs, rfl, hp3, by omega, fun J js H4 hJ e4 h4 ht => ?_⟩
    have hJa := (src1.e0 e13).ne hJ
    have hJD : J ≠ D := (ne_some (e3.at0 h2) hJ).symm
    have hp4 := e4.at0 hp3
    have e14 := e13.then0 e4
    have hD4 : H4 D = some (.dK []) := e4.at0 (e3.at0 h2)
    have hz : ∀ j, j < zs.length → (zs.map V.int)[j]? = some (.int (zs.getD j 0)) := fun j hj => by
      rw [List.getElem?_map, List.getElem?_eq_getElem hj, List.getD_eq_getElem?_getD, List.getElem?_eq_getElem hj]
      rfl
    have hzm : ∀ j, j < zs.length → zs.getD j 0 ∈ zs := fun j hj => by
      rw [List.getD_eq_getElem?_getD, List.getElem?_eq_getElem hj]
      exact List.getElem_mem hj
    have hjl : js.length = zs.length := by rw [ht.pm.length_eq, List.length_range]
    walk_at "rd"
    refine f_W walk_list (fun i σ H' => ∃ S xs, ∃ spans : List Blk, ∃ kvs, ∃ h : Nat → Blk, ∃ o5 o6 o7 o8, σ = [some (.ref a), some (.ref av), some (.ref p), some (.ref S), some (.ref D), o5, o6, o7, o8] ∧ Ext [a, l, D] H4 H' ∧ H' S = some (.lst xs) ∧ (S ≠ a ∧ S ≠ l ∧ S ≠ D) ∧ DtAll H' xs (spans.map encB) ∧ spans.length ≤ 100 + i ∧ H' D = some (.dK kvs) ∧ kvs.length ≤ i ∧ (∀ j ∈ js.take i, (∃ x, valV kvs (.inl (j : Int)) = some x ∧ Dt H' x (encB (h j))) ∧ (h j).2 = zs.getD j 0) ∧ PutInv rm spans ((js.take i).map h) ∧ Src H' a l c (n + 100 - i))
      ⟨S0, acc, _, [], fun _ => (0, 0), _, _, _, _, rfl, .refl, e14.at0 hacc, ⟨hS0a.1, hS0a.2.1, hS0D⟩, hR.e0 e14, by rw [List.length_map]; omega, hD4, Nat.zero_le _, (fun j hj => by cases hj), put_start hrm, src1.e0 e14⟩ (fun i σ H' _ h => by
        obtain ⟨_, _, _, _, _, _, _, _, _, _, e, _⟩ := h
        exact SqL.of (e.at h4 (ne3 hJa.1 hJa.2.1 hJD))) (fun i x σ H5 H6 hi hP y => ?_) (fun σ H5 hP => ?_)
    · obtain ⟨S, xs, spans, kvs, h, o5, o6, o7, o8, rfl, e5, hS, hSne, hxs, hsl, hD5, hkl, hval, I, src5⟩ := hP
      obtain ⟨rfl, hx⟩ := y
      obtain ⟨j, hj, rfl⟩ := map_at hx
      rw [List.length_map] at hi
      have hjn := ht.lt (mem_at hj)
      obtain ⟨z1, z2, z3⟩ := hzs _ (hzm j hjn)
      have hp5 := e5.at hp4 (ne3 hpa hpl hDp)
      have hble : ∀ b ∈ (js.take i).map h, zs.getD j 0 ≤ b.2 := fun b hb => by
        obtain ⟨j', hj', rfl⟩ := List.mem_map.mp hb
        rw [(hval j' hj').2]
        obtain ⟨m, hm⟩ := List.mem_iff_getElem?.mp hj'
        have hml : m < i := by
          have := at_lt hm
          rw [List.length_take] at this
          omega
        rw [List.getElem?_take_of_lt hml] at hm
        exact pw_at8 ht.de hml hm hj
      walk_at "rd"
      refine s_ixL hp5 (atI_nat (hz j hjn)) ?_
      walk_at "rd"
      refine ⟨S, xs, spans, _, rfl, hS, hxs, by omega, z3, by omega, fun L ns H7 hL e7 h7 hnl hn1 hn2 => ?_⟩
      have hLa := src5.ne hL
      have hLD : L ≠ D := (ne_some hD5 hL).symm
      walk_at "rd"
      refine s_newX (by walk_at "sz") (fun p8 H8 hp8 e8 h8 => ?_)
      refine s_eqNil (e8.at0 h7) .ints (plain_ints _) h8 ?_
      walk_at "rd"
      have e58 := e7.then0 e8
      refine ifd (fun c1 => ?_) (fun c1 => ?_)
      · walk_at "rd"
        refine q0 (I.stuck (s := zs.getD j 0) (sizes := zs) (more := (js.drop (i + 1)).map fun j => zs.getD j 0) z1 hble (hn2 (List.map_eq_nil_iff.mp c1)) ?_ (fun z hz => ?_)) _ ?_ ((src5.e0 e58).le (by omega))
        · have hpm := ht.perm
          have hsp : js = js.take i ++ j :: js.drop (i + 1) := by
            have h1 := List.take_append_drop i js
            rw [List.drop_eq_getElem_cons (by omega)] at h1
            have h2 : js[i]'(by omega) = j := by
              have := List.getElem?_eq_getElem (l := js) (i := i) (by omega)
              rw [hj] at this
              exact (Option.some.inj this).symm
            rw [h2] at h1
            exact h1.symm
          rw [show ((js.take i).map h).map (·.2) = (js.take i).map fun j => zs.getD j 0 from by
            rw [List.map_map]
            exact List.map_congr_left fun j' hj' => (hval j' hj').2]
          rw [hsp, List.map_append, List.map_cons] at hpm
          exact hpm
        · obtain ⟨j', hj', rfl⟩ := List.mem_map.mp hz
          have := (hzs _ (hzm j' (ht.lt (List.mem_of_mem_drop hj')))).2.1
          omega
        · exact Ext.d3 e1 (((Ext.mono0 e14).trans e5).then0 e58) (e1.free hD)
      · have hne : ns ≠ [] := fun z => c1 (by rw [z]; rfl)
        walk_at "rd"
        refine ⟨a, l, c, n + 100 - (i + 1), L, _, rfl, e8.at0 h7, hLa.1, hLa.2.1, (fun z => hne (List.map_eq_nil_iff.mp z)), by rw [List.length_map]; omega, (src5.e0 e58).le (by omega), fun xv2 H9 hxv2 e9 src9 => ?_⟩
        obtain ⟨st, hst, rfl⟩ := List.mem_map.mp hxv2
        have hfit := hn1 st hst
        have hp9 := e9.at (e58.at0 hp5) (ne2 hpa hpl)
        walk_at "rd"
        refine s_ixL hp9 (atI_nat (hz j hjn)) ?_
        walk_at "rd"
        refine s_newD (ds := [.int st, .int (zs.getD j 0)]) (by walk_at "sz") (.two (.int _) (.int _)) (fun bv H10 e10 hbv => ?_)
        have hD10 := e10.at0 (e9.at (e58.at0 hD5) (ne2 hDa.1 hDa.2.1))
        walk_at "rd"
        refine s_dputK (k := .inl (j : Int)) hD10 rfl (by rw [sizeLine_eq]; omega) (fun H11 e11 h11 => ?_)
        have e511 := (((Ext.mono0 (M := [a, l, D]) e58).trans (e9.mono nil3)).then0 e10).trans (e11.mono (fun x hx => by rw [List.mem_singleton.mp hx]; simp))
        have hS11 := e511.at hS (ne3 hSne.1 hSne.2.1 hSne.2.2)
        have hbv11 := hbv.ext e11
        have src11 := (src9.e0 e10).e1 e11 hDa
        have hp11 := e511.at hp5 (ne3 hpa hpl hDp)
        walk_at "rd"
        refine s_dgetK (k := .inl (j : Int)) h11 rfl (by rw [valV_put, if_pos rfl]) ?_
        walk_at "rd"
        refine s_ixL hp11 (atI_nat (hz j hjn)) ?_
        walk_at "rd"
        refine ⟨S, xs, spans, st, _, rfl, hS11, hxs.ext e511, by omega, fun q2 ys H12 hq2 e12 h12 hys => ?_⟩
        walk_at "rd"
        have hq2a := src11.ne hq2
        have I2 := I.step hrm z1 z2 hble hfit
        have hnj : j ∉ js.take i := fun hm => by
          obtain ⟨m, hm⟩ := List.mem_iff_getElem?.mp hm
          have hml : m < i := by
            have := at_lt hm
            rw [List.length_take] at this
            omega
          rw [List.getElem?_take_of_lt hml] at hm
          exact pw_at8 ht.nodup hml hm hj rfl
        have hmap : (js.take (i + 1)).map (fun j' => if j' = j then (st, zs.getD j 0) else h j') = (js.take i).map h ++ [(st, zs.getD j 0)] := by
          rw [take1 hj, List.map_append]
          congr 1
          · refine List.map_congr_left fun j' hj' => ?_
            have hne2 : j' ≠ j := fun z => hnj (by rw [← z]; exact hj')
            show (if j' = j then _ else _) = _
            rw [if_neg hne2]
          · show [if j = j then _ else _] = _
            rw [if_pos rfl]
        refine ⟨q2, ys, _, putK kvs (.inl (j : Int)) bv, fun j' => if j' = j then (st, zs.getD j 0) else h j', _, _, _, _, rfl, (e5.trans e511).then0 e12, h12, ⟨hq2a.1, hq2a.2.1, fun z => by rw [z, h11] at hq2; cases hq2⟩, hys, ?_, e12.at0 h11, Nat.le_trans (putK_le8 _ _ _) (by omega), fun j' hj' => ?_, by rw [hmap]; exact I2, src11.e0 e12⟩
        · have := cutS_len1 (st := st) (sz := zs.getD j 0) (by omega) I.sap I.slt
          omega
        · rw [take1 hj] at hj'
          by_cases ej : j' = j
          · subst ej
            refine ⟨⟨bv, by rw [valV_put, if_pos rfl], ?_⟩, ?_⟩
            · show Dt H12 bv (encB (if j' = j' then _ else _))
              rw [if_pos rfl]
              exact hbv11.e0 e12
            · show (if j' = j' then ((st, zs.getD j' 0) : Blk) else h j').2 = _
              rw [if_pos rfl]
          · rcases List.mem_append.mp hj' with hj' | hj'
            · obtain ⟨⟨x, hx1, hx2⟩, hx3⟩ := hval j' hj'
              refine ⟨⟨x, by rw [valV_put, if_neg (fun z => ej (by have := Sum.inl.inj z; omega))]; exact hx1, ?_⟩, ?_⟩
              · show Dt H12 x (encB (if j' = j then _ else _))
                rw [if_neg ej]
                exact (hx2.ext e511).e0 e12
              · show (if j' = j then ((st, zs.getD j 0) : Blk) else h j').2 = _
                rw [if_neg ej]; exact hx3
            · exact absurd (List.mem_singleton.mp hj') ej
    · obtain ⟨S, xs, spans, kvs, h, o5, o6, o7, o8, rfl, e5, hS, hSne, hxs, hsl, hD5, hkl, hval, I, src5⟩ := hP
      rw [List.length_map, List.take_length] at hval I
      have hp5 := e5.at hp4 (ne3 hpa hpl hDp)
      walk_at "rd"
      refine ⟨_, rfl, by omega, by rw [List.length_map]; omega, ?_⟩
      refine lc_W (n := zs.length) (by rw [List.length_map, Int.toNat_natCast]; exact walk_range) [] (fun i acc H' => DtAll H' acc (((List.range i).map h).map encB)) (fun _ _ => trivial) (fun _ _ => .nil) (fun i x D2 acc H6 H7 hi hD2 e hacc hl hR y => ?_) (fun D2 acc H6 hD2 e6 hacc hl hR => ?_)
      · obtain ⟨rfl, rfl⟩ := y
        obtain ⟨⟨x, hx1, hx2⟩, hx3⟩ := hval i (mem_take_range ht.pm hi)
        have hDe := e.at0 hD5
        walk_at "rd"
        refine ⟨rfl, ?_⟩
        walk_at "rd"
        refine s_dgetK (k := .inl ((0 : Int) + (i : Nat))) hDe rfl (by rw [Int.zero_add]; exact hx1) ?_
        refine lc_put hD2 e hacc hl (by omega) (fun H8 e8 => ?_)
        rw [List.range_succ, List.map_append, List.map_append]
        exact (hR.ext e8).append (.one ((hx2.e0 e).ext e8))
      · have hpm : (js.map h).Perm ((List.range zs.length).map h) := ht.pm.map h
        have hsnd : ((List.range zs.length).map h).map (·.2) = zs := by
          rw [List.map_map]
          have : (List.range zs.length).map ((·.2) ∘ h) = (List.range zs.length).map fun j => zs.getD j 0 := List.map_congr_left fun j hj => (hval j (mem_take_range ht.pm (List.mem_range.mp hj))).2
          rw [this]
          exact zs_range zs
        refine q1 D2 acc _ _ (e1.free (e14.free (e5.free hD2))) (Ext.d3 e1 (((Ext.mono0 e14).trans e5).then0 e6) (e1.free hD)) hacc hR hsnd (I.pl.perm hpm) (fun b hb => I.blk b (hpm.mem_iff.mpr hb)) ((src5.e0 e6).le ?_) ?_
        · rw [List.length_map]
          omega
        · have := I.fits.perm (hpm.map (·.2))
          rw [hsnd] at this
          exact this
end
end Bw

/-! the law: grown -/
namespace Bw
open PySem PySem.Spec PyProof.Rows L2
open C8 (Cal pe_c pe_gc)
open StX (pa_star tStar)
open RZ (pi_zipA iZipA)
-- the tactics of this text, by key
local macro_rules | `(tactic| walk_at "nm") => `(tactic| first | (intro hmem; cases hmem; done) | (simp only [List.mem_cons, List.mem_singleton, List.not_mem_nil, or_false, not_or, not_false_eq_true]; done) | (simp only [List.mem_cons, List.mem_singleton, List.not_mem_nil, or_false, not_or]; (repeat' apply And.intro) <;> first | assumption | exact Ne.symm (by assumption) | exact ne_some (by assumption) (by assumption) | exact Ne.symm (ne_some (by assumption) (by assumption))))
local macro_rules | `(tactic| walk_at "hx") => `(tactic| first | assumption | exact Dt.non | exact Dt.int _ | exact Dt.str _ | exact Dt.bl _ | (refine Dt.ext (by assumption) ?_; walk_at "hx") | (refine DtAll.ext (by assumption) ?_; walk_at "hx") | (refine Ext.at0 (by assumption) ?_; walk_at "hx") | (refine Ext.tupC (by assumption) ?_; walk_at "hx") | (refine Ext.atC (by assumption) ?_ (by walk_at "nm"); walk_at "hx"))
local macro_rules | `(tactic| walk_at "dm") => `(tactic| first | exact fun _ h => h | (refine dom_step (by assumption) ?_; walk_at "dm"))
local macro_rules | `(tactic| walk_at "fr") => `(tactic| first | assumption | (refine fr_of (by assumption) ?_; walk_at "dm"))
local macro_rules | `(tactic| walk_at "ex") => `(tactic| first | assumption | exact Ext.refl | exact Ext.mono0 (by assumption) | (refine Ext.then0 ?_ (by assumption); walk_at "ex") | (refine Ext.transC ?_ (by assumption); walk_at "ex") | (refine Ext.c1 ?_ (by assumption) (by walk_at "fr"); walk_at "ex") | (refine Ext.cm ?_ (by assumption) (by simp only [List.mem_cons, true_or, or_true]; done); walk_at "ex"))
local macro_rules | `(tactic| walk_at "r1") => `(tactic| first
  | (with_reducible refine s_var rfl ?_) | (with_reducible refine s_c ?_) | (with_reducible refine s_op ?_) | (with_reducible refine s_un ?_) | (with_reducible refine s_I0 ?_) | (with_reducible refine s_U ?_)
  | (with_reducible refine s_eqI ?_) | (with_reducible refine s_eqS ?_) | (with_reducible refine s_eqB ?_) | (with_reducible refine s_neI ?_) | (with_reducible refine s_neS ?_) | (with_reducible refine s_neB ?_)
  | (with_reducible refine s_isN1 ?_) | (with_reducible refine s_isN0 ?_) | (with_reducible refine s_notN1 ?_) | (with_reducible refine s_notN0 ?_) | (with_reducible refine s_isBl ?_) | (with_reducible refine s_notBl ?_)
  | (with_reducible refine s_test ?_) | (with_reducible refine s_B ?_) | (with_reducible refine s_bl ?_) | (with_reducible refine s_and ?_) | (with_reducible refine s_or ?_) | (with_reducible refine s_not ?_)
  | (with_reducible refine s_andV ?_) | (with_reducible refine s_orV ?_) | (with_reducible refine s_notV ?_) | (with_reducible refine s_ifE ?_) | (with_reducible refine s_chain ?_)
  | (with_reducible refine s_next ?_) | (with_reducible refine s_seq ?_) | (with_reducible refine s_drop ?_) | (with_reducible refine s_ret ?_) | (with_reducible refine s_retN ?_) | (with_reducible refine s_ifS ?_) | (with_reducible refine s_asg ?_)
  | ((with_reducible refine g_name ?_); refine s_name (by first | rfl) ?_) | (with_reducible refine s_parS ?_) | (with_reducible refine s_par ?_) | ((with_reducible refine g_nx ?_); refine s_nx rfl ?_) | (with_reducible refine s_gsub ?_) | (with_reducible refine s_gnil ?_) | (with_reducible refine s_gcons ?_)
  | (with_reducible refine s_call ?_) | (with_reducible refine s_cb ?_) | (with_reducible refine s_nil ?_) | (with_reducible refine s_cons ?_) | (with_reducible refine s_tupT ?_) | (with_reducible refine s_lstT ?_)
  | (with_reducible refine s_sl ?_) | (with_reducible refine s_nopart ?_) | (with_reducible refine s_part ?_) | (with_reducible refine s_int ?_) | (with_reducible refine s_bm ?_) | (with_reducible refine s_dget ?_) | (with_reducible refine s_dputS ?_)
  | (with_reducible refine s_forS ?_) | (with_reducible refine s_lc ?_) | (with_reducible refine s_iTup ?_) | (with_reducible refine s_iList ?_) | (with_reducible refine s_iRng1 ?_) | (with_reducible refine s_iRng2 ?_) | (with_reducible refine s_tYes ?_) | (with_reducible refine s_intI ?_) | (with_reducible refine s_intB ?_) | (with_reducible refine s_min2 ?_) | (with_reducible refine s_max2 ?_) | (with_reducible refine s_abs ?_) | (with_reducible refine s_revL ?_) | (with_reducible refine s_iEnumT ?_) | (with_reducible refine s_iEnum ?_) | (with_reducible refine s_iZipA ?_) | (with_reducible refine s_iZipM ?_) | (with_reducible refine s_iZip ?_) | (with_reducible refine s_iStr ?_) | (with_reducible refine s_star ?_) | (with_reducible refine s_lc2 ?_) | (with_reducible refine s_dc ?_) | (with_reducible refine s_bm ?_)
  | (with_reducible refine isi_int _ ?_) | (with_reducible refine isi_intB _ ?_) | (with_reducible refine isi_str _ ?_) | (with_reducible refine isi_non ?_)
  | (with_reducible refine iteT ?_) | (with_reducible refine iteF ?_) | (with_reducible refine iteNT ?_) | (with_reducible refine iteNF ?_))
local macro_rules | `(tactic| walk_at "r2") => `(tactic| first
  | ((with_reducible refine g_ixT ?_); first | (refine s_ixT (by walk_at "hx") rfl ?_) | (refine s_ixDs (by walk_at "hx") rfl ?_) | (refine s_ixDi (by walk_at "hx") rfl ?_) | (refine s_ixD (by walk_at "hx") rfl (fun _ _ => ?_)) | (refine s_ixD0s (by walk_at "hx") ?_))
  | ((with_reducible refine g_form ?_); first | (refine isDev_non ?_) | (refine isBr_non ?_) | (refine isDev_dev (by walk_at "hx") ?_) | (refine isDev_br (by walk_at "hx") ?_) | (refine isBr_dev (by walk_at "hx") ?_) | (refine isBr_br (by walk_at "hx") ?_))
  | ((with_reducible refine g_isi ?_); first | (with_reducible refine isi_dt (by walk_at "hx") ?_) | (with_reducible refine isi_tup (by walk_at "hx") ?_))
  | ((with_reducible refine g_len ?_); first | (with_reducible refine s_lenL (by walk_at "hx") ?_) | (with_reducible refine s_lenT (by walk_at "hx") ?_) | (with_reducible refine s_lenD (by walk_at "hx") ?_))
  | ((with_reducible refine g_ty ?_); first | (refine s_tyK (by assumption) ?_) | (with_reducible refine s_tyL (by walk_at "hx") ?_))
  | ((with_reducible refine g_tix ?_); first | (refine s_idx0 (by assumption) ?_) | (refine s_idx1 (by assumption) ?_))
  | ((with_reducible refine g_enT ?_); with_reducible refine s_enT (by walk_at "hx") ?_) | ((with_reducible refine g_enL ?_); with_reducible refine s_enL (by walk_at "hx") ?_)
  | ((with_reducible refine g_za ?_); first | (with_reducible refine s_zaT2 (by walk_at "hx") (by walk_at "hx") ?_) | (with_reducible refine s_zaL (by walk_at "hx") (by walk_at "hx") ?_))
  | ((with_reducible refine g_zm ?_); first | (with_reducible refine s_zmT (by walk_at "hx") (by walk_at "hx") ?_) | (with_reducible refine s_zmL (by walk_at "hx") (by walk_at "hx") ?_))
  | ((with_reducible refine g_zl ?_); with_reducible refine s_zl (by walk_at "hx") (by walk_at "hx") ?_)
  | ((with_reducible refine g_itT ?_); with_reducible refine s_itT (by walk_at "hx") ?_) | ((with_reducible refine g_itL ?_); with_reducible refine s_itL (by walk_at "hx") ?_)
  | ((with_reducible refine g_gtup ?_); refine s_gtup (by walk_at "hx") rfl ?_))
local macro_rules | `(tactic| walk_at "rd") => `(tactic| repeat (first | walk_at "r1" | walk_at "r2"))
local macro_rules | `(tactic| walk_at "sz") => `(tactic| (simp only [List.length_cons, List.length_nil, List.length_append, List.length_map, sizeLine_eq] <;> omega))
theorem GrZ.snoc {k : Str} {ps : List Part} {i : Nat} {p : Part} {xs ys : List Int} (hp : ps[i]? = some p) (h : GrZ k (ps.take i) xs) (g : GrZ k [p] ys) : GrZ k (ps.take (i + 1)) (xs ++ ys) := by
  rw [take1 hp]
  exact h.append g
theorem GrZ.dev1 (k : Str) (n : Str) (as : List Area) : GrZ k [.dev n as] (szA k as) := by
  have := GrZ.dev (k := k) (n := n) (as := as) GrZ.nil
  rwa [List.append_nil] at this
section
variable {P : Program} {w : World} {K : PySem.W.Frag} {mg : Str → Option Value} {base : Heap} {kd : Addr} {k : Nat}
abbrev sx_grown : Stmt := top 62
abbrev N_grown : List Str := ["_law_source_here", "_law_parts", "_law_kind", "_law_room_here", "_law_sizes_here", "_law_few", "_law_part_here", "_law_found", "_law_area_here"]
theorem sc_grown : FnScope N_grown ["_law_source_here", "_law_parts", "_law_kind", "_law_room_here"] (defScope sx_grown) := ⟨rfl, rfl, rfl, by decide +kernel, rfl, by decide +kernel, by decide +kernel⟩
theorem ok_grown (bi : Bi mg kd) (T : At K mg "_law_grown" sx_grown ["_law_source_here", "_law_parts", "_law_kind", "_law_room_here"]) (c_sizes : Cal P w K mg base k "_law_sizes" (spSizesOn 6) []) (c_least : Cal P w K mg base k "_law_least" (spLeastSize 6) []) (c_pick : Cal P w K mg base k "_law_pick" spPick [])
    (c_put : Cal P w K mg base k "_law_put" spPut []) : Cal P w K mg base (k + 1) "_law_grown" spGrown [] := by
  refine T.ok sc_grown (fun vs H Q E h => ?_) (fun f cdv A outer s H vs Q E hr h => ?_)
  · obtain ⟨a, l, c, n, v, ps, kk, u, rm, rfl, _⟩ := h
    rfl
  have nd := sc_grown.nd
  obtain ⟨a, l, c, n, v, ps, kk, u, rm, rfl, hv, htr, hkk, hu, hrm, hrl, src, q0, q1⟩ := h
  have hcn := htr.cn
  have hdp := htr.dp
  obtain ⟨av, xs, rfl, hav, hs⟩ := hv.tupE
  have hxl : xs.length = ps.length := by rw [hs.len, encs_len]
  refine ⟨_, (pss_cons (ps_par (i := 4) (j := 5) (by rfl) nd rfl rfl (by decide) rfl rfl (pa_cons (pe_lst pa_nil) (pa_cons (pe_c c_sizes hr (by omega) (by rfl) (pa_cons (pv 1) (pa_cons (pv 2) pa_nil))) pa_nil)) (by rfl))
      (pss_cons (ps_for PassesOwn.never rfl (pi_tup (pv 1)) (pg_name (i := 6) nd rfl (Or.inl rfl)) (pss_cons (ps_if (PW.pt (pw_and (pt_cmpR op_notN1 (pv 6) pe_non (nomark _)) (pw_and1 (pt_cmpR op_eq (pe_ix ix_tup (pv 6) pe_int (fun _ _ => rfl)) pe_str (nomark _))))) (pss_one (ps_expr (pe_bm PySem.F.plainAttrs_list PySem.F.slot_list_extend PySem.F.type_list_extend mt_extend (pv 4) (pa_cons (pe_lc (own := [("_law_area_here", 8)]) (g := gName 8) (by rfl) nd (pi_tup (pe_ix ix_tup (pv 6) pe_int (fun _ _ => rfl))) (blkOk_by (own := [("_law_area_here", 8)]) (N := N_grown) (sc := defScope sx_grown) (by decide +kernel)) (fun _ _ _ _ _ => (pg_name (i := 8) nd rfl (Or.inl rfl))) (fun _ _ _ _ _ => pts_one (pt_cmpR op_eq (pe_ix (ix_tupK (K := K) rfl) (pv 8) pe_int (fun _ _ => rfl)) (pv 2) (nomark _))) (fun _ _ _ _ _ => (pe_ix (ix_tupK (K := K) rfl) (pv 8) pe_int (fun _ _ => rfl)))) pa_nil)))) pss_nil)
      (pss_one (ps_if (PW.pt (pw_and (pt_cmpR op_notN1 (pv 6) pe_non (nomark _)) (pw_and (pt_cmpR op_eq (pe_ix ix_tup (pv 6) pe_int (fun _ _ => rfl)) pe_str (nomark _)) (pw_and1 (pt_cmpR op_gt (pe_c c_least hr (by omega) (by rfl) (pa_cons (pv 6) (pa_cons (pv 2) pa_nil))) pe_int (nomark _)))))) (pss_one (ps_expr (pe_bm PySem.F.plainAttrs_list PySem.F.slot_list_append PySem.F.type_list_append mt_append (pv 4) (pa_cons (pe_op op_shl (pe_c c_least hr (by omega) (by rfl) (pa_cons (pv 6) (pa_cons (pv 2) pa_nil))) (pe_c c_pick hr (by omega) (by rfl) (pa_cons (pv 0) (pa_cons (pe_lst (pa_cons pe_int (pa_cons pe_int (pa_cons pe_int (pa_cons pe_int pa_nil))))) pa_nil)))) pa_nil)))) pss_nil))))
      (pss_cons (ps_set (i := 7) nd rfl (Or.inl rfl) (pe_c c_put hr (by omega) (by rfl) (pa_cons (pv 0) (pa_cons (pv 3) (pa_cons (pv 4) pa_nil)))))
      (pss_one (ps_ret (pe_ifExp (pt_cmpR op_notN1 (pv 7) pe_non (nomark _)) (pv 7) (pe_c c_put hr (by omega) (by rfl) (pa_cons (pv 0) (pa_cons (pv 3) (pa_cons (pv 5) pa_nil)))))))))), ?_⟩
  walk_at "rd"
  refine s_newX (by walk_at "sz") (fun G H1 hG e1 h1 => ?_)
  have hGa := src.ne hG
  walk_at "rd"
  refine ⟨_, ps, _, rfl, .tup (e1.tup _ _ hav) (hs.e0 e1), hdp, by omega, fun W H2 hW e2 h2 => ?_⟩
  have hWa := (src.e0 e1).ne hW
  have hWG : W ≠ G := (ne_some h1 hW).symm
  have e12 := e1.then0 e2
  have src2 := src.e0 e12
  have hav2 := e12.tup _ _ hav
  have hs2 := hs.e0 e12
  walk_at "rd"
  refine f_W walk_tup (fun i σ H' => ∃ gs o6 o7 o8, σ = [some (.ref a), some (.ref av), some (.str kk), some u, some (.ref G), some (.ref W), o6, o7, o8] ∧ Ext [a, l, G] H2 H' ∧ H' G = some (.lst ((gs : List Int).map V.int)) ∧ GrZ kk (ps.take i) gs ∧ gs.length ≤ cnts (ps.take i) ∧ (∀ z ∈ gs, P2 z ∧ 16 ≤ z ∧ z ≤ 2 ^ 60) ∧ Src H' a l c (n + 300 - i))
    ⟨[], _, _, _, rfl, .refl, e2.at0 h1, .nil, Nat.zero_le _, (fun _ h => nomatch h), src2⟩ (fun i σ H' _ h => by
      obtain ⟨_, _, _, _, _, e, _⟩ := h
      exact SqT.of (e.tup _ _ hav2)) (fun i x σ H3 H4 hi hP y => ?_) (fun σ H3 hP => ?_)
  · obtain ⟨gs, o6, o7, o8, rfl, e3, h3, hgr, hgl, hgz, src3⟩ := hP
    obtain ⟨rfl, hx⟩ := y
    obtain ⟨d, hd, hxd0⟩ := hs2.getV hx
    obtain ⟨p, hp, rfl⟩ := encs_at hd
    have hxd := hxd0.ext e3
    have hpm := mem_at hp
    have hb1 := dep_mem hpm
    have hb2 := cnt_mem hpm
    have hpl := len_cnts ps
    have hi63 : i < 63 := by omega
    have hct := cnts_take ps i
    have hcs : cnts (ps.take (i + 1)) = cnts (ps.take i) + cnt p := by rw [take1 hp, cnts_append, cnts_one]
    walk_at "rd"
    cases p with
    | emp =>
      have := hxd.empE
      subst this
      walk_at "rd"
      refine ⟨gs ++ [], _, _, _, rfl, e3, by rw [List.append_nil]; exact h3, hgr.snoc hp (.emp .nil), by rw [List.append_nil]; omega, by rw [List.append_nil]; exact hgz, src3.le (by omega)⟩
    | dev nm as =>
      obtain ⟨t, u2, us, rfl, ht, hu2, hus⟩ := hxd.devE
      have hul : us.length = as.length := by rw [hus.len, List.length_map]
      have hla : 1 + as.length ≤ cnts ps := hb2
      have hmx : ∀ a ∈ as, ArOk a := (psMx_iff.mp htr.mx _ hpm).2
      walk_at "rd"
      refine ifd1 rfl ?_
      walk_at "rd"
      refine lc_W walk_tup [] (fun i acc _ => acc = (szA kk (as.take i)).map V.int) (fun H' e => SqT.of (e.tup _ _ hu2)) (fun _ _ => rfl) (fun i x D acc H4 H5 hi hD e4 hacc hl4 hR y => ?_) (fun D acc H4 hD e4 hacc hl4 hR => ?_)
      · obtain ⟨rfl, hx⟩ := y
        obtain ⟨d, hd', hxd⟩ := hus.getV hx
        obtain ⟨b, hb, rfl⟩ := map_at hd'
        obtain ⟨t2, rfl, ht2⟩ := (hxd.ext e4).areaE
        subst hR
        walk_at "rd"
        refine ⟨rfl, ?_⟩
        walk_at "rd"
        refine ifd (fun c => ?_) (fun c => ?_)
        · walk_at "rd"
          refine lc_put hD e4 hacc hl4 (by omega) (fun _ _ => ?_)
          unfold szA
          rw [take1 hb, List.filter_append, List.filter_cons, if_pos (decide_eq_true c), List.map_append, List.map_append]
          rfl
        · refine lc_skip e4 hacc hl4 ?_
          unfold szA
          rw [take1 hb, List.filter_append, List.filter_cons, if_neg (by simpa using c), List.map_append, List.map_append, List.filter_nil, List.map_nil, List.map_nil, List.append_nil]
      · rw [hul, List.take_length] at hR
        subst hR
        have hla2 := szA_len kk as
        have hl5 := e4.at0 h3
        walk_at "rd"
        refine s_extend hl5 hacc (by rw [List.length_map, List.length_map, sizeLine_eq]; omega) (fun H5 e5 h5 => ?_)
        have ht5 := e5.tup _ _ (e4.tup _ _ ht)
        walk_at "rd"
        refine ifd0 (by decide) ?_
        walk_at "rd"
        refine ⟨gs ++ szA kk as, _, _, _, rfl, (e3.then0 e4).trans (e5.mono (fun x hx => by rw [List.mem_singleton.mp hx]; simp)), by rw [List.map_append]; exact h5, hgr.snoc hp (GrZ.dev1 kk nm as), ?_, fun z hz => ?_, ((src3.e0 e4).e1 e5 hGa).le (by omega)⟩
        · rw [List.length_append, hcs]
          show _ ≤ _ + (1 + as.length)
          omega
        · rcases List.mem_append.mp hz with hz | hz
          · exact hgz z hz
          · obtain ⟨ar, har, rfl⟩ := List.mem_map.mp hz
            have h1 := hmx ar (List.mem_filter.mp har).1
            have h2 := h1.2
            exact ⟨h1.1.2.1, h1.1.2.2, by omega⟩
    | br nm ms ps2 =>
      have hd2 : deps ps2 + 1 ≤ deps ps := hb1
      have hc2 : 1 + cnts ps2 ≤ cnts ps := hb2
      have htk := htr.kids hpm
      have hlw := htk.lw kk
      obtain ⟨t, m, u2, us, rfl, ht, hm, hu2, hus⟩ := hxd.brE
      walk_at "rd"
      refine ifd0 (by decide) ?_
      walk_at "rd"
      refine ifd1 rfl ?_
      walk_at "rd"
      refine ⟨_, nm, ms, ps2, _, rfl, hxd, by omega, by omega, fun H4 e4 => ?_⟩
      walk_at "rd"
      refine ifd (fun cw => ?_) (fun cw => ?_)
      · have hG4 := e4.at0 h3
        walk_at "rd"
        refine ⟨_, nm, ms, ps2, _, rfl, hxd.e0 e4, by omega, by omega, fun H5 e5 => ?_⟩
        walk_at "rd"
        refine s_newX (by walk_at "sz") (fun L H6 hL e6 h6 => ?_)
        have hLa := ((src3.e0 e4).e0 e5).ne hL
        walk_at "rd"
        refine ⟨a, l, c, n + 300 - (i + 1), L, _, rfl, h6, hLa.1, hLa.2.1, (fun z => nomatch z), by walk_at "sz", (((src3.e0 e4).e0 e5).e0 e6).le (by omega), fun xv H7 hxv e7 src7 => ?_⟩
        obtain ⟨j, rfl, hj⟩ : ∃ j : Nat, xv = .int j ∧ j ≤ 2 := by
          simp only [List.mem_cons, List.not_mem_nil, or_false] at hxv
          rcases hxv with rfl | rfl | rfl | rfl
          · exact ⟨0, rfl, by decide⟩
          · exact ⟨0, rfl, by decide⟩
          · exact ⟨1, rfl, by decide⟩
          · exact ⟨2, rfl, by decide⟩
        have e37 := ((Ext.mono0 (M := [a, l]) ((e4.then0 e5).then0 e6)).trans e7)
        have hG7 := e37.at h3 (ne2 hGa.1 hGa.2.1)
        refine s_I ⟨by omega, by omega, by omega⟩ ?_
        rw [Int.toNat_natCast]
        have hlc := lw_cases (szs kk ps2)
        have hpw : (1 : Int) ≤ 2 ^ j ∧ (2 : Int) ^ j ≤ 4 := by
          match j, hj with
          | 0, _ => exact ⟨by decide, by decide⟩
          | 1, _ => exact ⟨by decide, by decide⟩
          | 2, _ => exact ⟨by decide, by decide⟩
          | j + 3, h => exact absurd h (by omega)
        have hz1 : lw (szs kk ps2) * 1 ≤ lw (szs kk ps2) * 2 ^ j := Int.mul_le_mul_of_nonneg_left hpw.1 (by omega)
        have hz2 : lw (szs kk ps2) * 2 ^ j ≤ lw (szs kk ps2) * 4 := Int.mul_le_mul_of_nonneg_left hpw.2 (by omega)
        have hz3 : P2 (lw (szs kk ps2)) ∧ 4096 ≤ lw (szs kk ps2) := by
          rcases hlc with h | h
          · omega
          · exact ⟨h.2.2.1, h.2.1⟩
        have hz4 := hz3.1.shl j
        generalize lw (szs kk ps2) * 2 ^ j = z at hz1 hz2 hz4 ⊢
        walk_at "rd"
        refine s_append hG7 (by rw [List.length_map, sizeLine_eq]; omega) (fun H8 e8 h8 => ?_)
        walk_at "rd"
        refine ⟨gs ++ [z], _, _, _, rfl, (e3.trans (e37.mono nil3)).trans (e8.mono (fun x hx => by rw [List.mem_singleton.mp hx]; simp)), by rw [List.map_append]; exact h8, hgr.snoc hp (.br1 cw (by omega) .nil), ?_, fun z' hz' => ?_, src7.e1 e8 hGa⟩
        · rw [List.length_append, hcs]
          show _ + 1 ≤ _ + (1 + cnts ps2)
          omega
        · rcases List.mem_append.mp hz' with hz' | hz'
          · exact hgz z' hz'
          · rw [List.mem_singleton.mp hz']
            exact ⟨hz4, by omega, by omega⟩
      · walk_at "rd"
        refine ⟨gs ++ [], _, _, _, rfl, e3.then0 e4, by rw [List.append_nil]; exact e4.at0 h3, hgr.snoc hp (.br0 (by have := lw_nonneg (szs kk ps2); omega) .nil), by rw [List.append_nil]; omega, by rw [List.append_nil]; exact hgz, (src3.e0 e4).le (by omega)⟩
  · obtain ⟨gs, o6, o7, o8, rfl, e3, h3, hgr, hgl, hgz, src3⟩ := hP
    rw [hxl, List.take_length] at hgr hgl
    rw [hxl] at src3
    have hpl := len_cnts ps
    have hu3 := (hu.e0 e12).ext e3
    have h2W := e3.at h2 (ne3 hWa.1 hWa.2.1 hWG)
    have eH : Ext [a, l] H H3 := Ext.d3 e12 e3 hG
    have hgn : ∀ z ∈ gs, 0 ≤ z := fun z hz => by have := (hgz z hz).2.1; omega
    have hfew : ∀ z ∈ szs kk ps, P2 z ∧ 16 ≤ z ∧ z ≤ 2 ^ 60 := fun z hz => by
      have h1 := szs_ok kk ps htr.ok z hz
      have h2 := mem_le_sum (szs_nn (k := kk) htr.ok) z hz
      have h3 := htr.sum kk
      exact ⟨h1.1, h1.2, by omega⟩
    walk_at "rd"
    refine ⟨a, l, c, n + 100, u, rm, G, gs, rfl, hu3, hrm, hrl, h3, hGa.1, hGa.2.1, by omega, hgz, src3.le (by omega), fun nf H4 e4 src4 => ?_, fun q xs4 bs H4 hq e4 h4 hbs hsn hpl4 hbk src4 fit => ?_⟩
    · walk_at "rd"
      refine ⟨a, l, c, n, u, rm, W, szs kk ps, rfl, hu3.ext e4, hrm, hrl, e4.at h2W (ne2 hWa.1 hWa.2.1), hWa.1, hWa.2.1, Nat.le_trans (szs_len kk ps) (by omega), hfew, src4, fun nf2 H5 e5 src5 => ?_, fun q xs5 bs H5 hq e5 h5 hbs hsn hpl5 hbk src5 fit => ?_⟩
      · exact q0 nf2 _ ((eH.trans e4).trans e5) src5
      · exact q1 q xs5 bs _ _ (eH.free (e4.free hq)) ((eH.trans e4).trans e5) h5 hbs hsn (GrZ.refl kk ps) hpl5 hbk src5 fit
    · walk_at "rd"
      exact q1 q xs4 bs _ _ (eH.free hq) (eH.trans e4) h4 hbs hsn hgr hpl4 hbk (src4.le (by omega)) (hgr.shr.fits hgn hrm.nn fit)
end
end Bw

/-! the law: drawn -/
namespace Bw
open PySem PySem.Spec PyProof.Rows L2
open C8 (Cal pe_c pe_gc)
open StX (pa_star tStar)
open RZ (pi_zipA iZipA)
-- the tactics of this text, by key
local macro_rules | `(tactic| walk_at "nm") => `(tactic| first | (intro hmem; cases hmem; done) | (simp only [List.mem_cons, List.mem_singleton, List.not_mem_nil, or_false, not_or, not_false_eq_true]; done) | (simp only [List.mem_cons, List.mem_singleton, List.not_mem_nil, or_false, not_or]; (repeat' apply And.intro) <;> first | assumption | exact Ne.symm (by assumption) | exact ne_some (by assumption) (by assumption) | exact Ne.symm (ne_some (by assumption) (by assumption))))
local macro_rules | `(tactic| walk_at "hx") => `(tactic| first | assumption | exact Dt.non | exact Dt.int _ | exact Dt.str _ | exact Dt.bl _ | (refine Dt.ext (by assumption) ?_; walk_at "hx") | (refine DtAll.ext (by assumption) ?_; walk_at "hx") | (refine Ext.at0 (by assumption) ?_; walk_at "hx") | (refine Ext.tupC (by assumption) ?_; walk_at "hx") | (refine Ext.atC (by assumption) ?_ (by walk_at "nm"); walk_at "hx"))
local macro_rules | `(tactic| walk_at "dm") => `(tactic| first | exact fun _ h => h | (refine dom_step (by assumption) ?_; walk_at "dm"))
local macro_rules | `(tactic| walk_at "fr") => `(tactic| first | assumption | (refine fr_of (by assumption) ?_; walk_at "dm"))
local macro_rules | `(tactic| walk_at "ex") => `(tactic| first | assumption | exact Ext.refl | exact Ext.mono0 (by assumption) | (refine Ext.then0 ?_ (by assumption); walk_at "ex") | (refine Ext.transC ?_ (by assumption); walk_at "ex") | (refine Ext.c1 ?_ (by assumption) (by walk_at "fr"); walk_at "ex") | (refine Ext.cm ?_ (by assumption) (by simp only [List.mem_cons, true_or, or_true]; done); walk_at "ex"))
local macro_rules | `(tactic| walk_at "r1") => `(tactic| first
  | (with_reducible refine s_var rfl ?_) | (with_reducible refine s_c ?_) | (with_reducible refine s_op ?_) | (with_reducible refine s_un ?_) | (with_reducible refine s_I0 ?_) | (with_reducible refine s_U ?_)
  | (with_reducible refine s_eqI ?_) | (with_reducible refine s_eqS ?_) | (with_reducible refine s_eqB ?_) | (with_reducible refine s_neI ?_) | (with_reducible refine s_neS ?_) | (with_reducible refine s_neB ?_)
  | (with_reducible refine s_isN1 ?_) | (with_reducible refine s_isN0 ?_) | (with_reducible refine s_notN1 ?_) | (with_reducible refine s_notN0 ?_) | (with_reducible refine s_isBl ?_) | (with_reducible refine s_notBl ?_)
  | (with_reducible refine s_test ?_) | (with_reducible refine s_B ?_) | (with_reducible refine s_bl ?_) | (with_reducible refine s_and ?_) | (with_reducible refine s_or ?_) | (with_reducible refine s_not ?_)
  | (with_reducible refine s_andV ?_) | (with_reducible refine s_orV ?_) | (with_reducible refine s_notV ?_) | (with_reducible refine s_ifE ?_) | (with_reducible refine s_chain ?_)
  | (with_reducible refine s_next ?_) | (with_reducible refine s_seq ?_) | (with_reducible refine s_drop ?_) | (with_reducible refine s_ret ?_) | (with_reducible refine s_retN ?_) | (with_reducible refine s_ifS ?_) | (with_reducible refine s_asg ?_)
  | ((with_reducible refine g_name ?_); refine s_name (by first | rfl) ?_) | (with_reducible refine s_parS ?_) | (with_reducible refine s_par ?_) | ((with_reducible refine g_nx ?_); refine s_nx rfl ?_) | (with_reducible refine s_gsub ?_) | (with_reducible refine s_gnil ?_) | (with_reducible refine s_gcons ?_)
  | (with_reducible refine s_call ?_) | (with_reducible refine s_cb ?_) | (with_reducible refine s_nil ?_) | (with_reducible refine s_cons ?_) | (with_reducible refine s_tupT ?_) | (with_reducible refine s_lstT ?_)
  | (with_reducible refine s_sl ?_) | (with_reducible refine s_nopart ?_) | (with_reducible refine s_part ?_) | (with_reducible refine s_int ?_) | (with_reducible refine s_bm ?_) | (with_reducible refine s_dget ?_) | (with_reducible refine s_dputS ?_)
  | (with_reducible refine s_forS ?_) | (with_reducible refine s_lc ?_) | (with_reducible refine s_iTup ?_) | (with_reducible refine s_iList ?_) | (with_reducible refine s_iRng1 ?_) | (with_reducible refine s_iRng2 ?_) | (with_reducible refine s_tYes ?_) | (with_reducible refine s_intI ?_) | (with_reducible refine s_intB ?_) | (with_reducible refine s_min2 ?_) | (with_reducible refine s_max2 ?_) | (with_reducible refine s_abs ?_) | (with_reducible refine s_revL ?_) | (with_reducible refine s_iEnumT ?_) | (with_reducible refine s_iEnum ?_) | (with_reducible refine s_iZipA ?_) | (with_reducible refine s_iZipM ?_) | (with_reducible refine s_iZip ?_) | (with_reducible refine s_iStr ?_) | (with_reducible refine s_star ?_) | (with_reducible refine s_lc2 ?_) | (with_reducible refine s_dc ?_) | (with_reducible refine s_bm ?_)
  | (with_reducible refine isi_int _ ?_) | (with_reducible refine isi_intB _ ?_) | (with_reducible refine isi_str _ ?_) | (with_reducible refine isi_non ?_)
  | (with_reducible refine iteT ?_) | (with_reducible refine iteF ?_) | (with_reducible refine iteNT ?_) | (with_reducible refine iteNF ?_))
local macro_rules | `(tactic| walk_at "r2") => `(tactic| first
  | ((with_reducible refine g_ixT ?_); first | (refine s_ixT (by walk_at "hx") rfl ?_) | (refine s_ixDs (by walk_at "hx") rfl ?_) | (refine s_ixDi (by walk_at "hx") rfl ?_) | (refine s_ixD (by walk_at "hx") rfl (fun _ _ => ?_)) | (refine s_ixD0s (by walk_at "hx") ?_))
  | ((with_reducible refine g_form ?_); first | (refine isDev_non ?_) | (refine isBr_non ?_) | (refine isDev_dev (by walk_at "hx") ?_) | (refine isDev_br (by walk_at "hx") ?_) | (refine isBr_dev (by walk_at "hx") ?_) | (refine isBr_br (by walk_at "hx") ?_))
  | ((with_reducible refine g_isi ?_); first | (with_reducible refine isi_dt (by walk_at "hx") ?_) | (with_reducible refine isi_tup (by walk_at "hx") ?_))
  | ((with_reducible refine g_len ?_); first | (with_reducible refine s_lenL (by walk_at "hx") ?_) | (with_reducible refine s_lenT (by walk_at "hx") ?_) | (with_reducible refine s_lenD (by walk_at "hx") ?_))
  | ((with_reducible refine g_ty ?_); first | (refine s_tyK (by assumption) ?_) | (with_reducible refine s_tyL (by walk_at "hx") ?_))
  | ((with_reducible refine g_tix ?_); first | (refine s_idx0 (by assumption) ?_) | (refine s_idx1 (by assumption) ?_))
  | ((with_reducible refine g_enT ?_); with_reducible refine s_enT (by walk_at "hx") ?_) | ((with_reducible refine g_enL ?_); with_reducible refine s_enL (by walk_at "hx") ?_)
  | ((with_reducible refine g_za ?_); first | (with_reducible refine s_zaT2 (by walk_at "hx") (by walk_at "hx") ?_) | (with_reducible refine s_zaL (by walk_at "hx") (by walk_at "hx") ?_))
  | ((with_reducible refine g_zm ?_); first | (with_reducible refine s_zmT (by walk_at "hx") (by walk_at "hx") ?_) | (with_reducible refine s_zmL (by walk_at "hx") (by walk_at "hx") ?_))
  | ((with_reducible refine g_zl ?_); with_reducible refine s_zl (by walk_at "hx") (by walk_at "hx") ?_)
  | ((with_reducible refine g_itT ?_); with_reducible refine s_itT (by walk_at "hx") ?_) | ((with_reducible refine g_itL ?_); with_reducible refine s_itL (by walk_at "hx") ?_)
  | ((with_reducible refine g_gtup ?_); refine s_gtup (by walk_at "hx") rfl ?_))
local macro_rules | `(tactic| walk_at "rd") => `(tactic| repeat (first | walk_at "r1" | walk_at "r2"))
local macro_rules | `(tactic| walk_at "sz") => `(tactic| (simp only [List.length_cons, List.length_nil, List.length_append, List.length_map, sizeLine_eq] <;> omega))
theorem s_dnew10 {σ : L2.St} {H : Hp} {Q : VK} (q : ∀ p H', H p = none → Ext [] H H' → H' p = some (.dK []) → Q (.ref p) H') : tDNewK σ H Q := s_new q
theorem s_zmAny {K : PySem.W.Frag} {H : Hp} {R : It → Hp → Prop} {a b : Addr} {xs ys : List V} {n : Nat} (h : H a = some (.lst xs)) (hb : H b = some (.lst ys) ∨ H b = some (.tup ys)) (hx : xs.length = n) (hy : ys.length = n)
    (q : ∀ J G, Walk J n G (YPair (fun i => xs[i]?) (fun i => ys[i]?)) → (∀ H', H' a = H a → H' b = H b → G H') → R J H) : rZM K [.ref a, .ref b] H R := by
  rcases hb with hb | hb
  · exact ⟨a, b, xs, ys, rfl, .inl ⟨SqL.of h, SqL.of hb, q _ _ (walk_zip (by omega)) fun H' h1 h2 => ⟨SqL.of (h1.trans h), SqL.of (h2.trans hb)⟩⟩⟩
  · exact ⟨a, b, xs, ys, rfl, .inr ⟨SqL.of h, SqT.of hb, q _ _ (walk_zipM hx hy) fun H' h1 h2 => ⟨SqL.of (h1.trans h), SqT.of (h2.trans hb)⟩⟩⟩
theorem GrZ.nil_inv {k : Str} {zs : List Int} (h : GrZ k [] zs) : zs = [] := by cases h; rfl
theorem GrZ.emp_inv {k : Str} {ps : List Part} {zs : List Int} (h : GrZ k (.emp :: ps) zs) : GrZ k ps zs := by cases h; assumption
theorem GrZ.dev_inv {k n : Str} {as : List Area} {ps : List Part} {zs : List Int} (h : GrZ k (.dev n as :: ps) zs) : ∃ r, zs = szA k as ++ r ∧ GrZ k ps r := by
  cases h
  exact ⟨_, rfl, by assumption⟩
theorem GrZ.br_inv {k n : Str} {ms : List Str} {qs ps : List Part} {zs : List Int} (h : GrZ k (.br n ms qs :: ps) zs) : (lw (szs k qs) = 0 ∧ GrZ k ps zs) ∨ (0 < lw (szs k qs) ∧ ∃ z r, zs = z :: r ∧ lw (szs k qs) ≤ z ∧ GrZ k ps r) := by
  cases h
  · exact .inl ⟨by assumption, by assumption⟩
  · exact .inr ⟨by assumption, _, _, rfl, by assumption, by assumption⟩
/-- what grown has left of a kind -/
structure Gd (k : Str) (ps : List Part) (rm bs : List Blk) : Prop where
  gz : GrZ k ps (bs.map (·.2))
  pl : Placed bs rm
  bk : ∀ b ∈ bs, IsBlk b
  ft : Fits rm (szs k ps)
def LsAt (H : Hp) (F : Addr) (bs : List Blk) : Prop := ∃ xs, H F = some (.lst xs) ∧ DtAll H xs (bs.map encB)
theorem LsAt.ext {H H' : Hp} {F : Addr} {bs : List Blk} {M : List Addr} (h : LsAt H F bs) (e : Ext M H H') (n : F ∉ M) : LsAt H' F bs := h.elim fun xs h => ⟨xs, e.at h.1 n, h.2.ext e⟩
theorem LsAt.e0 {H H' : Hp} {F : Addr} {bs : List Blk} (h : LsAt H F bs) (e : Ext [] H H') : LsAt H' F bs := h.ext e (fun z => nomatch z)
theorem asgPs_snoc {A : Str → Row} {l : List Part} {p : Part} (h : AsgPs A l) (g : AsgP A p) : AsgPs A (l ++ [p]) := asgPs_iff.mpr fun q hq => (List.mem_append.mp hq).elim (asgPs_iff.mp h q) fun h => by rw [List.mem_singleton.mp h]; exact g
theorem dok_snoc : ∀ {bs : List Blk} {as : List Area} {b : Blk} {a : Area}, DOk bs as → IsBlk b → b.2 = a.2 → DOk (bs ++ [b]) (as ++ [a])
  | [], [], _, _, _, h1, h2 => ⟨h1, h2, trivial⟩
  | [], _ :: _, _, _, h, _, _ => h.elim
  | _ :: _, [], _, _, h, _, _ => h.elim
  | _ :: _, _ :: _, _, _, h, h1, h2 => ⟨h.1, h.2.1, dok_snoc h.2.2 h1 h2⟩
theorem pick_snoc (k : Str) : ∀ {bs : List Blk} {as : List Area} {b : Blk} {a : Area}, bs.length = as.length → pickK k (bs ++ [b]) (as ++ [a]) = pickK k bs as ++ (if a.1 = k then [b] else [])
  | [], [], b, a, _ => by
    show (if a.1 = k then [b] else []) ++ [] = [] ++ _
    rw [List.append_nil, List.nil_append]
  | [], _ :: _, _, _, h => by cases h
  | _ :: _, [], _, _, h => by cases h
  | x :: bs, y :: as, b, a, h => by
    have := pick_snoc k (bs := bs) (as := as) (b := b) (a := a) (by simpa using h)
    show (if y.1 = k then [x] else []) ++ pickK k (bs ++ [b]) (as ++ [a]) = ((if y.1 = k then [x] else []) ++ pickK k bs as) ++ _
    rw [this, List.append_assoc]
section
variable {P : Program} {w : World} {K : PySem.W.Frag} {mg : Str → Option Value} {base : Heap} {kd : Addr} {k : Nat}
abbrev sx_drawn : Stmt := top 63
abbrev N_drawn : List Str := ["_law_source_here", "_law_parts", "_law_rooms_here", "_law_left_here", "_law_found", "_law_kind", "_law_room_here", "_law_part_here", "_law_row", "_law_k", "_law_one", "_law_area_here"]
theorem sc_drawn : FnScope N_drawn ["_law_source_here", "_law_parts", "_law_rooms_here"] (defScope sx_drawn) := ⟨rfl, rfl, rfl, by decide +kernel, rfl, by decide +kernel, by decide +kernel⟩
theorem ok_drawn0 (T : At K mg "_law_drawn" sx_drawn ["_law_source_here", "_law_parts", "_law_rooms_here"]) : Cal P w K mg base (k + 1) "_law_drawn" (spDrawn 0) [] := by
  refine T.ok sc_drawn (fun vs H Q E h => ?_) (fun f cdv A outer s H vs Q E hr h => ?_)
  · obtain ⟨a, l, c, n, v, ps, u, rf, re, rfl, _⟩ := h
    rfl
  obtain ⟨a, l, c, n, v, ps, u, rf, re, rfl, _, _, h, _⟩ := h
  omega
theorem ok_drawn {ff : Nat} (bi : Bi mg kd) (T : At K mg "_law_drawn" sx_drawn ["_law_source_here", "_law_parts", "_law_rooms_here"]) (c_grown : Cal P w K mg base k "_law_grown" spGrown []) (c_least : Cal P w K mg base k "_law_least" (spLeastSize 6) [])
    (c_drawn : Cal P w K mg base k "_law_drawn" (spDrawn ff) []) : Cal P w K mg base (k + 1) "_law_drawn" (spDrawn (ff + 1)) [] := by
  refine T.ok sc_drawn (fun vs H Q E h => ?_) (fun f cdv A outer s H vs Q E hr h => ?_)
  · obtain ⟨a, l, c, n, v, ps, u, rf, re, rfl, _⟩ := h
    rfl
  have nd := sc_drawn.nd
  obtain ⟨a, l, c, n, v, ps, u, rf, re, rfl, hv, htr, hdf, hrooms, hrf, hre, hfl, hel, src, q0, q1⟩ := h
  obtain ⟨r, x0, y0, rfl, hr2, hx0, hy0⟩ := hrooms
  have hcn := htr.cn
  have hdp := htr.dp
  obtain ⟨av, xs, rfl, hav, hs⟩ := hv.tupE
  have hxl : xs.length = ps.length := by rw [hs.len, encs_len]
  have hrne : ∃ o, H r = some o := hr2.elim (fun h => ⟨_, h.1⟩) fun h => ⟨_, h⟩
  obtain ⟨ro, hro⟩ := hrne
  have hrb : H r = some (.lst [x0, y0]) ∨ H r = some (.tup [x0, y0]) := hr2.elim (fun h => .inl h.1) .inr
  have hrk : ∀ {M : List Addr} {H' : Hp}, Ext M H H' → (∀ p ∈ M, p = a ∨ p = l ∨ H p = none) → H' r = H r := fun {M H'} e hM => by
    rcases hr2 with ⟨h1, h2, h3⟩ | h1
    · rw [h1]
      refine e.at h1 fun hm => ?_
      rcases hM r hm with z | z | z
      · exact h2 z
      · exact h3 z
      · rw [h1] at z; cases z
    · rw [h1]; exact e.tup _ _ h1
  refine ⟨_, (pss_cons (ps_asg (pe_tup (pa_cons pe_dnewK (pa_cons (pe_lst pa_nil) pa_nil))) (pg_tup rfl (pgs_cons (pg_name (i := 3) nd rfl (Or.inr rfl)) (pgs_cons (pg_name (i := 4) nd rfl (Or.inl rfl)) pgs_nil))))
      (pss_cons (ps_for PassesOwn.never rfl (pi_zipM (by rfl) bi.zip (pa_cons (pe_lst (pa_cons pe_str (pa_cons pe_str pa_nil))) (pa_cons (pv 2) pa_nil))) (pg_tup rfl (pgs_cons (pg_name (i := 5) nd rfl (Or.inl rfl)) (pgs_cons (pg_name (i := 6) nd rfl (Or.inl rfl)) pgs_nil))) (pss_cons (ps_dput (hu_of hr) (pv 3) (pv 5) (pe_c c_grown hr (by omega) (by rfl) (pa_cons (pv 0) (pa_cons (pv 1) (pa_cons (pv 5) (pa_cons (pv 6) pa_nil))))) rfl)
      (pss_one (ps_if (pt_cmpR op_isN1 (pe_dget (hu_of hr) (pv 3) (pv 5) (fun _ _ => rfl)) pe_non (nomark _)) (pss_one (ps_ret pe_non)) pss_nil))))
      (pss_cons (ps_for PassesOwn.never rfl (pi_tup (pv 1)) (pg_name (i := 7) nd rfl (Or.inl rfl)) (pss_cons (ps_if (PW.pt (pw_and (pt_cmpR op_notN1 (pv 7) pe_non (nomark _)) (pw_and1 (pt_cmpR op_eq (pe_ix ix_tup (pv 7) pe_int (fun _ _ => rfl)) pe_str (nomark _))))) (pss_one (ps_expr (pe_bm PySem.F.plainAttrs_list PySem.F.slot_list_append PySem.F.type_list_append mt_append (pv 4) (pa_cons (pe_tup (pa_cons (pe_ix ix_tup (pv 7) pe_int (fun _ _ => rfl)) (pa_cons (pe_callTy (call_tupR (K := K) rfl) (by rfl) bi.tuple (by decide +kernel) (pa_cons (pe_lc (own := [("_law_area_here", 11)]) (g := gName 11) (by rfl) nd (pi_tup (pe_ix ix_tup (pv 7) pe_int (fun _ _ => rfl))) (blkOk_by (own := [("_law_area_here", 11)]) (N := N_drawn) (sc := defScope sx_drawn) (by decide +kernel)) (fun _ _ _ _ _ => (pg_name (i := 11) nd rfl (Or.inl rfl))) (fun _ _ _ _ _ => pts_nil) (fun _ _ _ _ _ => (pe_bmK (K := K) rfl PySem.F.plainAttrs_list PySem.F.slot_list_pop PySem.F.type_list_pop mt_popAt (pe_dget (hu_of hr) (pv 3) (pe_ix (ix_tupK (K := K) rfl) (pv 11) pe_int (fun _ _ => rfl)) (fun _ _ => rfl)) (pa_cons pe_int pa_nil)))) pa_nil)) pa_nil))) pa_nil)))) pss_nil)
      (pss_one (ps_if (PW.pt (pw_and (pt_cmpR op_notN1 (pv 7) pe_non (nomark _)) (pw_and1 (pt_cmpR op_eq (pe_ix ix_tup (pv 7) pe_int (fun _ _ => rfl)) pe_str (nomark _))))) (pss_cons (ps_set (i := 8) nd rfl (Or.inl rfl) (pe_lst (pa_cons pe_non (pa_cons pe_non pa_nil))))
      (pss_cons (ps_for PassesOwn.never rfl (pi_enum (by rfl) bi.enumerate (pa_cons (pe_lst (pa_cons pe_str (pa_cons pe_str pa_nil))) pa_nil)) (pg_tup rfl (pgs_cons (pg_name (i := 9) nd rfl (Or.inl rfl)) (pgs_cons (pg_name (i := 5) nd rfl (Or.inl rfl)) pgs_nil))) (pss_one (ps_if (pt_cmpR op_gt (pe_c c_least hr (by omega) (by rfl) (pa_cons (pv 7) (pa_cons (pv 5) pa_nil))) pe_int (nomark _)) (pss_one (ps_asg (pe_bm PySem.F.plainAttrs_list PySem.F.slot_list_pop PySem.F.type_list_pop mt_popAt (pe_dget (hu_of hr) (pv 3) (pv 5) (fun _ _ => rfl)) (pa_cons pe_int pa_nil)) (pg_sub (pv 8) (pv 9) set_list))) pss_nil)))
      (pss_cons (ps_expr (pe_bm PySem.F.plainAttrs_list PySem.F.slot_list_append PySem.F.type_list_append mt_append (pv 4) (pa_cons (pe_tup (pa_cons (pe_ix ix_tup (pv 7) pe_int (fun _ _ => rfl)) (pa_cons (pe_ix ix_list (pv 8) pe_int (fun _ _ => rfl)) (pa_cons (pe_ix ix_list (pv 8) pe_int (fun _ _ => rfl)) pa_nil)))) pa_nil)))
      (pss_one (ps_expr (pe_bm PySem.F.plainAttrs_list PySem.F.slot_list_extend PySem.F.type_list_extend mt_extend (pv 4) (pa_cons (pe_c c_drawn hr (by omega) (by rfl) (pa_cons (pv 0) (pa_cons (pe_ix ix_tup (pv 7) pe_int (fun _ _ => rfl)) (pa_cons (pe_lc (own := [("_law_one", 10)]) (g := gName 10) (by rfl) nd (pi_list (pv 8)) (blkOk_by (own := [("_law_one", 10)]) (N := N_drawn) (sc := defScope sx_drawn) (by decide +kernel)) (fun _ _ _ _ _ => (pg_name (i := 10) nd rfl (Or.inl rfl))) (fun _ _ _ _ _ => pts_nil) (fun _ _ _ _ _ => (pe_ifExp (pt_cmpR op_notN1 (pv 10) pe_non (nomark _)) (pe_tup (pa_cons (pv 10) pa_nil)) (pe_tup pa_nil)))) pa_nil)))) pa_nil))))))) pss_nil))))
      (pss_one (ps_ret (pv 4)))))), ?_⟩
  walk_at "rd"
  refine s_dnew10 (fun D H1 hD e1 h1 => ?_)
  have hDa := src.ne hD
  walk_at "rd"
  refine s_newX (by walk_at "sz") (fun Fd H2 hFd e2 h2 => ?_)
  have hFda := (src.e0 e1).ne hFd
  walk_at "rd"
  refine s_newX (by walk_at "sz") (fun tq H3 htq e3 h3 => ?_)
  walk_at "rd"
  refine s_newX (by walk_at "sz") (fun L H4 hL e4 h4 => ?_)
  have e04 := ((e1.then0 e2).then0 e3).then0 e4
  have hLa := (((src.e0 e1).e0 e2).e0 e3).ne hL
  have hHL : H L = none := e1.free (e2.free (e3.free hL))
  have hHFd : H Fd = none := e1.free hFd
  have hD4 : H4 D = some (.dK []) := (e2.then0 (e3.then0 e4)).at0 h1
  have hFd4 : H4 Fd = some (.lst []) := (e3.then0 e4).at0 h2
  have hLD : L ≠ D := (ne_some ((e2.then0 e3).at0 h1) hL).symm
  have hFdD : Fd ≠ D := (ne_some h1 hFd).symm
  have hFdL : Fd ≠ L := ne_some (e3.at0 h2) hL
  have hrk4 := hrk e04 (fun _ z => nomatch z)
  walk_at "rd"
  refine s_zmAny (n := 2) (ys := [x0, y0]) h4 (by rw [hrk4]; exact hrb) rfl rfl (fun J G wk hG => ?_)
  refine f_W wk (fun i σ H' => ∃ kvs o5 o6 o7 o8 o9 o10 o11, σ = [some (.ref a), some (.ref av), some (.ref r), some (.ref D), some (.ref Fd), o5, o6, o7, o8, o9, o10, o11] ∧ Ext [a, l] H H' ∧ H' D = some (.dK kvs) ∧ H' L = H4 L ∧ H' r = H4 r ∧ H' Fd = some (.lst []) ∧ Src H' a l c (n + 1000 * (cnts ps + 1) - 300 * i) ∧
      ((i = 0 ∧ kvs = []) ∨ (i = 1 ∧ ∃ F bf, kvs = [(.inr kF, .ref F)] ∧ LsAt H' F bf ∧ Gd kF ps rf bf ∧ F ≠ a ∧ F ≠ l ∧ F ≠ Fd ∧ F ≠ D ∧ H F = none) ∨
       (i = 2 ∧ ∃ F N bf bn, kvs = [(.inr kF, .ref F), (.inr kN, .ref N)] ∧ LsAt H' F bf ∧ LsAt H' N bn ∧ Gd kF ps rf bf ∧ Gd kN ps re bn ∧ F ≠ a ∧ F ≠ l ∧ F ≠ Fd ∧ N ≠ a ∧ N ≠ l ∧ N ≠ Fd ∧ F ≠ N ∧ H F = none ∧ H N = none)))
    ⟨[], _, _, _, _, _, _, _, rfl, Ext.mono0 e04, hD4, rfl, rfl, hFd4, src.e0 e04, .inl ⟨rfl, rfl⟩⟩ (fun i σ H' _ h => by
      obtain ⟨_, _, _, _, _, _, _, _, _, _, _, h1, h2, _⟩ := h
      exact hG H' h1 h2) (fun i x σ H5 H6 hi hP y => ?_) (fun σ H5 hP => ?_)
  · obtain ⟨kvs, o5, o6, o7, o8, o9, o10, o11, rfl, e5, hD5, hL5, hr5, hFd5, src5, hcase⟩ := hP
    obtain ⟨T2, x, z, rfl, hT, e6, hT2, hx, hz⟩ := YPair.get y
    have hv6 : Dt H6 (.ref av) (.tuple (encs ps)) := .tup (e6.tup _ _ (e5.tup _ _ hav)) ((hs.ext e5).e0 e6)
    have src6 := src5.e0 e6
    have hD6 := e6.at0 hD5
    have hFd6 := e6.at0 hFd5
    have e06 := e5.then0 e6
    clear y
    rcases hcase with ⟨rfl, rfl⟩ | ⟨rfl, F, bf, rfl, hF5, hGf, hFa, hFl, hFFd, hFD, hHF⟩ | ⟨rfl, _⟩
    · cases hx
      cases hz
      walk_at "rd"
      refine ⟨a, l, c, n + 1000 * (cnts ps + 1) - 300, _, ps, kF, _, rf, rfl, hv6, htr, .inl rfl, hx0.ext e06, hrf, hfl, src6.le (by omega), fun nf H7 e7 src7 => ?_, fun F xf bf zf H7 hF e7 h7 hbf hsn hgz hpl hbk src7 fit => ?_⟩
      · walk_at "rd"
        refine s_dputK (k := .inr kF) (e7.at hD6 (ne2 hDa.1 hDa.2.1)) rfl (by walk_at "sz") (fun H8 e8 h8 => ?_)
        walk_at "rd"
        refine s_dgetK (k := .inr kF) h8 rfl (by rw [valV_put, if_pos rfl]) ?_
        walk_at "rd"
        exact q0 (fun z => nf z.1) _ ((e06.trans e7).c1 e8 hD) ((src7.e1 e8 hDa).le (by omega))
      · have hFa := src6.ne hF
        have hHF := e06.free hF
        have hFD : F ≠ D := (ne_some hD6 hF).symm
        have hFL : F ≠ L := fun z => by rw [z] at hF; have := e6.free hF; rw [hL5, h4] at this; cases this
        have hFr : F ≠ r := fun z => by rw [z, hro] at hHF; cases hHF
        have hFFd : F ≠ Fd := fun z => by rw [z, hFd6] at hF; cases hF
        walk_at "rd"
        refine s_dputK (k := .inr kF) (e7.at hD6 (ne2 hDa.1 hDa.2.1)) rfl (by walk_at "sz") (fun H8 e8 h8 => ?_)
        walk_at "rd"
        refine s_dgetK (k := .inr kF) h8 rfl (by rw [valV_put, if_pos rfl]) ?_
        walk_at "rd"
        have e58 : Ext [a, l, D] H5 H8 := ((Ext.mono0 e6).trans (e7.mono nil3)).trans (e8.mono (fun x hx => by rw [List.mem_singleton.mp hx]; simp))
        have hL5' := hL5.trans h4
        have hL8 : H8 L = H5 L := (e58.at hL5' (ne3 hLa.1 hLa.2.1 hLD)).trans hL5'.symm
        refine ⟨_, _, _, _, _, _, _, _, rfl, (e06.trans e7).c1 e8 hD, h8, hL8.trans hL5, ?_, e58.at hFd5 (ne3 hFda.1 hFda.2.1 hFdD), (src7.e1 e8 hDa).le (by omega), .inr (.inl ⟨rfl, F, bf, rfl, ⟨xf, e8.at h7 (ne1 hFD), hbf.ext e8⟩, ⟨by rw [hsn]; exact hgz, hpl, hbk, fit⟩, hFa.1, hFa.2.1, hFFd, hFD, hHF⟩)⟩
        exact (hrk ((e06.trans e7).c1 e8 hD) (fun p hp => by simp only [List.mem_cons, List.not_mem_nil, or_false] at hp; rcases hp with rfl | rfl <;> simp)).trans hrk4.symm
    · cases hx
      cases hz
      have hF6 := hF5.e0 e6
      walk_at "rd"
      refine ⟨a, l, c, n + 1000 * (cnts ps + 1) - 600, _, ps, kN, _, re, rfl, hv6, htr, .inr rfl, hy0.ext e06, hre, hel, src6.le (by omega), fun nf H7 e7 src7 => ?_, fun N xn bn zn H7 hN e7 h7 hbn hsn hgz hpl hbk src7 fit => ?_⟩
      · walk_at "rd"
        refine s_dputK (k := .inr kN) (e7.at hD6 (ne2 hDa.1 hDa.2.1)) rfl (by walk_at "sz") (fun H8 e8 h8 => ?_)
        walk_at "rd"
        refine s_dgetK (k := .inr kN) h8 rfl (by rw [valV_put, if_pos rfl]) ?_
        walk_at "rd"
        exact q0 (fun z => nf z.2) _ ((e06.trans e7).c1 e8 hD) ((src7.e1 e8 hDa).le (by omega))
      · have hNa := src6.ne hN
        have hHN := e06.free hN
        have hND : N ≠ D := (ne_some hD6 hN).symm
        have hNr : N ≠ r := fun z => by rw [z, hro] at hHN; cases hHN
        have hNFd : N ≠ Fd := fun z => by rw [z, hFd6] at hN; cases hN
        have hFN : F ≠ N := fun z => by
          obtain ⟨xs, hx, _⟩ := hF6
          rw [z, hN] at hx
          cases hx
        walk_at "rd"
        refine s_dputK (k := .inr kN) (e7.at hD6 (ne2 hDa.1 hDa.2.1)) rfl (by walk_at "sz") (fun H8 e8 h8 => ?_)
        walk_at "rd"
        refine s_dgetK (k := .inr kN) h8 rfl (by rw [valV_put, if_pos rfl]) ?_
        walk_at "rd"
        have e58 : Ext [a, l, D] H5 H8 := ((Ext.mono0 e6).trans (e7.mono nil3)).trans (e8.mono (fun x hx => by rw [List.mem_singleton.mp hx]; simp))
        have hL5' := hL5.trans h4
        have hL8 : H8 L = H5 L := (e58.at hL5' (ne3 hLa.1 hLa.2.1 hLD)).trans hL5'.symm
        refine ⟨_, _, _, _, _, _, _, _, rfl, (e06.trans e7).c1 e8 hD, h8, hL8.trans hL5, ?_, e58.at hFd5 (ne3 hFda.1 hFda.2.1 hFdD), (src7.e1 e8 hDa).le (by omega), .inr (.inr ⟨rfl, F, N, bf, bn, rfl, hF5.ext e58 (ne3 hFa hFl hFD), ⟨xn, e8.at h7 (ne1 hND), hbn.ext e8⟩, hGf, ⟨by rw [hsn]; exact hgz, hpl, hbk, fit⟩, hFa, hFl, hFFd, hNa.1, hNa.2.1, hNFd, hFN, hHF, hHN⟩)⟩
        exact (hrk ((e06.trans e7).c1 e8 hD) (fun p hp => by simp only [List.mem_cons, List.not_mem_nil, or_false] at hp; rcases hp with rfl | rfl <;> simp)).trans hrk4.symm
    · omega
  · obtain ⟨kvs, o5, o6, o7, o8, o9, o10, o11, rfl, e5, hD5, _, _, hFd5, src5, hcase⟩ := hP
    rcases hcase with ⟨h, _⟩ | ⟨h, _⟩ | ⟨_, F, N, bf, bn, rfl, hF5, hN5, hGf, hGn, hFa, hFl, hFFd, hNa, hNl, hNFd, hFN, hHF, hHN⟩
    · omega
    · omega
    have hav5 := e5.tup _ _ hav
    have hs5 := hs.ext e5
    have hFD : F ≠ D := fun z => by
      obtain ⟨xs, hx, _⟩ := hF5
      rw [z, hD5] at hx
      cases hx
    have hND : N ≠ D := fun z => by
      obtain ⟨xs, hx, _⟩ := hN5
      rw [z, hD5] at hx
      cases hx
    have hFsrc := src.ne hHF
    have hNsrc := src.ne hHN
    have src5' : Src H5 a l c (n + 1000 * cnts ps) := src5.le (by omega)
    clear src5
    walk_at "rd"
    refine f_W walk_tup (fun i σ H' => ∃ (o5 o6 o7 o8 o9 o10 o11 : Option V) (rs : List Row) (ys : List V) (bfU bfR bnU bnR : List Blk), σ = [some (.ref a), some (.ref av), some (.ref r), some (.ref D), some (.ref Fd), o5, o6, o7, o8, o9, o10, o11] ∧ Ext [a, l, Fd, F, N] H5 H' ∧ Src H' a l c (n + 1000 * cnts (ps.drop i)) ∧
        H' Fd = some (.lst ys) ∧ DtAll H' ys (rs.map Row.enc) ∧ rs.map Row.nm = nmss (ps.take i) ∧ bf = bfU ++ bfR ∧ bn = bnU ++ bnR ∧ LsAt H' F bfR ∧ LsAt H' N bnR ∧ GrZ kF (ps.drop i) (bfR.map (fun b : Blk => b.2)) ∧ GrZ kN (ps.drop i) (bnR.map (fun b : Blk => b.2)) ∧
        ∀ A : Str → Row, (∀ r ∈ rs, A r.nm = r) → AsgPs A (ps.take i) ∧ bks kF A (ps.take i) = bfU ∧ bks kN A (ps.take i) = bnU)
      ⟨_, _, _, _, _, _, _, [], [], [], bf, [], bn, rfl, .refl, src5', hFd5, .nil, rfl, rfl, rfl, hF5, hN5, hGf.gz, hGn.gz, fun _ _ => ⟨trivial, rfl, rfl⟩⟩ (fun i σ H' _ h => by
        obtain ⟨_, _, _, _, _, _, _, _, _, _, _, _, _, _, e, _⟩ := h
        exact SqT.of (e.tup _ _ hav5)) (fun i x σ H6 H7 hi hP y => ?_) (fun σ H6 hP => ?_)
    · obtain ⟨o5, o6, o7, o8, o9, o10, o11, rs, ys, bfU, bfR, bnU, bnR, rfl, e6, src6, hFd6, hys, hnm, hbf, hbn, hF6, hN6, hgf, hgn, hA⟩ := hP
      obtain ⟨rfl, hx⟩ := y
      obtain ⟨d, hd, hxd0⟩ := hs5.getV hx
      obtain ⟨p, hp, rfl⟩ := encs_at hd
      have hxd := hxd0.ext e6
      have hpm := mem_at hp
      have hD6 : _ = some (HO.dK [(.inr kF, .ref F), (.inr kN, .ref N)]) := e6.at hD5 (by simp only [List.mem_cons, List.not_mem_nil, or_false, not_or]; exact ⟨hDa.1, hDa.2.1, hFdD.symm, hFD.symm, hND.symm⟩)
      have hdr : ps.drop i = p :: ps.drop (i + 1) := by
        have hl := at_lt hp
        rw [List.drop_eq_getElem_cons hl]
        rw [List.getElem?_eq_getElem hl] at hp
        rw [Option.some.inj hp]
      have hcd : cnts (ps.drop i) = cnt p + cnts (ps.drop (i + 1)) := by rw [hdr]; rfl
      have hnt : nmss (ps.take (i + 1)) = nmss (ps.take i) ++ nms p := by rw [take1 hp, nmss_append, nmss_one]
      have hyl : ys.length ≤ 63 := by
        rw [hys.len, List.length_map]
        have h1 := congrArg List.length hnm
        rw [List.length_map] at h1
        have h2 : (nmss (ps.take i)).length ≤ cnts (ps.take i) := by
          rw [← plss_nm, List.length_map]
          exact plss_len _
        have := cnts_take ps i
        omega
      rw [hdr] at hgf hgn
      walk_at "rd"
      cases p with
      | emp =>
        have := hxd.empE
        subst this
        walk_at "rd"
        refine ⟨_, _, _, _, _, _, _, rs, ys, bfU, bfR, bnU, bnR, rfl, e6, src6.le (by omega), hFd6, hys, ?_, hbf, hbn, hF6, hN6, hgf.emp_inv, hgn.emp_inv, fun A h => ?_⟩
        · rw [hnt]
          show _ = _ ++ []
          rw [List.append_nil]
          exact hnm
        · obtain ⟨h1, h2, h3⟩ := hA A h
          rw [bks_take hp, bks_take hp, take1 hp]
          refine ⟨asgPs_snoc h1 trivial, ?_, ?_⟩
          · show _ ++ [] = _
            rw [List.append_nil]; exact h2
          · show _ ++ [] = _
            rw [List.append_nil]; exact h3
      | dev nm as =>
        have hao : ∀ a ∈ as, AreaOk a := psOk_iff.mp htr.ok _ hpm
        have hla : 1 + as.length ≤ cnts ps := cnt_mem hpm
        obtain ⟨gf', hgf1, hgf2⟩ := hgf.dev_inv
        obtain ⟨gn', hgn1, hgn2⟩ := hgn.dev_inv
        obtain ⟨t, u2, us, rfl, ht, hu2, hus⟩ := hxd.devE
        have hul : us.length = as.length := by rw [hus.len, List.length_map]
        walk_at "rd"
        refine ifd1 rfl ?_
        walk_at "rd"
        refine lc_W walk_tup [F, N] (fun j acc H' => ∃ (bsD bfR' bnR' : List Blk), DtAll H' acc (bsD.map encB) ∧ DOk bsD (as.take j) ∧ LsAt H' F bfR' ∧ LsAt H' N bnR' ∧ bfR = pickK kF bsD (as.take j) ++ bfR' ∧ bnR = pickK kN bsD (as.take j) ++ bnR' ∧ bfR'.map (fun b : Blk => b.2) = szA kF (as.drop j) ++ gf' ∧ bnR'.map (fun b : Blk => b.2) = szA kN (as.drop j) ++ gn')
          (fun H' e => SqT.of (e.tup _ _ hu2)) (fun H' e' => ⟨[], bfR, bnR, .nil, trivial, hF6.e0 e', hN6.e0 e', rfl, rfl, hgf1, hgn1⟩) (fun j x DD acc H8 H9 hj hDD e hacc hl hR y => ?_) (fun DD acc H8 hDD e8 hacc hl hR => ?_)
        · obtain ⟨bsD, bfR', bnR', hR1, hR2, hR3, hR4, hR5, hR6, hR7, hR8⟩ := hR
          obtain ⟨rfl, hx⟩ := y
          obtain ⟨d, hd, hxa⟩ := hus.getV hx
          obtain ⟨⟨ak, az⟩, hb, rfl⟩ := map_at hd
          obtain ⟨t2, rfl, ht2⟩ := (hxa.ext e).areaE
          have ht2 : _ = some (HO.tup [.str ak, .int az]) := ht2
          have hdj : as.drop j = (ak, az) :: as.drop (j + 1) := by
            have hl := at_lt hb
            rw [List.drop_eq_getElem_cons hl]
            rw [List.getElem?_eq_getElem hl] at hb
            rw [Option.some.inj hb]
          rw [hdj, szA_cons] at hR7 hR8
          have hDj := e.at hD6 (ne2 hFD.symm hND.symm)
          have hDDF : DD ≠ F := fun z => by obtain ⟨_, hx, _⟩ := hF6; rw [z, hx] at hDD; cases hDD
          have hDDN : DD ≠ N := fun z => by obtain ⟨_, hx, _⟩ := hN6; rw [z, hx] at hDD; cases hDD
          have hbl : bsD.length = (as.take j).length := dok_len hR2
          walk_at "rd"
          refine ⟨rfl, ?_⟩
          walk_at "rd"
          rcases (hao (ak, az) (mem_at hb)).1 with hk | hk
          · have hk : ak = kF := hk
            subst hk
            have hR7 : bfR'.map (fun b : Blk => b.2) = (if kF = kF then [az] else []) ++ szA kF (as.drop (j + 1)) ++ gf' := hR7
            have hR8 : bnR'.map (fun b : Blk => b.2) = (if kF = kN then [az] else []) ++ szA kN (as.drop (j + 1)) ++ gn' := hR8
            rw [if_pos rfl] at hR7
            rw [if_neg kF_ne] at hR8
            obtain ⟨b, rest, rfl⟩ : ∃ b rest, bfR' = b :: rest := by
              cases bfR' with
              | nil => cases hR7
              | cons b rest => exact ⟨b, rest, rfl⟩
            have hb2 : b.2 = az := (List.cons.inj hR7).1
            have hrest := (List.cons.inj hR7).2
            obtain ⟨xf, hxf, hxfd⟩ := hR3
            cases hxfd with
            | @cons bv xf' _ _ g1 g2 =>
              refine s_dgetK (k := .inr kF) hDj rfl rfl ?_
              walk_at "rd"
              refine s_pop0 hxf (fun H10 e10 h10 => ?_)
              have hbm : IsBlk b := hGf.bk b (by rw [hbf, hR5]; exact List.mem_append_right _ (List.mem_append_right _ List.mem_cons_self))
              refine lc_put hDD (e.trans (e10.mono (fun x hx => by rw [List.mem_singleton.mp hx]; simp))) (e10.at hacc (ne1 hDDF)) hl (by omega) (fun H11 e11 => ⟨bsD ++ [b], rest, bnR', ?_, ?_, LsAt.ext ⟨xf', h10, g2.ext e10⟩ e11 (ne1 hDDF.symm), (hR4.ext e10 (ne1 hFN.symm)).ext e11 (ne1 hDDN.symm), ?_, ?_, hrest, hR8⟩)
              · rw [List.map_append]
                exact ((hR1.ext e10).ext e11).append (.one ((g1.ext e10).ext e11))
              · rw [take1 hb]; exact dok_snoc hR2 hbm hb2
              · rw [take1 hb, pick_snoc kF hbl, if_pos rfl, List.append_assoc]; exact hR5
              · rw [take1 hb, pick_snoc kN hbl, if_neg kF_ne, List.append_nil]; exact hR6
          · have hk : ak = kN := hk
            subst hk
            have hR7 : bfR'.map (fun b : Blk => b.2) = (if kN = kF then [az] else []) ++ szA kF (as.drop (j + 1)) ++ gf' := hR7
            have hR8 : bnR'.map (fun b : Blk => b.2) = (if kN = kN then [az] else []) ++ szA kN (as.drop (j + 1)) ++ gn' := hR8
            rw [if_neg (fun z => kF_ne z.symm)] at hR7
            rw [if_pos rfl] at hR8
            obtain ⟨b, rest, rfl⟩ : ∃ b rest, bnR' = b :: rest := by
              cases bnR' with
              | nil => cases hR8
              | cons b rest => exact ⟨b, rest, rfl⟩
            have hb2 : b.2 = az := (List.cons.inj hR8).1
            have hrest := (List.cons.inj hR8).2
            obtain ⟨xn, hxn, hxnd⟩ := hR4
            cases hxnd with
            | @cons bv xn' _ _ g1 g2 =>
              refine s_dgetK (k := .inr kN) hDj rfl rfl ?_
              walk_at "rd"
              refine s_pop0 hxn (fun H10 e10 h10 => ?_)
              have hbm : IsBlk b := hGn.bk b (by rw [hbn, hR6]; exact List.mem_append_right _ (List.mem_append_right _ List.mem_cons_self))
              refine lc_put hDD (e.trans (e10.mono (fun x hx => by rw [List.mem_singleton.mp hx]; simp))) (e10.at hacc (ne1 hDDN)) hl (by omega) (fun H11 e11 => ⟨bsD ++ [b], bfR', rest, ?_, ?_, (hR3.ext e10 (ne1 hFN)).ext e11 (ne1 hDDF.symm), LsAt.ext ⟨xn', h10, g2.ext e10⟩ e11 (ne1 hDDN.symm), ?_, ?_, hR7, hrest⟩)
              · rw [List.map_append]
                exact ((hR1.ext e10).ext e11).append (.one ((g1.ext e10).ext e11))
              · rw [take1 hb]; exact dok_snoc hR2 hbm hb2
              · rw [take1 hb, pick_snoc kF hbl, if_neg (fun z => kF_ne z.symm), List.append_nil]; exact hR5
              · rw [take1 hb, pick_snoc kN hbl, if_pos rfl, List.append_assoc]; exact hR6
        · obtain ⟨bsD, bfR', bnR', hR1, hR2, hR3, hR4, hR5, hR6, hR7, hR8⟩ := hR
          rw [hul, List.take_length] at hR2 hR5 hR6
          rw [hul, List.drop_length] at hR7 hR8
          have hFd8 := e8.at hFd6 (ne2 hFFd.symm hNFd.symm)
          have src8 := src6.ext e8 (ne2 hFsrc.1.symm hNsrc.1.symm) (ne2 hFsrc.2.1.symm hNsrc.2.1.symm) (ne2 hFsrc.2.2.symm hNsrc.2.2.symm)
          walk_at "rd"
          refine s_tupOfD hacc hR1 (fun pv H9 e9 hpv => ?_)
          have hFd9 := e9.at0 hFd8
          walk_at "rd"
          refine s_newD (ds := [.str nm, .tuple (bsD.map encB)]) (by walk_at "sz") (.two (.str _) hpv) (fun rv H10 e10 hrv => ?_)
          have hFd10 := e10.at0 hFd9
          walk_at "rd"
          refine s_append hFd10 (by rw [sizeLine_eq]; omega) (fun H11 e11 h11 => ?_)
          have e810 := e9.then0 e10
          have ht11 := e11.tup _ _ (e810.tup _ _ (e8.tup _ _ ht))
          walk_at "rd"
          refine ifd0 (by decide) ?_
          walk_at "rd"
          refine ⟨_, _, _, _, _, _, _, rs ++ [.dev nm bsD], _, bfU ++ pickK kF bsD as, bfR', bnU ++ pickK kN bsD as, bnR', rfl, ?_, ((src8.e0 e810).e1 e11 hFda).le (by omega), h11, ?_, ?_, by rw [List.append_assoc, ← hR5]; exact hbf, by rw [List.append_assoc, ← hR6]; exact hbn, (hR3.e0 e810).ext e11 (ne1 hFFd), (hR4.e0 e810).ext e11 (ne1 hNFd), ?_, ?_, fun A h => ?_⟩
          · exact ((e6.trans (e8.mono (fun x hx => by simp only [List.mem_cons, List.not_mem_nil, or_false] at hx ⊢; rcases hx with rfl | rfl <;> simp))).then0 e810).trans (e11.mono (fun x hx => by rw [List.mem_singleton.mp hx]; simp))
          · rw [List.map_append]
            exact (((hys.ext e8).e0 e810).ext e11).append (.one (hrv.ext e11))
          · rw [List.map_append, hnm, hnt]
            rfl
          · rw [hR7]; exact hgf2
          · rw [hR8]; exact hgn2
          · obtain ⟨h1, h2, h3⟩ := hA A fun r hr => h r (List.mem_append_left _ hr)
            have hAn : A nm = .dev nm bsD := h (.dev nm bsD) (List.mem_append_right _ (List.mem_singleton.mpr rfl))
            rw [bks_take hp, bks_take hp, take1 hp, h2, h3, bk_dev hAn, bk_dev hAn]
            exact ⟨asgPs_snoc h1 ⟨bsD, hAn, hR2⟩, rfl, rfl⟩
      | br nm ms qs =>
        have hdq : deps qs + 1 ≤ deps ps := dep_mem hpm
        have hcq : 1 + cnts qs ≤ cnts ps := cnt_mem hpm
        have htq := htr.kids hpm
        have hcd' : cnts (ps.drop i) = 1 + cnts qs + cnts (ps.drop (i + 1)) := hcd
        obtain ⟨t, m, u2, us, rfl, ht, hm, hu2, hus⟩ := hxd.brE
        walk_at "rd"
        refine ifd0 (by decide) ?_
        walk_at "rd"
        refine ifd1 rfl ?_
        walk_at "rd"
        refine s_newX (by walk_at "sz") (fun R H8 hR e8 h8 => ?_)
        have hRa := src6.ne hR
        have hRF : R ≠ F := fun z => by obtain ⟨_, hx, _⟩ := hF6; rw [z, hx] at hR; cases hR
        have hRN : R ≠ N := fun z => by obtain ⟨_, hx, _⟩ := hN6; rw [z, hx] at hR; cases hR
        have hRD : R ≠ D := fun z => by rw [z, hD6] at hR; cases hR
        have hRFd : R ≠ Fd := fun z => by rw [z, hFd6] at hR; cases hR
        walk_at "rd"
        refine s_newX (by walk_at "sz") (fun L2 H9 hL2 e9 h9 => ?_)
        have hL2a := (src6.e0 e8).ne hL2
        have hL2F : L2 ≠ F := fun z => by obtain ⟨_, hx, _⟩ := hF6.e0 e8; rw [z, hx] at hL2; cases hL2
        have hL2N : L2 ≠ N := fun z => by obtain ⟨_, hx, _⟩ := hN6.e0 e8; rw [z, hx] at hL2; cases hL2
        have hL2R : L2 ≠ R := (ne_some h8 hL2).symm
        have e69 := e8.then0 e9
        have hD9 := e69.at0 hD6
        have hxd9 := hxd.e0 e69
        have ht9 := e69.tup _ _ ht
        walk_at "rd"
        refine f_W walk_enum (fun j σ H' => ∃ (o5 o6 o9 o10 o11 : Option V) (fo eo : Option Blk) (vf vn : V) (bfR' bnR' : List Blk), σ = [some (.ref a), some (.ref av), some (.ref r), some (.ref D), some (.ref Fd), o5, o6, some (.ref t), some (.ref R), o9, o10, o11] ∧ Ext [F, N, R] H9 H' ∧
            H' R = some (.lst [vf, vn]) ∧ Dt H' vf (encO fo) ∧ Dt H' vn (encO eo) ∧ LsAt H' F bfR' ∧ LsAt H' N bnR' ∧
            ((j = 0 ∧ fo = none ∧ bfR' = bfR) ∨ (0 < j ∧ bfR = fo.toList ++ bfR' ∧ WOk (lw (szs kF qs)) fo ∧ GrZ kF (ps.drop (i + 1)) (bfR'.map (fun b : Blk => b.2)))) ∧
            ((j < 2 ∧ eo = none ∧ bnR' = bnR) ∨ (1 < j ∧ bnR = eo.toList ++ bnR' ∧ WOk (lw (szs kN qs)) eo ∧ GrZ kN (ps.drop (i + 1)) (bnR'.map (fun b : Blk => b.2)))))
          ⟨_, _, _, _, _, none, none, .non, .non, bfR, bnR, rfl, .refl, e9.at0 h8, .non, .non, hF6.e0 e69, hN6.e0 e69, .inl ⟨rfl, rfl, rfl⟩, .inl ⟨by decide, rfl, rfl⟩⟩ (fun j σ H' _ h => by
            obtain ⟨_, _, _, _, _, _, _, _, _, _, _, _, e, _⟩ := h
            exact SqL.of (e.at h9 (ne3 hL2F hL2N hL2R))) (fun j x σ H10 H11 hj hP y => ?_) (fun σ H10 hP => ?_)
        · obtain ⟨o5, o6, o9, o10, o11, fo, eo, vf, vn, bfR', bnR', rfl, e10, hR10, hvf, hvn, hF10, hN10, cf, cn⟩ := hP
          obtain ⟨T2, x, z, rfl, hT, e11, hT2, hx, hz⟩ := YPair.get y
          have hj2 : j < 2 := hj
          have hR11 := e11.at0 hR10
          have hF11 := hF10.e0 e11
          have hN11 := hN10.e0 e11
          have hvf11 := hvf.e0 e11
          have hvn11 := hvn.e0 e11
          have e911 := e10.then0 e11
          have hD11 := e911.at hD9 (ne3 hFD.symm hND.symm hRD.symm)
          have hxd11 := hxd9.ext e911
          clear y
          have hj01 : j = 0 ∨ j = 1 := by omega
          rcases hj01 with rfl | rfl
          · cases hx
            cases hz
            rcases cf with ⟨_, rfl, rfl⟩ | ⟨h, _⟩
            · rcases cn with ⟨_, rfl, rfl⟩ | ⟨h, _⟩
              · walk_at "rd"
                refine ⟨_, nm, ms, qs, _, rfl, hxd11, by omega, by omega, fun H12 e12 => ?_⟩
                walk_at "rd"
                refine ifd (fun cw => ?_) (fun cw => ?_)
                · have cw : lw (szs kF qs) > 0 := cw
                  rcases hgf.br_inv with ⟨h, _⟩ | ⟨_, z, rz, hz1, hz2, hz3⟩
                  · omega
                  obtain ⟨b, rest, rfl⟩ : ∃ b rest, bfR' = b :: rest := by
                    cases bfR' with
                    | nil => cases hz1
                    | cons b rest => exact ⟨b, rest, rfl⟩
                  have hb2 : b.2 = z := (List.cons.inj hz1).1
                  have hrest := (List.cons.inj hz1).2
                  have hbm : IsBlk b := hGf.bk b (by rw [hbf]; exact List.mem_append_right _ List.mem_cons_self)
                  obtain ⟨xf, hxf, hxfd⟩ := hF11.e0 e12
                  cases hxfd with
                  | @cons bv xf' _ _ g1 g2 =>
                    have hD12 := e12.at0 hD11
                    walk_at "rd"
                    refine s_dgetK (k := .inr kF) hD12 rfl rfl ?_
                    walk_at "rd"
                    refine s_pop0 hxf (fun H13 e13 h13 => ?_)
                    have hR13 := e13.at (e12.at0 hR11) (ne1 hRF)
                    walk_at "rd"
                    refine s_setL (j := 0) hR13 rfl (fun H14 e14 h14 => ?_)
                    walk_at "rd"
                    have hW : WOk (lw (szs kF qs)) (some b) := ⟨cw, hbm, by omega, by
                      rcases lw_cases (szs kF qs) with h | h
                      · omega
                      · have := h.2.1; omega⟩
                    refine ⟨_, _, _, _, _, some b, none, bv, vn, rest, bnR', rfl, ((e911.then0 e12).trans (e13.mono (fun x hx => by rw [List.mem_singleton.mp hx]; simp))).trans (e14.mono (fun x hx => by rw [List.mem_singleton.mp hx]; simp)), h14, (g1.ext e13).ext e14, ((hvn11.e0 e12).ext e13).ext e14, LsAt.ext ⟨xf', h13, g2.ext e13⟩ e14 (ne1 hRF.symm), ((hN11.e0 e12).ext e13 (ne1 hFN.symm)).ext e14 (ne1 hRN.symm), .inr ⟨by decide, rfl, hW, by rw [hrest]; exact hz3⟩, .inl ⟨by decide, rfl, rfl⟩⟩
                · have cw : ¬ lw (szs kF qs) > 0 := cw
                  walk_at "rd"
                  rcases hgf.br_inv with ⟨hz0, hz1⟩ | ⟨h, _⟩
                  · refine ⟨_, _, _, _, _, none, none, vf, vn, bfR', bnR', rfl, e911.then0 e12, e12.at0 hR11, hvf11.e0 e12, hvn11.e0 e12, hF11.e0 e12, hN11.e0 e12, .inr ⟨by decide, rfl, hz0, hz1⟩, .inl ⟨by decide, rfl, rfl⟩⟩
                  · omega
              · omega
            · omega
          · cases hx
            cases hz
            rcases cf with ⟨h, _⟩ | ⟨_, cf1, cf2, cf3⟩
            · omega
            rcases cn with ⟨_, rfl, rfl⟩ | ⟨h, _⟩
            · walk_at "rd"
              refine ⟨_, nm, ms, qs, _, rfl, hxd11, by omega, by omega, fun H12 e12 => ?_⟩
              walk_at "rd"
              refine ifd (fun cw => ?_) (fun cw => ?_)
              · have cw : lw (szs kN qs) > 0 := cw
                rcases hgn.br_inv with ⟨h, _⟩ | ⟨_, z, rz, hz1, hz2, hz3⟩
                · omega
                obtain ⟨b, rest, rfl⟩ : ∃ b rest, bnR' = b :: rest := by
                  cases bnR' with
                  | nil => cases hz1
                  | cons b rest => exact ⟨b, rest, rfl⟩
                have hb2 : b.2 = z := (List.cons.inj hz1).1
                have hrest := (List.cons.inj hz1).2
                have hbm : IsBlk b := hGn.bk b (by rw [hbn]; exact List.mem_append_right _ List.mem_cons_self)
                obtain ⟨xn, hxn, hxnd⟩ := hN11.e0 e12
                cases hxnd with
                | @cons bv xn' _ _ g1 g2 =>
                  have hD12 := e12.at0 hD11
                  walk_at "rd"
                  refine s_dgetK (k := .inr kN) hD12 rfl rfl ?_
                  walk_at "rd"
                  refine s_pop0 hxn (fun H13 e13 h13 => ?_)
                  have hR13 := e13.at (e12.at0 hR11) (ne1 hRN)
                  walk_at "rd"
                  refine s_setL (j := 1) hR13 rfl (fun H14 e14 h14 => ?_)
                  walk_at "rd"
                  have hW : WOk (lw (szs kN qs)) (some b) := ⟨cw, hbm, by omega, by
                    rcases lw_cases (szs kN qs) with h | h
                    · omega
                    · have := h.2.1; omega⟩
                  refine ⟨_, _, _, _, _, fo, some b, vf, bv, bfR', rest, rfl, ((e911.then0 e12).trans (e13.mono (fun x hx => by rw [List.mem_singleton.mp hx]; simp))).trans (e14.mono (fun x hx => by rw [List.mem_singleton.mp hx]; simp)), h14, ((hvf11.e0 e12).ext e13).ext e14, (g1.ext e13).ext e14, ((hF11.e0 e12).ext e13 (ne1 hFN)).ext e14 (ne1 hRF.symm), LsAt.ext ⟨xn', h13, g2.ext e13⟩ e14 (ne1 hRN.symm), .inr ⟨by decide, cf1, cf2, cf3⟩, .inr ⟨by decide, rfl, hW, by rw [hrest]; exact hz3⟩⟩
              · have cw : ¬ lw (szs kN qs) > 0 := cw
                walk_at "rd"
                rcases hgn.br_inv with ⟨hz0, hz1⟩ | ⟨h, _⟩
                · refine ⟨_, _, _, _, _, fo, none, vf, vn, bfR', bnR', rfl, e911.then0 e12, e12.at0 hR11, hvf11.e0 e12, hvn11.e0 e12, hF11.e0 e12, hN11.e0 e12, .inr ⟨by decide, cf1, cf2, cf3⟩, .inr ⟨by decide, rfl, hz0, hz1⟩⟩
                · omega
            · omega
        · obtain ⟨o5, o6, o9, o10, o11, fo, eo, vf, vn, bfR', bnR', rfl, e10, hR10, hvf, hvn, hF10, hN10, cf, cn⟩ := hP
          obtain ⟨cf1, cf2, cf3⟩ : bfR = fo.toList ++ bfR' ∧ WOk (lw (szs kF qs)) fo ∧ GrZ kF (ps.drop (i + 1)) (bfR'.map (fun b : Blk => b.2)) := by
            rcases cf with ⟨h, _⟩ | h
            · exact absurd h (by decide)
            · exact h.2
          obtain ⟨cn1, cn2, cn3⟩ : bnR = eo.toList ++ bnR' ∧ WOk (lw (szs kN qs)) eo ∧ GrZ kN (ps.drop (i + 1)) (bnR'.map (fun b : Blk => b.2)) := by
            rcases cn with ⟨h, _⟩ | h
            · exact absurd h (by decide)
            · exact h.2
          have hFd10 := e10.at (e69.at0 hFd6) (ne3 hFFd.symm hNFd.symm hRFd.symm)
          have ht10 := e10.tup _ _ ht9
          walk_at "rd"
          refine s_ixL hR10 rfl ?_
          walk_at "rd"
          refine s_ixL hR10 rfl ?_
          walk_at "rd"
          refine s_newD (ds := [.str nm, encO fo, encO eo]) (by walk_at "sz") (.cons (.str _) (.two hvf hvn)) (fun rv H11 e11 hrv => ?_)
          have hFd11 := e11.at0 hFd10
          walk_at "rd"
          refine s_append hFd11 (by rw [sizeLine_eq]; omega) (fun H12 e12 h12 => ?_)
          have e1012 := (Ext.mono0 (M := [Fd]) e11).trans e12
          have hR12 := e1012.at hR10 (ne1 hRFd)
          have ht12 := e1012.tup _ _ ht10
          have hvf12 := hvf.ext e1012
          have hvn12 := hvn.ext e1012
          have hRlist : DtAll H12 [vf, vn] [encO fo, encO eo] := .two hvf12 hvn12
          walk_at "rd"
          refine lc_W walk_list [] (fun j acc H' => DtAll H' acc (([fo, eo].take j).map fun o => PyData.tuple (o.toList.map encB))) (fun H' e => SqL.of (e.at0 hR12)) (fun _ _ => .nil) (fun j x DD acc H13 H14 hj hDD e hacc hl hRR y => ?_) (fun RL acc H13 hRL e13 hacc hl hRR => ?_)
          · obtain ⟨rfl, hx⟩ := y
            obtain ⟨o, ho, hxo⟩ : ∃ o, [fo, eo][j]? = some o ∧ Dt H12 x (encO o) := by
              obtain ⟨d, hd, hxd⟩ := hRlist.getV hx
              have : ([fo, eo].map encO)[j]? = some d := hd
              obtain ⟨o, ho, rfl⟩ := map_at this
              exact ⟨o, ho, hxd⟩
            have hxo2 := hxo.e0 e
            have fin : ∀ (v : V) (H5 : Hp), Ext [] H14 H5 → Dt H5 v (.tuple (o.toList.map encB)) → ∃ acc', H5 DD = some (.lst acc') ∧ acc'.length < sizeLine ∧ LcInv [] H12 DD (fun j acc H' => DtAll H' acc (([fo, eo].take j).map fun o => PyData.tuple (o.toList.map encB))) (j + 1) (upd H5 DD (.lst (acc' ++ [v]))) := fun v H5 e5 hv => by
              refine lc_put hDD (e.then0 e5) (e5.at0 hacc) hl (by have : j < 2 := hj; omega) (fun H6 e6 => ?_)
              rw [take1 ho, List.map_append]
              exact ((hRR.e0 e5).ext e6).append (.one (hv.ext e6))
            walk_at "rd"
            refine ⟨rfl, ?_⟩
            walk_at "rd"
            cases o with
            | none =>
              have := hxo2.non_eq
              subst this
              walk_at "rd"
              exact s_newD (by walk_at "sz") .nil (fun v H15 e15 hv => fin v H15 e15 hv)
            | some b =>
              obtain ⟨tb, rfl, _⟩ := hxo2.blkE
              walk_at "rd"
              exact s_newD (by walk_at "sz") (.one hxo2) (fun v H15 e15 hv => fin v H15 e15 hv)
          · have hal : acc.length = 2 := hRR.len
            obtain ⟨w1, w2, rfl⟩ : ∃ w1 w2, acc = [w1, w2] := by
              match acc, hal with
              | [w1, w2], _ => exact ⟨w1, w2, rfl⟩
            obtain ⟨hw1, hw2⟩ : Dt H13 w1 (.tuple (fo.toList.map encB)) ∧ Dt H13 w2 (.tuple (eo.toList.map encB)) := by
              cases hRR with
              | cons g1 g2 => cases g2 with
                | cons g2 g3 => exact ⟨g1, g2⟩
            have e613 : Ext [F, N, R, Fd] H7 H13 := (((Ext.mono0 e69).trans (e10.mono (fun x hx => by simp only [List.mem_cons, List.not_mem_nil, or_false] at hx ⊢; rcases hx with rfl | rfl | rfl <;> simp))).trans (e1012.mono (fun x hx => by rw [List.mem_singleton.mp hx]; simp))).then0 e13
            have src13 : Src H13 a l c (n + 1000 * cnts (ps.drop i)) := src6.ext e613 (by simp only [List.mem_cons, List.not_mem_nil, or_false, not_or]; exact ⟨hFsrc.1.symm, hNsrc.1.symm, hRa.1.symm, hFda.1.symm⟩) (by simp only [List.mem_cons, List.not_mem_nil, or_false, not_or]; exact ⟨hFsrc.2.1.symm, hNsrc.2.1.symm, hRa.2.1.symm, hFda.2.1.symm⟩) (by simp only [List.mem_cons, List.not_mem_nil, or_false, not_or]; exact ⟨hFsrc.2.2.symm, hNsrc.2.2.symm, hRa.2.2.symm, hFda.2.2.symm⟩)
            have hRLa : RL ≠ a ∧ RL ≠ l ∧ RL ≠ c := by
              have src12 : Src H12 a l c (n + 1000 * cnts (ps.drop i)) := src6.ext (((Ext.mono0 (M := [F, N, R, Fd]) e69).trans (e10.mono (fun x hx => by simp only [List.mem_cons, List.not_mem_nil, or_false] at hx ⊢; rcases hx with rfl | rfl | rfl <;> simp))).trans (e1012.mono (fun x hx => by rw [List.mem_singleton.mp hx]; simp))) (by simp only [List.mem_cons, List.not_mem_nil, or_false, not_or]; exact ⟨hFsrc.1.symm, hNsrc.1.symm, hRa.1.symm, hFda.1.symm⟩) (by simp only [List.mem_cons, List.not_mem_nil, or_false, not_or]; exact ⟨hFsrc.2.1.symm, hNsrc.2.1.symm, hRa.2.1.symm, hFda.2.1.symm⟩) (by simp only [List.mem_cons, List.not_mem_nil, or_false, not_or]; exact ⟨hFsrc.2.2.symm, hNsrc.2.2.symm, hRa.2.2.symm, hFda.2.2.symm⟩)
              exact src12.ne hRL
            have wr : ∀ {z : Int} {o : Option Blk}, WOk z o → RoomOk o.toList ∧ o.toList.length ≤ 100 := fun {z o} h => by
              cases o with
              | none => exact ⟨RoomOk.nil, by decide⟩
              | some b => exact ⟨RoomOk.one h.2.1, by show 1 ≤ 100; decide⟩
            have wf : ∀ {kk : Str} {o : Option Blk}, WOk (lw (szs kk qs)) o → Fits o.toList (szs kk qs) := fun {kk o} h => by
              cases o with
              | none =>
                have h0 : szs kk qs = [] := lw_zero.mp h
                rw [h0]
                exact fits_nil _
              | some b =>
                refine fits_one (szs_nn htq.ok) ?_
                rcases lw_cases (szs kk qs) with h2 | h2
                · have := h.1; omega
                · exact Int.le_trans h2.2.2.2 h.2.2.1
            have h13Fd := e13.at0 h12
            refine ⟨a, l, c, n + 1000 * cnts (ps.drop (i + 1)), _, qs, _, fo.toList, eo.toList, rfl, (Dt.tup (e613.tup _ _ hu2) (hus.ext e613)), htq, by omega, ⟨RL, w1, w2, rfl, .inl ⟨hacc, hRLa.1, hRLa.2.1⟩, hw1, hw2⟩, (wr cf2).1, (wr cn2).1, (wr cf2).2, (wr cn2).2, src13.le (by omega), fun nf => absurd ⟨wf cf2, wf cn2⟩ nf, fun q xq rs2 H14 hq e14 h14 hrs2 hnm2 hA2 src14 _ => ?_⟩
            have h14Fd := e14.at h13Fd (ne2 hFda.1 hFda.2.1)
            walk_at "rd"
            refine s_extend h14Fd h14 (by
              rw [List.length_append, hrs2.len, List.length_map]
              have h1 := congrArg List.length hnm2
              rw [List.length_map] at h1
              have h2 : (nmss qs).length ≤ cnts qs := by
                rw [← plss_nm, List.length_map]
                exact plss_len _
              rw [sizeLine_eq]
              show _ + 1 + _ ≤ _
              omega) (fun H15 e15 h15 => ?_)
            walk_at "rd"
            refine ⟨_, _, _, _, _, _, _, rs ++ [.br nm fo eo] ++ rs2, _, bfU ++ fo.toList, bfR', bnU ++ eo.toList, bnR', rfl, ?_, src14.e1 e15 hFda, h15, ?_, ?_, by rw [List.append_assoc, ← cf1]; exact hbf, by rw [List.append_assoc, ← cn1]; exact hbn, ?_, ?_, cf3, cn3, fun A h => ?_⟩
            · refine (e6.trans ?_)
              refine ((Ext.comp (M1 := [F, N, R, Fd]) Ext.refl e613 ?_).trans (e14.mono ?_)).trans (e15.mono ?_)
              · intro x hx
                simp only [List.mem_cons, List.not_mem_nil, or_false] at hx ⊢
                rcases hx with rfl | rfl | rfl | rfl
                · exact .inl (by simp)
                · exact .inl (by simp)
                · exact .inr hR
                · exact .inl (by simp)
              · intro x hx
                simp only [List.mem_cons, List.not_mem_nil, or_false] at hx ⊢
                rcases hx with rfl | rfl <;> simp
              · intro x hx
                rw [List.mem_singleton.mp hx]
                simp
            · rw [List.map_append, List.map_append]
              have hyr : DtAll H12 (ys ++ [rv]) (rs.map Row.enc ++ [(Row.br nm fo eo).enc]) := ((((hys.e0 e69).ext e10).ext e1012)).append (.one (hrv.ext e12))
              exact (((hyr.e0 e13).ext e14).append hrs2).ext e15
            · rw [List.map_append, List.map_append, hnm, hnm2, hnt, List.append_assoc]
              rfl
            · have h1 : LsAt H14 F bfR' := ((((hF10.ext e1012 (ne1 hFFd)).e0 e13).ext e14 (ne2 hFa hFl)))
              exact h1.ext e15 (ne1 hFFd)
            · have h1 : LsAt H14 N bnR' := ((((hN10.ext e1012 (ne1 hNFd)).e0 e13).ext e14 (ne2 hNa hNl)))
              exact h1.ext e15 (ne1 hNFd)
            · obtain ⟨h1, h2, h3⟩ := hA A fun r hr => h r (List.mem_append_left _ (List.mem_append_left _ hr))
              have hAn : A nm = .br nm fo eo := h (.br nm fo eo) (List.mem_append_left _ (List.mem_append_right _ (List.mem_singleton.mpr rfl)))
              have hAs := hA2 A fun r hr => h r (List.mem_append_right _ hr)
              rw [bks_take hp, bks_take hp, take1 hp, h2, h3, bk_br hAn, bk_br hAn]
              exact ⟨asgPs_snoc h1 ⟨fo, eo, hAn, cf2, cn2, hAs.far, hAs.near, hAs.all⟩, rfl, rfl⟩
    · obtain ⟨o5, o6, o7, o8, o9, o10, o11, rs, ys, bfU, bfR, bnU, bnR, rfl, e6, src6, hFd6, hys, hnm, hbf, hbn, hF6, hN6, hgf, hgn, hA⟩ := hP
      rw [hxl] at hnm hgf hgn hA src6
      rw [List.drop_length] at hgf hgn src6
      rw [List.take_length] at hnm hA
      have hf0 := List.map_eq_nil_iff.mp hgf.nil_inv
      have hn0 := List.map_eq_nil_iff.mp hgn.nil_inv
      subst hf0 hn0
      rw [List.append_nil] at hbf hbn
      subst hbf hbn
      walk_at "rd"
      refine q1 Fd ys rs _ hHFd (e5.comp e6 fun x hx => ?_) hFd6 hys hnm (fun A h => ?_) (src6.le (by omega)) ⟨hGf.ft, hGn.ft⟩
      · simp only [List.mem_cons, List.not_mem_nil, or_false] at hx ⊢
        rcases hx with rfl | rfl | rfl | rfl | rfl
        · exact .inl (.inl rfl)
        · exact .inl (.inr rfl)
        · exact .inr hHFd
        · exact .inr hHF
        · exact .inr hHN
      · obtain ⟨h1, h2, h3⟩ := hA A h
        exact ⟨by rw [h2]; exact hGf.pl, by rw [h3]; exact hGn.pl, h1⟩
end
end Bw

/-! the law: without, halved, left -/
namespace Bw
open PySem PySem.Spec PyProof.Rows L2
open C8 (Cal pe_c pe_gc)
open StX (pa_star tStar)
open RZ (pi_zipA iZipA)
-- the tactics of this text, by key
local macro_rules | `(tactic| walk_at "nm") => `(tactic| first | (intro hmem; cases hmem; done) | (simp only [List.mem_cons, List.mem_singleton, List.not_mem_nil, or_false, not_or, not_false_eq_true]; done) | (simp only [List.mem_cons, List.mem_singleton, List.not_mem_nil, or_false, not_or]; (repeat' apply And.intro) <;> first | assumption | exact Ne.symm (by assumption) | exact ne_some (by assumption) (by assumption) | exact Ne.symm (ne_some (by assumption) (by assumption))))
local macro_rules | `(tactic| walk_at "hx") => `(tactic| first | assumption | exact Dt.non | exact Dt.int _ | exact Dt.str _ | exact Dt.bl _ | (refine Dt.ext (by assumption) ?_; walk_at "hx") | (refine DtAll.ext (by assumption) ?_; walk_at "hx") | (refine Ext.at0 (by assumption) ?_; walk_at "hx") | (refine Ext.tupC (by assumption) ?_; walk_at "hx") | (refine Ext.atC (by assumption) ?_ (by walk_at "nm"); walk_at "hx"))
local macro_rules | `(tactic| walk_at "dm") => `(tactic| first | exact fun _ h => h | (refine dom_step (by assumption) ?_; walk_at "dm"))
local macro_rules | `(tactic| walk_at "fr") => `(tactic| first | assumption | (refine fr_of (by assumption) ?_; walk_at "dm"))
local macro_rules | `(tactic| walk_at "ex") => `(tactic| first | assumption | exact Ext.refl | exact Ext.mono0 (by assumption) | (refine Ext.then0 ?_ (by assumption); walk_at "ex") | (refine Ext.transC ?_ (by assumption); walk_at "ex") | (refine Ext.c1 ?_ (by assumption) (by walk_at "fr"); walk_at "ex") | (refine Ext.cm ?_ (by assumption) (by simp only [List.mem_cons, true_or, or_true]; done); walk_at "ex"))
local macro_rules | `(tactic| walk_at "r1") => `(tactic| first
  | (with_reducible refine s_var rfl ?_) | (with_reducible refine s_c ?_) | (with_reducible refine s_op ?_) | (with_reducible refine s_un ?_) | (with_reducible refine s_I0 ?_) | (with_reducible refine s_U ?_)
  | (with_reducible refine s_eqI ?_) | (with_reducible refine s_eqS ?_) | (with_reducible refine s_eqB ?_) | (with_reducible refine s_neI ?_) | (with_reducible refine s_neS ?_) | (with_reducible refine s_neB ?_)
  | (with_reducible refine s_isN1 ?_) | (with_reducible refine s_isN0 ?_) | (with_reducible refine s_notN1 ?_) | (with_reducible refine s_notN0 ?_) | (with_reducible refine s_isBl ?_) | (with_reducible refine s_notBl ?_)
  | (with_reducible refine s_test ?_) | (with_reducible refine s_B ?_) | (with_reducible refine s_bl ?_) | (with_reducible refine s_and ?_) | (with_reducible refine s_or ?_) | (with_reducible refine s_not ?_)
  | (with_reducible refine s_andV ?_) | (with_reducible refine s_orV ?_) | (with_reducible refine s_notV ?_) | (with_reducible refine s_ifE ?_) | (with_reducible refine s_chain ?_)
  | (with_reducible refine s_next ?_) | (with_reducible refine s_seq ?_) | (with_reducible refine s_drop ?_) | (with_reducible refine s_ret ?_) | (with_reducible refine s_retN ?_) | (with_reducible refine s_ifS ?_) | (with_reducible refine s_asg ?_)
  | ((with_reducible refine g_name ?_); refine s_name (by first | rfl) ?_) | (with_reducible refine s_parS ?_) | (with_reducible refine s_par ?_) | ((with_reducible refine g_nx ?_); refine s_nx rfl ?_) | (with_reducible refine s_gsub ?_) | (with_reducible refine s_gnil ?_) | (with_reducible refine s_gcons ?_)
  | (with_reducible refine s_call ?_) | (with_reducible refine s_cb ?_) | (with_reducible refine s_nil ?_) | (with_reducible refine s_cons ?_) | (with_reducible refine s_tupT ?_) | (with_reducible refine s_lstT ?_)
  | (with_reducible refine s_sl ?_) | (with_reducible refine s_nopart ?_) | (with_reducible refine s_part ?_) | (with_reducible refine s_int ?_) | (with_reducible refine s_bm ?_) | (with_reducible refine s_dget ?_) | (with_reducible refine s_dputS ?_)
  | (with_reducible refine s_forS ?_) | (with_reducible refine s_lc ?_) | (with_reducible refine s_iTup ?_) | (with_reducible refine s_iList ?_) | (with_reducible refine s_iRng1 ?_) | (with_reducible refine s_iRng2 ?_) | (with_reducible refine s_tYes ?_) | (with_reducible refine s_intI ?_) | (with_reducible refine s_intB ?_) | (with_reducible refine s_min2 ?_) | (with_reducible refine s_max2 ?_) | (with_reducible refine s_abs ?_) | (with_reducible refine s_revL ?_) | (with_reducible refine s_iEnumT ?_) | (with_reducible refine s_iEnum ?_) | (with_reducible refine s_iZipA ?_) | (with_reducible refine s_iZipM ?_) | (with_reducible refine s_iZip ?_) | (with_reducible refine s_iStr ?_) | (with_reducible refine s_star ?_) | (with_reducible refine s_lc2 ?_) | (with_reducible refine s_dc ?_) | (with_reducible refine s_bm ?_)
  | (with_reducible refine isi_int _ ?_) | (with_reducible refine isi_intB _ ?_) | (with_reducible refine isi_str _ ?_) | (with_reducible refine isi_non ?_)
  | (with_reducible refine iteT ?_) | (with_reducible refine iteF ?_) | (with_reducible refine iteNT ?_) | (with_reducible refine iteNF ?_))
local macro_rules | `(tactic| walk_at "r2") => `(tactic| first
  | ((with_reducible refine g_ixT ?_); first | (refine s_ixT (by walk_at "hx") rfl ?_) | (refine s_ixDs (by walk_at "hx") rfl ?_) | (refine s_ixDi (by walk_at "hx") rfl ?_) | (refine s_ixD (by walk_at "hx") rfl (fun _ _ => ?_)) | (refine s_ixD0s (by walk_at "hx") ?_))
  | ((with_reducible refine g_form ?_); first | (refine isDev_non ?_) | (refine isBr_non ?_) | (refine isDev_dev (by walk_at "hx") ?_) | (refine isDev_br (by walk_at "hx") ?_) | (refine isBr_dev (by walk_at "hx") ?_) | (refine isBr_br (by walk_at "hx") ?_))
  | ((with_reducible refine g_isi ?_); first | (with_reducible refine isi_dt (by walk_at "hx") ?_) | (with_reducible refine isi_tup (by walk_at "hx") ?_))
  | ((with_reducible refine g_len ?_); first | (with_reducible refine s_lenL (by walk_at "hx") ?_) | (with_reducible refine s_lenT (by walk_at "hx") ?_) | (with_reducible refine s_lenD (by walk_at "hx") ?_))
  | ((with_reducible refine g_ty ?_); first | (refine s_tyK (by assumption) ?_) | (with_reducible refine s_tyL (by walk_at "hx") ?_))
  | ((with_reducible refine g_tix ?_); first | (refine s_idx0 (by assumption) ?_) | (refine s_idx1 (by assumption) ?_))
  | ((with_reducible refine g_enT ?_); with_reducible refine s_enT (by walk_at "hx") ?_) | ((with_reducible refine g_enL ?_); with_reducible refine s_enL (by walk_at "hx") ?_)
  | ((with_reducible refine g_za ?_); first | (with_reducible refine s_zaT2 (by walk_at "hx") (by walk_at "hx") ?_) | (with_reducible refine s_zaL (by walk_at "hx") (by walk_at "hx") ?_))
  | ((with_reducible refine g_zm ?_); first | (with_reducible refine s_zmT (by walk_at "hx") (by walk_at "hx") ?_) | (with_reducible refine s_zmL (by walk_at "hx") (by walk_at "hx") ?_))
  | ((with_reducible refine g_zl ?_); with_reducible refine s_zl (by walk_at "hx") (by walk_at "hx") ?_)
  | ((with_reducible refine g_itT ?_); with_reducible refine s_itT (by walk_at "hx") ?_) | ((with_reducible refine g_itL ?_); with_reducible refine s_itL (by walk_at "hx") ?_)
  | ((with_reducible refine g_gtup ?_); refine s_gtup (by walk_at "hx") rfl ?_))
local macro_rules | `(tactic| walk_at "rd") => `(tactic| repeat (first | walk_at "r1" | walk_at "r2"))
local macro_rules | `(tactic| walk_at "sz") => `(tactic| (simp only [List.length_cons, List.length_nil, List.length_append, List.length_map, sizeLine_eq] <;> omega))
theorem s_dnew11 {σ : L2.St} {H : Hp} {Q : VK} (q : ∀ p H', H p = none → Ext [] H H' → H' p = some (.dK []) → Q (.ref p) H') : tDNewK σ H Q := s_new q
theorem shaped_encA {a : Area} (h : a.1 = kF ∨ a.1 = kN) : SeqAt.shaped (encA a) = true := by
  obtain ⟨k, s⟩ := a
  rcases h with h | h
  · have h : k = kF := h
    subst h
    exact shaped_tup ⟨by show (PyData.strOk kF && (true && PyData.canLayAll0 [])) = true; decide +kernel, by show max 0 (max 0 0) ≤ 60; decide⟩
  · have h : k = kN := h
    subst h
    exact shaped_tup ⟨by show (PyData.strOk kN && (true && PyData.canLayAll0 [])) = true; decide +kernel, by show max 0 (max 0 0) ≤ 60; decide⟩
theorem eqv_encA (a b : Area) : PyData.eqv (encA a) (encA b) = decide (a = b) := by
  show PyData.eqvAll [.str a.1, .int a.2] [.str b.1, .int b.2] = _
  obtain ⟨a1, a2⟩ := a
  obtain ⟨b1, b2⟩ := b
  by_cases h1 : a1 = b1 <;> by_cases h2 : a2 = b2 <;> simp [PyData.eqvAll, PyData.eqv, h1, h2]
theorem cut_take : ∀ {bs : List Blk} {as : List Area} {i : Nat} {b : Blk} {a : Area}, bs[i]? = some b → as[i]? = some a → cutBs (bs.take (i + 1)) (as.take (i + 1)) = cutBs (bs.take i) (as.take i) ++ [(b.1, a.2)]
  | [], _, _, _, _, h, _ => by simp at h
  | _ :: _, [], _, _, _, _, h => by simp at h
  | b :: bs, a :: as, 0, b', a', hb, ha => by
    have e1 : b = b' := Option.some.inj hb
    have e2 : a = a' := Option.some.inj ha
    subst e1 e2
    show (b.1, a.2) :: cutBs (bs.take 0) (as.take 0) = [] ++ [(b.1, a.2)]
    rw [List.take_zero]
    rfl
  | b :: bs, a :: as, i + 1, b', a', hb, ha => by
    have := cut_take (bs := bs) (as := as) (i := i) (b := b') (a := a') (by simpa using hb) (by simpa using ha)
    show (b.1, a.2) :: cutBs (bs.take (i + 1)) (as.take (i + 1)) = (b.1, a.2) :: cutBs (bs.take i) (as.take i) ++ _
    rw [this]
    rfl
theorem putK_le11 (c : List (Key × V)) (k : Key) (x : V) : (putK c k x).length ≤ c.length + 1 := by
  unfold putK
  split
  · rw [List.length_map]; omega
  · rw [List.length_append]; exact Nat.le_refl _
section
variable {P : Program} {w : World} {K : PySem.W.Frag} {mg : Str → Option Value} {base : Heap} {kd : Addr} {k : Nat}
abbrev sx_without : Stmt := top 64
abbrev N_without : List Str := ["_law_parts", "_law_name", "_law_found", "_law_part_here"]
theorem sc_without : FnScope N_without ["_law_parts", "_law_name"] (defScope sx_without) := ⟨rfl, rfl, rfl, by decide +kernel, rfl, by decide +kernel, by decide +kernel⟩
theorem ok_without0 (T : At K mg "_law_without" sx_without ["_law_parts", "_law_name"]) : Cal P w K mg base (k + 1) "_law_without" (spWithout 0) [] := by
  refine T.ok sc_without (fun vs H Q E h => ?_) (fun f cdv A outer s H vs Q E hr h => ?_)
  · obtain ⟨v, ps, nm, rfl, _⟩ := h
    rfl
  obtain ⟨v, ps, nm, rfl, _, h, _⟩ := h
  omega
theorem ok_without {d : Nat} (bi : Bi mg kd) (T : At K mg "_law_without" sx_without ["_law_parts", "_law_name"]) (c_without : Cal P w K mg base k "_law_without" (spWithout d) []) : Cal P w K mg base (k + 1) "_law_without" (spWithout (d + 1)) [] := by
  refine T.ok sc_without (fun vs H Q E h => ?_) (fun f cdv A outer s H vs Q E hr h => ?_)
  · obtain ⟨v, ps, nm, rfl, _⟩ := h
    rfl
  have nd := sc_without.nd
  obtain ⟨v, ps, nm, rfl, hv, hdp, hcn, q⟩ := h
  obtain ⟨a, xs, rfl, ha, hs⟩ := hv.tupE
  have hxl : xs.length = ps.length := by rw [hs.len, encs_len]
  have hpl := len_cnts ps
  refine ⟨_, (pss_cons (ps_set (i := 2) nd rfl (Or.inl rfl) (pe_lst pa_nil))
      (pss_cons (ps_for PassesOwn.never rfl (pi_tup (pv 0)) (pg_name (i := 3) nd rfl (Or.inl rfl)) (pss_one (ps_if (PW.pt (pw_and (pt_cmpR op_notN1 (pv 3) pe_non (nomark _)) (pw_and1 (pt_cmpR op_eq (pe_ix ix_tup (pv 3) pe_int (fun _ _ => rfl)) pe_str (nomark _))))) (pss_one (ps_expr (pe_bm PySem.F.plainAttrs_list PySem.F.slot_list_append PySem.F.type_list_append mt_append (pv 2) (pa_cons (pe_tup (pa_cons pe_str (pa_cons (pe_ix ix_tup (pv 3) pe_int (fun _ _ => rfl)) (pa_cons (pe_ix ix_tup (pv 3) pe_int (fun _ _ => rfl)) (pa_cons (pe_c c_without hr (by omega) (by rfl) (pa_cons (pe_ix ix_tup (pv 3) pe_int (fun _ _ => rfl)) (pa_cons (pv 1) pa_nil))) pa_nil))))) pa_nil)))) (pss_one (ps_expr (pe_bm PySem.F.plainAttrs_list PySem.F.slot_list_append PySem.F.type_list_append mt_append (pv 2) (pa_cons (pe_ifExp (PW.pt (pw_and (pt_cmpR op_notN1 (pv 3) pe_non (nomark _)) (pw_and1 (pt_cmpR op_eq (pe_ix ix_tup (pv 3) pe_int (fun _ _ => rfl)) (pv 1) (nomark _))))) pe_non (pv 3)) pa_nil)))))))
      (pss_one (ps_ret (pe_callTy (call_tupR (K := K) rfl) (by rfl) bi.tuple (by decide +kernel) (pa_cons (pv 2) pa_nil)))))), ?_⟩
  walk_at "rd"
  refine s_newX (by walk_at "sz") (fun F H1 hF e1 h1 => ?_)
  walk_at "rd"
  refine f_W walk_tup (fun i σ H' => ∃ o3 ys, σ = [some (.ref a), some (.str nm), some (.ref F), o3] ∧ Ext [] H H' ∧ H' F = some (.lst ys) ∧ DtAll H' ys (((ps.take i).map (woP nm)).map Part.enc)) ⟨_, _, rfl, e1, h1, .nil⟩ (fun i σ H' _ h => by
    obtain ⟨_, _, _, e, _⟩ := h
    exact SqT.of (e.tup _ _ ha)) (fun i x σ H2 H3 hi hP y => ?_) (fun σ H2 hP => ?_)
  · obtain ⟨o3, ys, rfl, e2, h2, hys⟩ := hP
    obtain ⟨rfl, hx⟩ := y
    obtain ⟨d2, hd2, hxd0⟩ := hs.getV hx
    obtain ⟨p, hp, rfl⟩ := encs_at hd2
    have hxd := hxd0.ext e2
    have hpm := mem_at hp
    have hb1 := dep_mem hpm
    have hb2 := cnt_mem hpm
    have hyl : ys.length ≤ 1000 := by
      rw [hys.len, List.length_map, List.length_map, List.length_take]
      omega
    have hmt : ((ps.take (i + 1)).map (woP nm)).map Part.enc = ((ps.take i).map (woP nm)).map Part.enc ++ [(woP nm p).enc] := by rw [take1 hp, List.map_append, List.map_append]; rfl
    rw [hmt]
    walk_at "rd"
    cases p with
    | emp =>
      have := hxd.empE
      subst this
      walk_at "rd"
      refine s_append h2 (by rw [sizeLine_eq]; omega) (fun H4 e4 h4 => ?_)
      walk_at "rd"
      exact ⟨_, _, rfl, e2.c1 e4 hF, h4, (hys.ext e4).append (.one .non)⟩
    | dev n as =>
      obtain ⟨t, u2, us, rfl, ht, hu2, hus⟩ := hxd.devE
      walk_at "rd"
      refine ifd0 (by decide) ?_
      walk_at "rd"
      refine ifd (fun c => ?_) (fun c => ?_)
      · walk_at "rd"
        refine s_append h2 (by rw [sizeLine_eq]; omega) (fun H4 e4 h4 => ?_)
        walk_at "rd"
        refine ⟨_, _, rfl, e2.c1 e4 hF, h4, (hys.ext e4).append (.one ?_)⟩
        show Dt H4 _ (Part.enc (if n = nm then .emp else .dev n as))
        rw [if_pos c]
        exact .non
      · walk_at "rd"
        refine s_append h2 (by rw [sizeLine_eq]; omega) (fun H4 e4 h4 => ?_)
        walk_at "rd"
        refine ⟨_, _, rfl, e2.c1 e4 hF, h4, (hys.ext e4).append (.one ?_)⟩
        show Dt H4 _ (Part.enc (if n = nm then .emp else .dev n as))
        rw [if_neg c]
        exact hxd.ext e4
    | br n ms qs =>
      have hd2 : deps qs + 1 ≤ deps ps := hb1
      have hc2 : 1 + cnts qs ≤ cnts ps := hb2
      obtain ⟨t, m, u2, us, rfl, ht, hm, hu2, hus⟩ := hxd.brE
      walk_at "rd"
      refine ifd1 rfl ?_
      walk_at "rd"
      refine ⟨_, qs, nm, rfl, .tup hu2 hus, by omega, by omega, fun v4 H4 e4 hv4 => ?_⟩
      walk_at "rd"
      refine s_newD (ds := [.str "bridge", .str n, .tuple (ms.map .str), .tuple (encs (woPs nm qs))]) (by walk_at "sz") (.cons (.str _) (.cons (.str _) (.two (hm.e0 e4) hv4))) (fun bv H5 e5 hbv => ?_)
      have h5 := (e4.then0 e5).at0 h2
      walk_at "rd"
      refine s_append h5 (by rw [sizeLine_eq]; omega) (fun H6 e6 h6 => ?_)
      walk_at "rd"
      refine ⟨_, _, rfl, (e2.then0 (e4.then0 e5)).c1 e6 hF, h6, (((hys.e0 (e4.then0 e5)).ext e6)).append (.one ?_)⟩
      unfold woP Part.enc
      exact hbv.ext e6
  · obtain ⟨o3, ys, rfl, e2, h2, hys⟩ := hP
    rw [hxl, List.take_length, ← woPs_map, ← encs_map] at hys
    walk_at "rd"
    exact s_tupOfD h2 hys fun v' H4 e4 h4 => q _ _ (e2.then0 e4) h4
abbrev sx_halved : Stmt := top 65
abbrev N_halved : List Str := ["_law_parts", "_law_kind", "_law_size", "_law_found", "_law_part_here", "_law_areas", "_law_area_here"]
theorem sc_halved : FnScope N_halved ["_law_parts", "_law_kind", "_law_size"] (defScope sx_halved) := ⟨rfl, rfl, rfl, by decide +kernel, rfl, by decide +kernel, by decide +kernel⟩
theorem ok_halved0 (T : At K mg "_law_halved" sx_halved ["_law_parts", "_law_kind", "_law_size"]) : Cal P w K mg base (k + 1) "_law_halved" (spHalved 0) [] := by
  refine T.ok sc_halved (fun vs H Q E h => ?_) (fun f cdv A outer s H vs Q E hr h => ?_)
  · obtain ⟨v, ps, kk, s, rfl, _⟩ := h
    rfl
  obtain ⟨v, ps, kk, s, rfl, _, h, _⟩ := h
  omega
theorem ok_halved {d : Nat} (bi : Bi mg kd) (T : At K mg "_law_halved" sx_halved ["_law_parts", "_law_kind", "_law_size"]) (c_halved : Cal P w K mg base k "_law_halved" (spHalved d) []) : Cal P w K mg base (k + 1) "_law_halved" (spHalved (d + 1)) [] := by
  refine T.ok sc_halved (fun vs H Q E h => ?_) (fun f cdv A outer s H vs Q E hr h => ?_)
  · obtain ⟨v, ps, kk, s, rfl, _⟩ := h
    rfl
  have nd := sc_halved.nd
  obtain ⟨v, ps, kk, sz0, rfl, hv, hdp, hcn, hkk, hpo, q⟩ := h
  obtain ⟨a, xs, rfl, ha, hs⟩ := hv.tupE
  have hxl : xs.length = ps.length := by rw [hs.len, encs_len]
  have hpl := len_cnts ps
  refine ⟨_, (pss_cons (ps_set (i := 3) nd rfl (Or.inl rfl) (pe_lst pa_nil))
      (pss_cons (ps_for PassesOwn.never rfl (pi_tup (pv 0)) (pg_name (i := 4) nd rfl (Or.inl rfl)) (pss_one (ps_if (PW.pt (pw_and (pt_cmpR op_notN1 (pv 4) pe_non (nomark _)) (pw_and1 (pt_cmpR op_eq (pe_ix ix_tup (pv 4) pe_int (fun _ _ => rfl)) pe_str (nomark _))))) (pss_one (ps_expr (pe_bm PySem.F.plainAttrs_list PySem.F.slot_list_append PySem.F.type_list_append mt_append (pv 3) (pa_cons (pe_tup (pa_cons pe_str (pa_cons (pe_ix ix_tup (pv 4) pe_int (fun _ _ => rfl)) (pa_cons (pe_ix ix_tup (pv 4) pe_int (fun _ _ => rfl)) (pa_cons (pe_c c_halved hr (by omega) (by rfl) (pa_cons (pe_ix ix_tup (pv 4) pe_int (fun _ _ => rfl)) (pa_cons (pv 1) (pa_cons (pv 2) pa_nil)))) pa_nil))))) pa_nil)))) (pss_one (ps_if (pt_cmpR op_notN1 (pv 4) pe_non (nomark _)) (pss_cons (ps_setLc (i := 5) (own := [("_law_area_here", 6)]) (g := gName 6) (by rfl) nd rfl rfl (sw_true rfl rfl rfl (by decide +kernel)) (pi_tup (pe_ix ix_tup (pv 4) pe_int (fun _ _ => rfl))) (blkOk_by (own := [("_law_area_here", 6)]) (N := N_halved) (sc := defScope sx_halved) (by decide +kernel)) (fun _ _ _ _ _ => (pg_name (i := 6) nd rfl (Or.inl rfl))) (fun _ _ _ _ _ => pts_nil) (fun _ _ _ _ _ => (pe_ifExp (pt_cmpR (op_eqDK (K := K) rfl hr.units) (pv 6) (pe_tup (pa_cons (pv 1) (pa_cons (pv 2) pa_nil))) (nomark _)) (pe_tup (pa_cons (pe_ix (ix_tupK (K := K) rfl) (pv 6) pe_int (fun _ _ => rfl)) (pa_cons (pe_op op_fdivW (pv 2) pe_int) pa_nil))) (pv 6))))
      (pss_one (ps_expr (pe_bm PySem.F.plainAttrs_list PySem.F.slot_list_append PySem.F.type_list_append mt_append (pv 3) (pa_cons (pe_tup (pa_cons pe_str (pa_cons (pe_ix ix_tup (pv 4) pe_int (fun _ _ => rfl)) (pa_cons (pe_callTy (call_tupR (K := K) rfl) (by rfl) bi.tuple (by decide +kernel) (pa_cons (pv 5) pa_nil)) pa_nil)))) pa_nil))))) (pss_one (ps_expr (pe_bm PySem.F.plainAttrs_list PySem.F.slot_list_append PySem.F.type_list_append mt_append (pv 3) (pa_cons pe_non pa_nil)))))))))
      (pss_one (ps_ret (pe_callTy (call_tupR (K := K) rfl) (by rfl) bi.tuple (by decide +kernel) (pa_cons (pv 3) pa_nil)))))), ?_⟩
  walk_at "rd"
  refine s_newX (by walk_at "sz") (fun F H1 hF e1 h1 => ?_)
  walk_at "rd"
  refine f_W walk_tup (fun i σ H' => ∃ o4 o5 o6 ys, σ = [some (.ref a), some (.str kk), some (.int sz0), some (.ref F), o4, o5, o6] ∧ Ext [] H H' ∧ H' F = some (.lst ys) ∧ DtAll H' ys (((ps.take i).map (haP kk sz0)).map Part.enc)) ⟨_, _, _, _, rfl, e1, h1, .nil⟩ (fun i σ H' _ h => by
    obtain ⟨_, _, _, _, _, e, _⟩ := h
    exact SqT.of (e.tup _ _ ha)) (fun i x σ H2 H3 hi hP y => ?_) (fun σ H2 hP => ?_)
  · obtain ⟨o4, o5, o6, ys, rfl, e2, h2, hys⟩ := hP
    obtain ⟨rfl, hx⟩ := y
    obtain ⟨d2, hd2, hxd0⟩ := hs.getV hx
    obtain ⟨p, hp, rfl⟩ := encs_at hd2
    have hxd := hxd0.ext e2
    have hpm := mem_at hp
    have hb1 := dep_mem hpm
    have hb2 := cnt_mem hpm
    have hyl : ys.length ≤ 1000 := by
      rw [hys.len, List.length_map, List.length_map, List.length_take]
      omega
    have hmt : ((ps.take (i + 1)).map (haP kk sz0)).map Part.enc = ((ps.take i).map (haP kk sz0)).map Part.enc ++ [(haP kk sz0 p).enc] := by rw [take1 hp, List.map_append, List.map_append]; rfl
    rw [hmt]
    walk_at "rd"
    cases p with
    | emp =>
      have := hxd.empE
      subst this
      walk_at "rd"
      refine s_append h2 (by rw [sizeLine_eq]; omega) (fun H4 e4 h4 => ?_)
      walk_at "rd"
      exact ⟨_, _, _, _, rfl, e2.c1 e4 hF, h4, (hys.ext e4).append (.one .non)⟩
    | dev n as =>
      have hla : 1 + as.length ≤ cnts ps := hb2
      obtain ⟨t, u2, us, rfl, ht, hu2, hus⟩ := hxd.devE
      have hul : us.length = as.length := by rw [hus.len, List.length_map]
      walk_at "rd"
      refine ifd0 (by decide) ?_
      walk_at "rd"
      refine lc_W walk_tup [] (fun j acc H' => DtAll H' acc (((as.take j).map (haA kk sz0)).map encA)) (fun H' e => SqT.of (e.tup _ _ hu2)) (fun _ _ => .nil) (fun j x D acc H4 H5 hj hD e hacc hl hR y => ?_) (fun D acc H4 hD e4 hacc hl hR => ?_)
      · obtain ⟨rfl, hx⟩ := y
        obtain ⟨d, hd, hxa⟩ := hus.getV hx
        obtain ⟨b, hb, rfl⟩ := map_at hd
        have hxb := hxa.ext e
        obtain ⟨t2, rfl, ht2⟩ := hxb.areaE
        have fin : ∀ (v : V) (H6 : Hp), Ext [] H5 H6 → Dt H6 v (encA (haA kk sz0 b)) → ∃ acc', H6 D = some (.lst acc') ∧ acc'.length < sizeLine ∧ LcInv [] _ D (fun j acc H' => DtAll H' acc (((as.take j).map (haA kk sz0)).map encA)) (j + 1) (upd H6 D (.lst (acc' ++ [v]))) := fun v H6 e6 hv => by
          refine lc_put hD (e.then0 e6) (e6.at0 hacc) hl (by omega) (fun H7 e7 => ?_)
          rw [take1 hb, List.map_append, List.map_append]
          exact ((hR.e0 e6).ext e7).append (.one (hv.ext e7))
        walk_at "rd"
        refine ⟨rfl, ?_⟩
        walk_at "rd"
        refine s_newD (ds := [.str kk, .int sz0]) (by walk_at "sz") (.two (.str _) (.int _)) (fun v6 H6 e6 hv6 => ?_)
        refine s_eqD (hxb.e0 e6) (show Dt H6 v6 (encA (kk, sz0)) from hv6) (shaped_encA (psOk_iff.mp hpo _ hpm b (mem_at hb)).1) (shaped_encA hkk) ?_
        rw [eqv_encA]
        have ht26 := e6.at0 ht2
        walk_at "rd"
        refine ifd (fun c => ?_) (fun c => ?_)
        · walk_at "rd"
          refine s_I ⟨by decide, by decide⟩ ?_
          walk_at "rd"
          refine s_newD (ds := [.str b.1, .int (sz0 / 2)]) (by walk_at "sz") (.two (.str _) (.int _)) (fun v7 H7 e7 hv7 => ?_)
          refine fin v7 H7 (e6.then0 e7) ?_
          unfold haA
          rw [if_pos c]
          exact hv7
        · walk_at "rd"
          refine fin _ H6 e6 ?_
          unfold haA
          rw [if_neg c]
          exact hxb.e0 e6
      · rw [hul, List.take_length] at hR
        have h4F := e4.at0 h2
        walk_at "rd"
        refine s_tupOfD hacc hR (fun pv H5 e5 hpv => ?_)
        walk_at "rd"
        refine s_newD (ds := [.str "device", .str n, .tuple ((as.map (haA kk sz0)).map encA)]) (by walk_at "sz") (.cons (.str _) (.two (.str _) hpv)) (fun bv H6 e6 hbv => ?_)
        have h6F := (e5.then0 e6).at0 h4F
        walk_at "rd"
        refine s_append h6F (by rw [sizeLine_eq]; omega) (fun H7 e7 h7 => ?_)
        walk_at "rd"
        refine ⟨_, _, _, _, rfl, ((e2.then0 e4).then0 (e5.then0 e6)).c1 e7 hF, h7, ((((hys.e0 e4).e0 (e5.then0 e6)).ext e7)).append (.one ?_)⟩
        unfold haP Part.enc
        exact hbv.ext e7
    | br n ms qs =>
      have hd2 : deps qs + 1 ≤ deps ps := hb1
      have hc2 : 1 + cnts qs ≤ cnts ps := hb2
      obtain ⟨t, m, u2, us, rfl, ht, hm, hu2, hus⟩ := hxd.brE
      walk_at "rd"
      refine ifd1 rfl ?_
      walk_at "rd"
      refine ⟨_, qs, kk, sz0, rfl, .tup hu2 hus, by omega, by omega, hkk, psOk_iff.mp hpo _ hpm, fun v4 H4 e4 hv4 => ?_⟩
      walk_at "rd"
      refine s_newD (ds := [.str "bridge", .str n, .tuple (ms.map .str), .tuple (encs (haPs kk sz0 qs))]) (by walk_at "sz") (.cons (.str _) (.cons (.str _) (.two (hm.e0 e4) hv4))) (fun bv H5 e5 hbv => ?_)
      have h5 := (e4.then0 e5).at0 h2
      walk_at "rd"
      refine s_append h5 (by rw [sizeLine_eq]; omega) (fun H6 e6 h6 => ?_)
      walk_at "rd"
      refine ⟨_, _, _, _, rfl, (e2.then0 (e4.then0 e5)).c1 e6 hF, h6, (((hys.e0 (e4.then0 e5)).ext e6)).append (.one ?_)⟩
      unfold haP Part.enc
      exact hbv.ext e6
  · obtain ⟨o4, o5, o6, ys, rfl, e2, h2, hys⟩ := hP
    rw [hxl, List.take_length, ← haPs_map, ← encs_map] at hys
    walk_at "rd"
    exact s_tupOfD h2 hys fun v' H4 e4 h4 => q _ _ (e2.then0 e4) h4
end
end Bw

/-! the law: left, windows_right, no_more -/
namespace Bw
open PySem PySem.Spec PyProof.Rows L2
open C8 (Cal pe_c pe_gc)
open StX (pa_star tStar)
open RZ (pi_zipA iZipA)
-- the tactics of this text, by key
local macro_rules | `(tactic| walk_at "nm") => `(tactic| first | (intro hmem; cases hmem; done) | (simp only [List.mem_cons, List.mem_singleton, List.not_mem_nil, or_false, not_or, not_false_eq_true]; done) | (simp only [List.mem_cons, List.mem_singleton, List.not_mem_nil, or_false, not_or]; (repeat' apply And.intro) <;> first | assumption | exact Ne.symm (by assumption) | exact ne_some (by assumption) (by assumption) | exact Ne.symm (ne_some (by assumption) (by assumption))))
local macro_rules | `(tactic| walk_at "hx") => `(tactic| first | assumption | exact Dt.non | exact Dt.int _ | exact Dt.str _ | exact Dt.bl _ | (refine Dt.ext (by assumption) ?_; walk_at "hx") | (refine DtAll.ext (by assumption) ?_; walk_at "hx") | (refine Ext.at0 (by assumption) ?_; walk_at "hx") | (refine Ext.tupC (by assumption) ?_; walk_at "hx") | (refine Ext.atC (by assumption) ?_ (by walk_at "nm"); walk_at "hx"))
local macro_rules | `(tactic| walk_at "dm") => `(tactic| first | exact fun _ h => h | (refine dom_step (by assumption) ?_; walk_at "dm"))
local macro_rules | `(tactic| walk_at "fr") => `(tactic| first | assumption | (refine fr_of (by assumption) ?_; walk_at "dm"))
local macro_rules | `(tactic| walk_at "ex") => `(tactic| first | assumption | exact Ext.refl | exact Ext.mono0 (by assumption) | (refine Ext.then0 ?_ (by assumption); walk_at "ex") | (refine Ext.transC ?_ (by assumption); walk_at "ex") | (refine Ext.c1 ?_ (by assumption) (by walk_at "fr"); walk_at "ex") | (refine Ext.cm ?_ (by assumption) (by simp only [List.mem_cons, true_or, or_true]; done); walk_at "ex"))
local macro_rules | `(tactic| walk_at "r1") => `(tactic| first
  | (with_reducible refine s_var rfl ?_) | (with_reducible refine s_c ?_) | (with_reducible refine s_op ?_) | (with_reducible refine s_un ?_) | (with_reducible refine s_I0 ?_) | (with_reducible refine s_U ?_)
  | (with_reducible refine s_eqI ?_) | (with_reducible refine s_eqS ?_) | (with_reducible refine s_eqB ?_) | (with_reducible refine s_neI ?_) | (with_reducible refine s_neS ?_) | (with_reducible refine s_neB ?_)
  | (with_reducible refine s_isN1 ?_) | (with_reducible refine s_isN0 ?_) | (with_reducible refine s_notN1 ?_) | (with_reducible refine s_notN0 ?_) | (with_reducible refine s_isBl ?_) | (with_reducible refine s_notBl ?_)
  | (with_reducible refine s_test ?_) | (with_reducible refine s_B ?_) | (with_reducible refine s_bl ?_) | (with_reducible refine s_and ?_) | (with_reducible refine s_or ?_) | (with_reducible refine s_not ?_)
  | (with_reducible refine s_andV ?_) | (with_reducible refine s_orV ?_) | (with_reducible refine s_notV ?_) | (with_reducible refine s_ifE ?_) | (with_reducible refine s_chain ?_)
  | (with_reducible refine s_next ?_) | (with_reducible refine s_seq ?_) | (with_reducible refine s_drop ?_) | (with_reducible refine s_ret ?_) | (with_reducible refine s_retN ?_) | (with_reducible refine s_ifS ?_) | (with_reducible refine s_asg ?_)
  | ((with_reducible refine g_name ?_); refine s_name (by first | rfl) ?_) | (with_reducible refine s_parS ?_) | (with_reducible refine s_par ?_) | ((with_reducible refine g_nx ?_); refine s_nx rfl ?_) | (with_reducible refine s_gsub ?_) | (with_reducible refine s_gnil ?_) | (with_reducible refine s_gcons ?_)
  | (with_reducible refine s_call ?_) | (with_reducible refine s_cb ?_) | (with_reducible refine s_nil ?_) | (with_reducible refine s_cons ?_) | (with_reducible refine s_tupT ?_) | (with_reducible refine s_lstT ?_)
  | (with_reducible refine s_sl ?_) | (with_reducible refine s_nopart ?_) | (with_reducible refine s_part ?_) | (with_reducible refine s_int ?_) | (with_reducible refine s_bm ?_) | (with_reducible refine s_dget ?_) | (with_reducible refine s_dputS ?_)
  | (with_reducible refine s_forS ?_) | (with_reducible refine s_lc ?_) | (with_reducible refine s_iTup ?_) | (with_reducible refine s_iList ?_) | (with_reducible refine s_iRng1 ?_) | (with_reducible refine s_iRng2 ?_) | (with_reducible refine s_tYes ?_) | (with_reducible refine s_intI ?_) | (with_reducible refine s_intB ?_) | (with_reducible refine s_min2 ?_) | (with_reducible refine s_max2 ?_) | (with_reducible refine s_abs ?_) | (with_reducible refine s_revL ?_) | (with_reducible refine s_iEnumT ?_) | (with_reducible refine s_iEnum ?_) | (with_reducible refine s_iZipA ?_) | (with_reducible refine s_iZipM ?_) | (with_reducible refine s_iZip ?_) | (with_reducible refine s_iStr ?_) | (with_reducible refine s_star ?_) | (with_reducible refine s_lc2 ?_) | (with_reducible refine s_dc ?_) | (with_reducible refine s_bm ?_)
  | (with_reducible refine isi_int _ ?_) | (with_reducible refine isi_intB _ ?_) | (with_reducible refine isi_str _ ?_) | (with_reducible refine isi_non ?_)
  | (with_reducible refine iteT ?_) | (with_reducible refine iteF ?_) | (with_reducible refine iteNT ?_) | (with_reducible refine iteNF ?_))
local macro_rules | `(tactic| walk_at "r2") => `(tactic| first
  | ((with_reducible refine g_ixT ?_); first | (refine s_ixT (by walk_at "hx") rfl ?_) | (refine s_ixDs (by walk_at "hx") rfl ?_) | (refine s_ixDi (by walk_at "hx") rfl ?_) | (refine s_ixD (by walk_at "hx") rfl (fun _ _ => ?_)) | (refine s_ixD0s (by walk_at "hx") ?_))
  | ((with_reducible refine g_form ?_); first | (refine isDev_non ?_) | (refine isBr_non ?_) | (refine isDev_dev (by walk_at "hx") ?_) | (refine isDev_br (by walk_at "hx") ?_) | (refine isBr_dev (by walk_at "hx") ?_) | (refine isBr_br (by walk_at "hx") ?_))
  | ((with_reducible refine g_isi ?_); first | (with_reducible refine isi_dt (by walk_at "hx") ?_) | (with_reducible refine isi_tup (by walk_at "hx") ?_))
  | ((with_reducible refine g_len ?_); first | (with_reducible refine s_lenL (by walk_at "hx") ?_) | (with_reducible refine s_lenT (by walk_at "hx") ?_) | (with_reducible refine s_lenD (by walk_at "hx") ?_))
  | ((with_reducible refine g_ty ?_); first | (refine s_tyK (by assumption) ?_) | (with_reducible refine s_tyL (by walk_at "hx") ?_))
  | ((with_reducible refine g_tix ?_); first | (refine s_idx0 (by assumption) ?_) | (refine s_idx1 (by assumption) ?_))
  | ((with_reducible refine g_enT ?_); with_reducible refine s_enT (by walk_at "hx") ?_) | ((with_reducible refine g_enL ?_); with_reducible refine s_enL (by walk_at "hx") ?_)
  | ((with_reducible refine g_za ?_); first | (with_reducible refine s_zaT2 (by walk_at "hx") (by walk_at "hx") ?_) | (with_reducible refine s_zaL (by walk_at "hx") (by walk_at "hx") ?_))
  | ((with_reducible refine g_zm ?_); first | (with_reducible refine s_zmT (by walk_at "hx") (by walk_at "hx") ?_) | (with_reducible refine s_zmL (by walk_at "hx") (by walk_at "hx") ?_))
  | ((with_reducible refine g_zl ?_); with_reducible refine s_zl (by walk_at "hx") (by walk_at "hx") ?_)
  | ((with_reducible refine g_itT ?_); with_reducible refine s_itT (by walk_at "hx") ?_) | ((with_reducible refine g_itL ?_); with_reducible refine s_itL (by walk_at "hx") ?_)
  | ((with_reducible refine g_gtup ?_); refine s_gtup (by walk_at "hx") rfl ?_))
local macro_rules | `(tactic| walk_at "rd") => `(tactic| repeat (first | walk_at "r1" | walk_at "r2"))
local macro_rules | `(tactic| walk_at "sz") => `(tactic| (simp only [List.length_cons, List.length_nil, List.length_append, List.length_map, sizeLine_eq] <;> omega))
theorem s_dnew12 {σ : L2.St} {H : Hp} {Q : VK} (q : ∀ p H', H p = none → Ext [] H H' → H' p = some (.dK []) → Q (.ref p) H') : tDNewK σ H Q := s_new q
theorem cut_take12 : ∀ {bs : List Blk} {as : List Area} {i : Nat} {b : Blk} {a : Area}, bs[i]? = some b → as[i]? = some a → cutBs (bs.take (i + 1)) (as.take (i + 1)) = cutBs (bs.take i) (as.take i) ++ [(b.1, a.2)]
  | [], _, _, _, _, h, _ => by simp at h
  | _ :: _, [], _, _, _, _, h => by simp at h
  | b :: bs, a :: as, 0, b', a', hb, ha => by
    have e1 : b = b' := Option.some.inj hb
    have e2 : a = a' := Option.some.inj ha
    subst e1 e2
    show (b.1, a.2) :: cutBs (bs.take 0) (as.take 0) = [] ++ [(b.1, a.2)]
    rw [List.take_zero]
    rfl
  | b :: bs, a :: as, i + 1, b', a', hb, ha => by
    have := cut_take12 (bs := bs) (as := as) (i := i) (b := b') (a := a') (by simpa using hb) (by simpa using ha)
    show (b.1, a.2) :: cutBs (bs.take (i + 1)) (as.take (i + 1)) = (b.1, a.2) :: cutBs (bs.take i) (as.take i) ++ _
    rw [this]
    rfl
theorem putK_le12 (c : List (Key × V)) (k : Key) (x : V) : (putK c k x).length ≤ c.length + 1 := by
  unfold putK
  split
  · rw [List.length_map]; omega
  · rw [List.length_append]; exact Nat.le_refl _
/-- rows by names -/
def KnownAt (H : Hp) (kvs : List (Key × V)) (r : Row) : Prop := ∃ x, valV kvs (.inr r.nm) = some x ∧ Dt H x r.enc
theorem KnownAt.ext {H H' : Hp} {M : List Addr} {kvs : List (Key × V)} {r : Row} (h : KnownAt H kvs r) (e : Ext M H H') : KnownAt H' kvs r := h.elim fun x h => ⟨x, h.1, h.2.ext e⟩
theorem row_head12 (r : Row) : ∃ rest, r.enc = .tuple (.str r.nm :: rest) := by
  cases r with
  | dev n bs => exact ⟨_, rfl⟩
  | br n f e => exact ⟨_, rfl⟩
theorem known_put {H H' : Hp} {D : Addr} {kvs : List (Key × V)} {rs : List Row} {A : Str → Row} (hag : ∀ r ∈ rs, A r.nm = r) {i : Nat} {r : Row} {x : V} (hr : rs[i]? = some r) (hx : Dt H x r.enc) (e : Ext [D] H H')
    (hk : ∀ j r, j < i → rs[j]? = some r → KnownAt H kvs r) : ∀ j r', j < i + 1 → rs[j]? = some r' → KnownAt H' (putK kvs (.inr r.nm) x) r' := fun j r' hj hr' => by
  by_cases hji : j < i
  · obtain ⟨y, hy1, hy2⟩ := hk j r' hji hr'
    by_cases hn : r'.nm = r.nm
    · refine ⟨x, by rw [valV_put, hn, if_pos rfl], ?_⟩
      have : r' = r := by rw [← hag r' (mem_at hr'), ← hag r (mem_at hr), hn]
      rw [this]
      exact hx.ext e
    · exact ⟨y, by rw [valV_put, if_neg (fun z => hn (Sum.inr.inj z))]; exact hy1, hy2.ext e⟩
  · obtain rfl : j = i := by omega
    obtain rfl : r = r' := Option.some.inj (hr.symm.trans hr')
    exact ⟨x, by rw [valV_put, if_pos rfl], hx.ext e⟩
section
variable {P : Program} {w : World} {K : PySem.W.Frag} {mg : Str → Option Value} {base : Heap} {kd : Addr} {k : Nat}
abbrev sx_left : Stmt := top 66
abbrev N_left : List Str := ["_law_tree_here", "_law_rows", "_law_found", "_law_known", "_law_row", "_law_path", "_law_part_here", "_law_blocks", "_law_far", "_law_block", "_law_area_here"]
theorem sc_left : FnScope N_left ["_law_tree_here", "_law_rows"] (defScope sx_left) := ⟨rfl, rfl, rfl, by decide +kernel, rfl, by decide +kernel, by decide +kernel⟩
theorem ok_left (bi : Bi mg kd) (T : At K mg "_law_left" sx_left ["_law_tree_here", "_law_rows"]) (c_lplaced : Cal P w K mg base k "_law_placed" (spLPlaced 8) []) (c_least : Cal P w K mg base k "_law_least" (spLeastSize 6) []) : Cal P w K mg base (k + 1) "_law_left" spLeft [] := by
  refine T.ok sc_left (fun vs H Q E h => ?_) (fun f cdv A outer s H vs Q E hr h => ?_)
  · obtain ⟨v, u, ms, qs, rs, A, rfl, _⟩ := h
    rfl
  have nd := sc_left.nd
  obtain ⟨v, u, ms, qs, rs, AA, rfl, hv, hcn, hdp, hu, hok, q⟩ := h
  obtain ⟨au, xr, rfl, hau, hxr⟩ := hu.tupE
  have hxl : xr.length = rs.length := by rw [hxr.len, List.length_map]
  have hrl := hok.len
  have hpl := plss_len qs
  refine ⟨_, (pss_cons (ps_par (i := 2) (j := 3) (by rfl) nd rfl rfl (by decide) rfl rfl (pa_cons (pe_lst pa_nil) (pa_cons pe_dnewK pa_nil)) (by rfl))
      (pss_cons (ps_for PassesOwn.never rfl (pi_tup (pv 1)) (pg_name (i := 4) nd rfl (Or.inl rfl)) (pss_one (ps_dput (hu_of hr) (pv 3) (pe_ix ix_tup (pv 4) pe_int (fun _ _ => rfl)) (pv 4) rfl)))
      (pss_cons (ps_for PassesOwn.never rfl (pi_list (pe_c c_lplaced hr (by omega) (by rfl) (pa_cons (pe_ix ix_tup (pv 0) pe_int (fun _ _ => rfl)) (pa_cons (pe_tup pa_nil) pa_nil)))) (pg_tup rfl (pgs_cons (pg_name (i := 5) nd rfl (Or.inl rfl)) (pgs_cons (pg_name (i := 6) nd rfl (Or.inl rfl)) pgs_nil))) (pss_cons (ps_set (i := 4) nd rfl (Or.inl rfl) (pe_dget (hu_of hr) (pv 3) (pe_ix ix_tup (pv 6) pe_int (fun _ _ => rfl)) (fun _ _ => rfl)))
      (pss_one (ps_if (pt_cmpR op_eq (pe_ix ix_tup (pv 6) pe_int (fun _ _ => rfl)) pe_str (nomark _)) (pss_cons (ps_setLc (i := 7) (own := [("_law_block", 9), ("_law_area_here", 10)]) (g := gTup K 2 (gCons (gName 9) (gCons (gName 10) (gNil)))) (by rfl) nd rfl rfl (sw_true rfl rfl rfl (by decide +kernel)) (pi_zipA (by rfl) bi.zip (pa_cons (pe_ix ix_tup (pv 4) pe_int (fun _ _ => rfl)) (pa_cons (pe_ix ix_tup (pv 6) pe_int (fun _ _ => rfl)) pa_nil))) (blkOk_by (own := [("_law_block", 9), ("_law_area_here", 10)]) (N := N_left) (sc := defScope sx_left) (by decide +kernel)) (fun _ _ _ _ _ => (pg_tup rfl (pgs_cons (pg_name (i := 9) nd rfl (Or.inl rfl)) (pgs_cons (pg_name (i := 10) nd rfl (Or.inl rfl)) pgs_nil)))) (fun _ _ _ _ _ => pts_nil) (fun _ _ _ _ _ => (pe_tup (pa_cons (pe_ix (ix_tupK (K := K) rfl) (pv 9) pe_int (fun _ _ => rfl)) (pa_cons (pe_ix (ix_tupK (K := K) rfl) (pv 10) pe_int (fun _ _ => rfl)) pa_nil)))))
      (pss_one (ps_expr (pe_bm PySem.F.plainAttrs_list PySem.F.slot_list_append PySem.F.type_list_append mt_append (pv 2) (pa_cons (pe_tup (pa_cons (pe_ix ix_tup (pv 6) pe_int (fun _ _ => rfl)) (pa_cons (pe_callTy (call_tupR (K := K) rfl) (by rfl) bi.tuple (by decide +kernel) (pa_cons (pv 7) pa_nil)) pa_nil))) pa_nil))))) (pss_cons (ps_set (i := 8) nd rfl (Or.inl rfl) (pe_ifExp (pt_cmpR op_gt (pe_c c_least hr (by omega) (by rfl) (pa_cons (pv 6) (pa_cons pe_str pa_nil))) pe_int (nomark _)) (pe_ix ix_tup (pv 4) pe_int (fun _ _ => rfl)) pe_non))
      (pss_one (ps_expr (pe_bm PySem.F.plainAttrs_list PySem.F.slot_list_append PySem.F.type_list_append mt_append (pv 2) (pa_cons (pe_tup (pa_cons (pe_ix ix_tup (pv 6) pe_int (fun _ _ => rfl)) (pa_cons (pv 8) (pa_cons (pe_ifExp (pt_cmpR op_gt (pe_c c_least hr (by omega) (by rfl) (pa_cons (pv 6) (pa_cons pe_str pa_nil))) pe_int (nomark _)) (pe_ix ix_tup (pv 4) pe_int (fun _ _ => rfl)) pe_non) pa_nil)))) pa_nil)))))))))
      (pss_one (ps_ret (pe_callTy (call_tupR (K := K) rfl) (by rfl) bi.tuple (by decide +kernel) (pa_cons (pv 2) pa_nil))))))), ?_⟩
  walk_at "rd"
  refine s_newX (by walk_at "sz") (fun Fd H1 hFd e1 h1 => ?_)
  walk_at "rd"
  refine s_dnew12 (fun D H2 hD e2 h2 => ?_)
  walk_at "rd"
  have e02 := e1.then0 e2
  have hHD := e1.free hD
  have hFdD : Fd ≠ D := ne_some h1 hD
  refine f_W walk_tup (fun i σ H' => ∃ o4 o5 o6 o7 o8 o9 o10 kvs, σ = [some v, some (.ref au), some (.ref Fd), some (.ref D), o4, o5, o6, o7, o8, o9, o10] ∧ Ext [] H H' ∧ H' Fd = some (.lst []) ∧ H' D = some (.dK kvs) ∧ kvs.length ≤ i ∧ ∀ j r, j < i → rs[j]? = some r → KnownAt H' kvs r)
    ⟨_, _, _, _, _, _, _, [], rfl, e02, e2.at0 h1, h2, Nat.zero_le _, fun j r h => absurd h (Nat.not_lt_zero j)⟩ (fun i σ H' _ h => by
      obtain ⟨_, _, _, _, _, _, _, _, _, e, _⟩ := h
      exact SqT.of (e.tup _ _ hau)) (fun i x σ H3 H4 hi hP y => ?_) (fun σ H3 hP => ?_)
  · obtain ⟨o4, o5, o6, o7, o8, o9, o10, kvs, rfl, e3, hFd3, hD3, hkl, hkn⟩ := hP
    obtain ⟨rfl, hx⟩ := y
    obtain ⟨d, hd, hxd⟩ := hxr.getV hx
    obtain ⟨rw_, hrw, rfl⟩ := map_at hd
    have hxd3 := hxd.e0 e3
    obtain ⟨rest, hre⟩ := row_head12 rw_
    have hxd4 := hxd3
    rw [hre] at hxd4
    walk_at "rd"
    refine s_dputK (k := .inr rw_.nm) hD3 rfl (by rw [sizeLine_eq]; omega) (fun H5 e5 h5 => ?_)
    exact ⟨_, _, _, _, _, _, _, _, rfl, e3.c1 e5 hHD, e5.at hFd3 (ne1 hFdD), h5, Nat.le_trans (putK_le12 _ _ _) (by omega), known_put hok.ag hrw hxd3 e5 hkn⟩
  · obtain ⟨o4, o5, o6, o7, o8, o9, o10, kvs, rfl, e3, hFd3, hD3, hkl, hkn0⟩ := hP
    have hkn : ∀ r ∈ rs, KnownAt H3 kvs r := fun r hr => by
      obtain ⟨j, hj⟩ := List.mem_iff_getElem?.mp hr
      have := at_lt hj
      exact hkn0 j r (by omega) hj
    clear hkn0
    have hv3 := hv.e0 e3
    unfold encT at hv3
    walk_at "rd"
    rename_i pv hpv
    refine s_newD (by walk_at "sz") (ds := []) .nil (fun uv H4 e4 huv => ?_)
    walk_at "rd"
    refine ⟨_, _, qs, [], rfl, hpv.e0 e4, huv, by decide, by omega, by omega, fun LP xl L H5 e5 hLP h5 hL hPl => ?_⟩
    have e35 := e4.then0 e5
    have hFd5 := e35.at0 hFd3
    have hD5 := e35.at0 hD3
    have hxll : xl.length = (plss qs).length := by rw [hL.len, hPl.len]
    have hLPFd : Fd ≠ LP := ne_some (e4.at0 hFd3) hLP
    walk_at "rd"
    refine f_W walk_list (fun i σ H' => ∃ o4 o5 o6 o7 o8 o9 o10 ys, σ = [some v, some (.ref au), some (.ref Fd), some (.ref D), o4, o5, o6, o7, o8, o9, o10] ∧ Ext [Fd] H5 H' ∧ H' Fd = some (.lst ys) ∧ DtAll H' ys (((plss qs).take i).map fun q => (leftRow q (AA q.nm)).enc))
      ⟨_, _, _, _, _, _, _, _, rfl, .refl, hFd5, .nil⟩ (fun i σ H' _ h => by
        obtain ⟨_, _, _, _, _, _, _, _, _, e, _⟩ := h
        exact SqL.of (e.at h5 (ne1 hLPFd.symm))) (fun i x σ H6 H7 hi hP y => ?_) (fun σ H6 hP => ?_)
    · obtain ⟨o4, o5, o6, o7, o8, o9, o10, ys, rfl, e6, hFd6, hys⟩ := hP
      obtain ⟨rfl, hx⟩ := y
      obtain ⟨d, hd, hxd⟩ := hL.getV hx
      obtain ⟨path, p, hp, rfl⟩ := hPl.get hd
      have hpm := mem_at hp
      have hbd := plss_bound qs p hpm
      have hrf := hok.for_ p hpm
      obtain ⟨xk, hxk1, hxk2⟩ := hkn _ (hok.mem p hpm)
      obtain ⟨tb, ts, rfl, htb, hts⟩ := (hxd.ext e6).tupE
      have e36 : Ext [Fd] H3 _ := (Ext.mono0 e35).trans e6
      have hxk3 := hxk2.ext e36
      have hD6 := e36.at hD3 (ne1 hFdD.symm)
      have hyl : ys.length ≤ 63 := by
        rw [hys.len, List.length_map, List.length_take]
        omega
      have hmt : ((plss qs).take (i + 1)).map (fun q => (leftRow q (AA q.nm)).enc) = ((plss qs).take i).map (fun q => (leftRow q (AA q.nm)).enc) ++ [(leftRow p (AA p.nm)).enc] := by rw [take1 hp, List.map_append]; rfl
      rw [hmt]
      cases hts with
      | cons g1 g2 => cases g2 with
        | cons g2 g3 =>
          cases g3
          cases p with
          | emp => exact hrf.elim
          | dev n as =>
            obtain ⟨bs, hAr, hbl⟩ := hrf
            have hAr : AA n = .dev n bs := hAr
            have hxk1 : valV kvs (.inr (AA n).nm) = some xk := hxk1
            have hxk3 : Dt _ xk (AA n).enc := hxk3
            rw [hAr] at hxk1 hxk3
            have hxk4 : Dt _ xk (.tuple [.str n, .tuple (bs.map encB)]) := hxk3
            obtain ⟨tx, xx, rfl, htx, hxx⟩ := hxk4.tupE
            cases hxx with
            | cons k1 k2 => cases k2 with
              | cons k2 k3 =>
                cases k3
                rw [k1.str_eq] at htx
                obtain ⟨tbs, bsv, rfl, htbs, hbsv⟩ := k2.tupE
                obtain ⟨t, u2, us, rfl, ht, hu2, hus⟩ := g2.devE
                have hul : us.length = as.length := by rw [hus.len, List.length_map]
                have hbvl : bsv.length = as.length := by rw [hbsv.len, List.length_map, hbl]
                have hla : 1 + as.length ≤ cnts qs := hbd.2
                walk_at "rd"
                refine s_dgetK (k := .inr n) hD6 rfl hxk1 ?_
                walk_at "rd"
                refine ifd1 rfl ?_
                walk_at "rd"
                refine lc_W (walk_zipT hbvl hul) [] (fun j acc H' => DtAll H' acc ((cutBs (bs.take j) (as.take j)).map encB)) (fun H' e => ⟨SqT.of (e.tup _ _ htbs), SqT.of (e.tup _ _ hu2)⟩) (fun _ _ => by rw [List.take_zero, List.take_zero]; exact .nil) (fun j x DD acc H8 H9 hj hDD e hacc hl hR y => ?_) (fun DD acc H8 hDD e8 hacc hl hR => ?_)
                · obtain ⟨T2, x1, z1, rfl, hT, e9, hT2, hx1, hz1⟩ := YPair.get y
                  obtain ⟨d1, hd1, hxd1⟩ := hbsv.getV hx1
                  obtain ⟨b, hb, rfl⟩ := map_at hd1
                  obtain ⟨d2, hd2, hzd⟩ := hus.getV hz1
                  obtain ⟨ar, har, rfl⟩ := map_at hd2
                  have e89 := e.then0 e9
                  obtain ⟨t4, rfl, ht4⟩ := (hxd1.e0 e89).blkE
                  obtain ⟨t5, rfl, ht5⟩ := (hzd.e0 e89).areaE
                  clear y
                  walk_at "rd"
                  refine ⟨rfl, ?_⟩
                  walk_at "rd"
                  refine s_newD (ds := [.int b.1, .int ar.2]) (by walk_at "sz") (.two (.int _) (.int _)) (fun bv H10 e10 hbv => ?_)
                  refine lc_put hDD (e89.then0 e10) ((e9.then0 e10).at0 hacc) hl (by omega) (fun H11 e11 => ?_)
                  rw [cut_take12 hb har, List.map_append]
                  exact ((hR.e0 (e9.then0 e10)).ext e11).append (.one (hbv.ext e11))
                · have hR2 : DtAll H8 acc ((cutBs bs as).map encB) := by
                    rw [List.take_length, ← hbl, List.take_length] at hR
                    exact hR
                  have hFd8 := e8.at0 hFd6
                  walk_at "rd"
                  refine s_tupOfD hacc hR2 (fun pv2 H9 e9 hpv2 => ?_)
                  have hFd9 := e9.at0 hFd8
                  walk_at "rd"
                  refine s_newD (ds := [.str n, .tuple ((cutBs bs as).map encB)]) (by walk_at "sz") (.two (.str _) hpv2) (fun rv H10 e10 hrv => ?_)
                  have hFd10 := e10.at0 hFd9
                  walk_at "rd"
                  refine s_append hFd10 (by rw [sizeLine_eq]; omega) (fun H11 e11 h11 => ?_)
                  walk_at "rd"
                  refine ⟨_, _, _, _, _, _, _, _, rfl, (e6.then0 ((e8.then0 e9).then0 e10)).trans e11, h11, ((hys.e0 ((e8.then0 e9).then0 e10)).ext e11).append (.one ?_)⟩
                  show Dt H11 rv (leftRow (.dev n as) (AA n)).enc
                  rw [hAr]
                  exact hrv.ext e11
          | br n ms2 ps2 =>
            obtain ⟨fo, eo, hAr⟩ := hrf
            have hAr : AA n = .br n fo eo := hAr
            have hxk1 : valV kvs (.inr (AA n).nm) = some xk := hxk1
            have hxk3 : Dt _ xk (AA n).enc := hxk3
            rw [hAr] at hxk1 hxk3
            have hxk4 : Dt _ xk (.tuple [.str n, encO fo, encO eo]) := hxk3
            obtain ⟨tx, xx, rfl, htx, hxx⟩ := hxk4.tupE
            have hd2 : deps ps2 + 1 ≤ deps qs := hbd.1
            have hc2 : 1 + cnts ps2 ≤ cnts qs := hbd.2
            cases hxx with
            | @cons vn0 _ _ _ k1 k2 => cases k2 with
              | @cons vf _ _ _ k2 k3 => cases k3 with
                | @cons vn _ _ _ k3 k4 =>
                  cases k4
                  rw [k1.str_eq] at htx
                  have hg2 := g2
                  obtain ⟨t, m, u2, us, rfl, ht, hm, hu2, hus⟩ := g2.brE
                  walk_at "rd"
                  refine s_dgetK (k := .inr n) hD6 rfl hxk1 ?_
                  walk_at "rd"
                  refine ifd0 (by decide) ?_
                  walk_at "rd"
                  refine ⟨_, n, ms2, ps2, _, rfl, hg2, by omega, by omega, fun H8 e8 => ?_⟩
                  walk_at "rd"
                  have htx8 := e8.at0 htx
                  have ht8 := e8.at0 ht
                  have hFd8 := e8.at0 hFd6
                  refine ifd (fun c1 => ?_) (fun c1 => ?_)
                  · walk_at "rd"
                    refine ⟨_, n, ms2, ps2, _, rfl, hg2.e0 e8, by omega, by omega, fun H9 e9 => ?_⟩
                    walk_at "rd"
                    have htx9 := e9.at0 htx8
                    have hFd9 := e9.at0 hFd8
                    refine ifd (fun c2 => ?_) (fun c2 => ?_)
                    · walk_at "rd"
                      refine s_newD (ds := [.str n, encO fo, encO eo]) (by walk_at "sz") (.cons (.str _) (.two ((k2.e0 e8).e0 e9) ((k3.e0 e8).e0 e9))) (fun rv H10 e10 hrv => ?_)
                      have hFd10 := e10.at0 hFd9
                      walk_at "rd"
                      refine s_append hFd10 (by rw [sizeLine_eq]; omega) (fun H11 e11 h11 => ?_)
                      walk_at "rd"
                      refine ⟨_, _, _, _, _, _, _, _, rfl, (e6.then0 ((e8.then0 e9).then0 e10)).trans e11, h11, ((hys.e0 ((e8.then0 e9).then0 e10)).ext e11).append (.one ?_)⟩
                      show Dt H11 rv (leftRow (.br n ms2 ps2) (AA n)).enc
                      rw [hAr]
                      show Dt H11 rv (.tuple [.str n, encO (if lw (szs kF ps2) > 0 then fo else none), encO (if lw (szs kN ps2) > 0 then eo else none)])
                      rw [if_pos c1, if_pos c2]
                      exact hrv.ext e11
                    · walk_at "rd"
                      refine s_newD (ds := [.str n, encO fo, .none]) (by walk_at "sz") (.cons (.str _) (.two ((k2.e0 e8).e0 e9) .non)) (fun rv H10 e10 hrv => ?_)
                      have hFd10 := e10.at0 hFd9
                      walk_at "rd"
                      refine s_append hFd10 (by rw [sizeLine_eq]; omega) (fun H11 e11 h11 => ?_)
                      walk_at "rd"
                      refine ⟨_, _, _, _, _, _, _, _, rfl, (e6.then0 ((e8.then0 e9).then0 e10)).trans e11, h11, ((hys.e0 ((e8.then0 e9).then0 e10)).ext e11).append (.one ?_)⟩
                      show Dt H11 rv (leftRow (.br n ms2 ps2) (AA n)).enc
                      rw [hAr]
                      show Dt H11 rv (.tuple [.str n, encO (if lw (szs kF ps2) > 0 then fo else none), encO (if lw (szs kN ps2) > 0 then eo else none)])
                      rw [if_pos c1, if_neg c2]
                      exact hrv.ext e11
                  · walk_at "rd"
                    refine ⟨_, n, ms2, ps2, _, rfl, hg2.e0 e8, by omega, by omega, fun H9 e9 => ?_⟩
                    walk_at "rd"
                    have htx9 := e9.at0 htx8
                    have hFd9 := e9.at0 hFd8
                    refine ifd (fun c2 => ?_) (fun c2 => ?_)
                    · walk_at "rd"
                      refine s_newD (ds := [.str n, .none, encO eo]) (by walk_at "sz") (.cons (.str _) (.two .non ((k3.e0 e8).e0 e9))) (fun rv H10 e10 hrv => ?_)
                      have hFd10 := e10.at0 hFd9
                      walk_at "rd"
                      refine s_append hFd10 (by rw [sizeLine_eq]; omega) (fun H11 e11 h11 => ?_)
                      walk_at "rd"
                      refine ⟨_, _, _, _, _, _, _, _, rfl, (e6.then0 ((e8.then0 e9).then0 e10)).trans e11, h11, ((hys.e0 ((e8.then0 e9).then0 e10)).ext e11).append (.one ?_)⟩
                      show Dt H11 rv (leftRow (.br n ms2 ps2) (AA n)).enc
                      rw [hAr]
                      show Dt H11 rv (.tuple [.str n, encO (if lw (szs kF ps2) > 0 then fo else none), encO (if lw (szs kN ps2) > 0 then eo else none)])
                      rw [if_neg c1, if_pos c2]
                      exact hrv.ext e11
                    · walk_at "rd"
                      refine s_newD (ds := [.str n, .none, .none]) (by walk_at "sz") (.cons (.str _) (.two .non .non)) (fun rv H10 e10 hrv => ?_)
                      have hFd10 := e10.at0 hFd9
                      walk_at "rd"
                      refine s_append hFd10 (by rw [sizeLine_eq]; omega) (fun H11 e11 h11 => ?_)
                      walk_at "rd"
                      refine ⟨_, _, _, _, _, _, _, _, rfl, (e6.then0 ((e8.then0 e9).then0 e10)).trans e11, h11, ((hys.e0 ((e8.then0 e9).then0 e10)).ext e11).append (.one ?_)⟩
                      show Dt H11 rv (leftRow (.br n ms2 ps2) (AA n)).enc
                      rw [hAr]
                      show Dt H11 rv (.tuple [.str n, encO (if lw (szs kF ps2) > 0 then fo else none), encO (if lw (szs kN ps2) > 0 then eo else none)])
                      rw [if_neg c1, if_neg c2]
                      exact hrv.ext e11
    · obtain ⟨o4, o5, o6, o7, o8, o9, o10, ys, rfl, e6, hFd6, hys⟩ := hP
      rw [hxll, List.take_length] at hys
      walk_at "rd"
      exact s_tupOfD hFd6 hys fun v' H7 e7 h7 => q _ _ (((e3.then0 e35).c1 e6 hFd).then0 e7) h7
end
end Bw

/-! the law: windows_right, no_more -/
namespace Bw
open PySem PySem.Spec PyProof.Rows L2
open C8 (Cal pe_c pe_gc)
open StX (pa_star tStar)
open RZ (pi_zipA iZipA)
-- the tactics of this text, by key
local macro_rules | `(tactic| walk_at "nm") => `(tactic| first | (intro hmem; cases hmem; done) | (simp only [List.mem_cons, List.mem_singleton, List.not_mem_nil, or_false, not_or, not_false_eq_true]; done) | (simp only [List.mem_cons, List.mem_singleton, List.not_mem_nil, or_false, not_or]; (repeat' apply And.intro) <;> first | assumption | exact Ne.symm (by assumption) | exact ne_some (by assumption) (by assumption) | exact Ne.symm (ne_some (by assumption) (by assumption))))
local macro_rules | `(tactic| walk_at "hx") => `(tactic| first | assumption | exact Dt.non | exact Dt.int _ | exact Dt.str _ | exact Dt.bl _ | (refine Dt.ext (by assumption) ?_; walk_at "hx") | (refine DtAll.ext (by assumption) ?_; walk_at "hx") | (refine Ext.at0 (by assumption) ?_; walk_at "hx") | (refine Ext.tupC (by assumption) ?_; walk_at "hx") | (refine Ext.atC (by assumption) ?_ (by walk_at "nm"); walk_at "hx"))
local macro_rules | `(tactic| walk_at "dm") => `(tactic| first | exact fun _ h => h | (refine dom_step (by assumption) ?_; walk_at "dm"))
local macro_rules | `(tactic| walk_at "fr") => `(tactic| first | assumption | (refine fr_of (by assumption) ?_; walk_at "dm"))
local macro_rules | `(tactic| walk_at "ex") => `(tactic| first | assumption | exact Ext.refl | exact Ext.mono0 (by assumption) | (refine Ext.then0 ?_ (by assumption); walk_at "ex") | (refine Ext.transC ?_ (by assumption); walk_at "ex") | (refine Ext.c1 ?_ (by assumption) (by walk_at "fr"); walk_at "ex") | (refine Ext.cm ?_ (by assumption) (by simp only [List.mem_cons, true_or, or_true]; done); walk_at "ex"))
local macro_rules | `(tactic| walk_at "r1") => `(tactic| first
  | (with_reducible refine s_var rfl ?_) | (with_reducible refine s_c ?_) | (with_reducible refine s_op ?_) | (with_reducible refine s_un ?_) | (with_reducible refine s_I0 ?_) | (with_reducible refine s_U ?_)
  | (with_reducible refine s_eqI ?_) | (with_reducible refine s_eqS ?_) | (with_reducible refine s_eqB ?_) | (with_reducible refine s_neI ?_) | (with_reducible refine s_neS ?_) | (with_reducible refine s_neB ?_)
  | (with_reducible refine s_isN1 ?_) | (with_reducible refine s_isN0 ?_) | (with_reducible refine s_notN1 ?_) | (with_reducible refine s_notN0 ?_) | (with_reducible refine s_isBl ?_) | (with_reducible refine s_notBl ?_)
  | (with_reducible refine s_test ?_) | (with_reducible refine s_B ?_) | (with_reducible refine s_bl ?_) | (with_reducible refine s_and ?_) | (with_reducible refine s_or ?_) | (with_reducible refine s_not ?_)
  | (with_reducible refine s_andV ?_) | (with_reducible refine s_orV ?_) | (with_reducible refine s_notV ?_) | (with_reducible refine s_ifE ?_) | (with_reducible refine s_chain ?_)
  | (with_reducible refine s_next ?_) | (with_reducible refine s_seq ?_) | (with_reducible refine s_drop ?_) | (with_reducible refine s_ret ?_) | (with_reducible refine s_retN ?_) | (with_reducible refine s_ifS ?_) | (with_reducible refine s_asg ?_)
  | ((with_reducible refine g_name ?_); refine s_name (by first | rfl) ?_) | (with_reducible refine s_parS ?_) | (with_reducible refine s_par ?_) | ((with_reducible refine g_nx ?_); refine s_nx rfl ?_) | (with_reducible refine s_gsub ?_) | (with_reducible refine s_gnil ?_) | (with_reducible refine s_gcons ?_)
  | (with_reducible refine s_call ?_) | (with_reducible refine s_cb ?_) | (with_reducible refine s_nil ?_) | (with_reducible refine s_cons ?_) | (with_reducible refine s_tupT ?_) | (with_reducible refine s_lstT ?_)
  | (with_reducible refine s_sl ?_) | (with_reducible refine s_nopart ?_) | (with_reducible refine s_part ?_) | (with_reducible refine s_int ?_) | (with_reducible refine s_bm ?_) | (with_reducible refine s_dget ?_) | (with_reducible refine s_dputS ?_)
  | (with_reducible refine s_forS ?_) | (with_reducible refine s_lc ?_) | (with_reducible refine s_iTup ?_) | (with_reducible refine s_iList ?_) | (with_reducible refine s_iRng1 ?_) | (with_reducible refine s_iRng2 ?_) | (with_reducible refine s_tYes ?_) | (with_reducible refine s_intI ?_) | (with_reducible refine s_intB ?_) | (with_reducible refine s_min2 ?_) | (with_reducible refine s_max2 ?_) | (with_reducible refine s_abs ?_) | (with_reducible refine s_revL ?_) | (with_reducible refine s_iEnumT ?_) | (with_reducible refine s_iEnum ?_) | (with_reducible refine s_iZipA ?_) | (with_reducible refine s_iZipM ?_) | (with_reducible refine s_iZip ?_) | (with_reducible refine s_iStr ?_) | (with_reducible refine s_star ?_) | (with_reducible refine s_lc2 ?_) | (with_reducible refine s_dc ?_) | (with_reducible refine s_bm ?_)
  | (with_reducible refine isi_int _ ?_) | (with_reducible refine isi_intB _ ?_) | (with_reducible refine isi_str _ ?_) | (with_reducible refine isi_non ?_)
  | (with_reducible refine iteT ?_) | (with_reducible refine iteF ?_) | (with_reducible refine iteNT ?_) | (with_reducible refine iteNF ?_))
local macro_rules | `(tactic| walk_at "r2") => `(tactic| first
  | ((with_reducible refine g_ixT ?_); first | (refine s_ixT (by walk_at "hx") rfl ?_) | (refine s_ixDs (by walk_at "hx") rfl ?_) | (refine s_ixDi (by walk_at "hx") rfl ?_) | (refine s_ixD (by walk_at "hx") rfl (fun _ _ => ?_)) | (refine s_ixD0s (by walk_at "hx") ?_))
  | ((with_reducible refine g_form ?_); first | (refine isDev_non ?_) | (refine isBr_non ?_) | (refine isDev_dev (by walk_at "hx") ?_) | (refine isDev_br (by walk_at "hx") ?_) | (refine isBr_dev (by walk_at "hx") ?_) | (refine isBr_br (by walk_at "hx") ?_))
  | ((with_reducible refine g_isi ?_); first | (with_reducible refine isi_dt (by walk_at "hx") ?_) | (with_reducible refine isi_tup (by walk_at "hx") ?_))
  | ((with_reducible refine g_len ?_); first | (with_reducible refine s_lenL (by walk_at "hx") ?_) | (with_reducible refine s_lenT (by walk_at "hx") ?_) | (with_reducible refine s_lenD (by walk_at "hx") ?_))
  | ((with_reducible refine g_ty ?_); first | (refine s_tyK (by assumption) ?_) | (with_reducible refine s_tyL (by walk_at "hx") ?_))
  | ((with_reducible refine g_tix ?_); first | (refine s_idx0 (by assumption) ?_) | (refine s_idx1 (by assumption) ?_))
  | ((with_reducible refine g_enT ?_); with_reducible refine s_enT (by walk_at "hx") ?_) | ((with_reducible refine g_enL ?_); with_reducible refine s_enL (by walk_at "hx") ?_)
  | ((with_reducible refine g_za ?_); first | (with_reducible refine s_zaT2 (by walk_at "hx") (by walk_at "hx") ?_) | (with_reducible refine s_zaL (by walk_at "hx") (by walk_at "hx") ?_))
  | ((with_reducible refine g_zm ?_); first | (with_reducible refine s_zmT (by walk_at "hx") (by walk_at "hx") ?_) | (with_reducible refine s_zmL (by walk_at "hx") (by walk_at "hx") ?_))
  | ((with_reducible refine g_zl ?_); with_reducible refine s_zl (by walk_at "hx") (by walk_at "hx") ?_)
  | ((with_reducible refine g_itT ?_); with_reducible refine s_itT (by walk_at "hx") ?_) | ((with_reducible refine g_itL ?_); with_reducible refine s_itL (by walk_at "hx") ?_)
  | ((with_reducible refine g_gtup ?_); refine s_gtup (by walk_at "hx") rfl ?_))
local macro_rules | `(tactic| walk_at "rd") => `(tactic| repeat (first | walk_at "r1" | walk_at "r2"))
local macro_rules | `(tactic| walk_at "sz") => `(tactic| (simp only [List.length_cons, List.length_nil, List.length_append, List.length_map, sizeLine_eq] <;> omega))
/-- bridges of a tree beside those of a lesser one -/
inductive BR : List Part → List Part → Prop where
  | nil : BR [] []
  | cons {x y xs ys} : Part.nm x = Part.nm y → (∀ k, Part.least k y ≤ Part.least k x) → BR xs ys → BR (x :: xs) (y :: ys)
theorem BR.append {a b c d : List Part} (h : BR a b) (g : BR c d) : BR (a ++ c) (b ++ d) := by
  induction h with
  | nil => exact g
  | cons e l _ ih => exact .cons e l ih
theorem BR.len {a b : List Part} (h : BR a b) : a.length = b.length := by
  induction h with
  | nil => rfl
  | cons e l _ ih => rw [List.length_cons, List.length_cons, ih]
theorem BR.get {a b : List Part} (h : BR a b) : ∀ {i : Nat} {x y : Part}, a[i]? = some x → b[i]? = some y → x.nm = y.nm ∧ ∀ k, y.least k ≤ x.least k := by
  induction h with
  | nil => intro i x y hx; simp at hx
  | cons e l _ ih =>
    intro i x y hx hy
    cases i with
    | zero =>
      have e1 := Option.some.inj hx
      have e2 := Option.some.inj hy
      subst e1 e2
      exact ⟨e, l⟩
    | succ i => exact ih (i := i) (by simpa using hx) (by simpa using hy)
mutual
theorem ls_br : ∀ {p q : Part}, POk p → Ls p q → BR ((pls p).filter Part.isBr) ((pls q).filter Part.isBr)
  | .emp, .emp, _, _ => .nil
  | .emp, .dev _ _, _, h => h.elim
  | .emp, .br _ _ _, _, h => h.elim
  | .dev _ _, .emp, _, _ => .nil
  | .dev _ _, .dev _ _, _, _ => .nil
  | .dev _ _, .br _ _ _, _, h => h.elim
  | .br _ _ _, .emp, _, h => h.elim
  | .br _ _ _, .dev _ _, _, h => h.elim
  | .br n ms ps, .br m ns qs, ho, h => by
    show BR (.br n ms ps :: (plss ps).filter Part.isBr) (.br m ns qs :: (plss qs).filter Part.isBr)
    exact .cons h.1 (fun k => least_le ho h.2.2) (lsAll_br ho h.2.2)
theorem lsAll_br : ∀ {ps qs : List Part}, PsOk ps → LsAll ps qs → BR ((plss ps).filter Part.isBr) ((plss qs).filter Part.isBr)
  | [], [], _, _ => .nil
  | [], _ :: _, _, h => h.elim
  | _ :: _, [], _, h => h.elim
  | p :: ps, q :: qs, ho, h => by
    rw [plss, plss, List.filter_append, List.filter_append]
    exact (ls_br ho.1 h.1).append (lsAll_br ho.2 h.2)
end
/-- an assignment by names of what is left -/
theorem left_by {qs : List Part} (hn : (nmss qs).Nodup) (A : Str → Row) : ∃ A' : Str → Row, ∀ c ∈ plss qs, A' c.nm = leftRow c (A c.nm) := by
  rw [← plss_nm] at hn
  generalize plss qs = l at hn
  induction l with
  | nil => exact ⟨A, fun _ h => nomatch h⟩
  | cons p r ih =>
    rw [List.map_cons] at hn
    obtain ⟨h1, h2⟩ := List.nodup_cons.mp hn
    obtain ⟨A', h⟩ := ih h2
    refine ⟨fun s => if s = p.nm then leftRow p (A p.nm) else A' s, fun c hc => ?_⟩
    rcases List.mem_cons.mp hc with rfl | hc
    · show (if c.nm = c.nm then _ else _) = _
      rw [if_pos rfl]
    · have : c.nm ≠ p.nm := fun z => h1 (by rw [← z]; exact List.mem_map.mpr ⟨c, hc, rfl⟩)
      show (if c.nm = p.nm then _ else _) = _
      rw [if_neg this]
      exact h c hc
section
variable {P : Program} {w : World} {K : PySem.W.Frag} {mg : Str → Option Value} {base : Heap} {kd : Addr} {k : Nat}
abbrev sx_windows_right : Stmt := top 68
abbrev N_windows_right : List Str := ["_law_tree_here", "_law_rows", "_law_known", "_law_row", "_law_name", "_law_far", "_law_near", "_law_window", "_law_width"]
theorem sc_windows_right : FnScope N_windows_right ["_law_tree_here", "_law_rows"] (defScope sx_windows_right) := ⟨rfl, rfl, rfl, by decide +kernel, rfl, by decide +kernel, by decide +kernel⟩
theorem ok_windows_right (bi : Bi mg kd) (T : At K mg "_law_windows_right" sx_windows_right ["_law_tree_here", "_law_rows"]) (c_least_windows : Cal P w K mg base k "least_windows" spLeastWindows []) : Cal P w K mg base (k + 1) "_law_windows_right" spWindowsRight [] := by
  refine T.ok sc_windows_right (fun vs H Q E h => ?_) (fun f cdv A outer s H vs Q E hr h => ?_)
  · obtain ⟨v, u, ms, ps, rs, A, rfl, _⟩ := h
    rfl
  have nd := sc_windows_right.nd
  obtain ⟨v, u, ms, ps, rs, AA, rfl, hv, hcn, hdp, hu, hok, has, q⟩ := h
  obtain ⟨au, xr, rfl, hau, hxr⟩ := hu.tupE
  have hxl : xr.length = rs.length := by rw [hxr.len, List.length_map]
  have hrl := hok.len
  have hall := asgPs_plss has
  refine ⟨_, (pss_cons (ps_set (i := 2) nd rfl (Or.inl rfl) pe_dnewK)
      (pss_cons (ps_for PassesOwn.never rfl (pi_tup (pv 1)) (pg_name (i := 3) nd rfl (Or.inl rfl)) (pss_one (ps_dput (hu_of hr) (pv 2) (pe_ix ix_tup (pv 3) pe_int (fun _ _ => rfl)) (pv 3) rfl)))
      (pss_cons (ps_for PassesOwn.never rfl (pi_tup (pe_c c_least_windows hr (by omega) (by rfl) (pa_cons (pv 0) pa_nil))) (pg_tup rfl (pgs_cons (pg_name (i := 4) nd rfl (Or.inl rfl)) (pgs_cons (pg_name (i := 5) nd rfl (Or.inl rfl)) (pgs_cons (pg_name (i := 6) nd rfl (Or.inl rfl)) pgs_nil)))) (pss_one (ps_for PassesOwn.never rfl (pi_list (pe_lst (pa_cons (pe_tup (pa_cons (pe_ix ix_tup (pe_dget (hu_of hr) (pv 2) (pv 4) (fun _ _ => rfl)) pe_int (fun _ _ => rfl)) (pa_cons (pv 5) pa_nil))) (pa_cons (pe_tup (pa_cons (pe_ix ix_tup (pe_dget (hu_of hr) (pv 2) (pv 4) (fun _ _ => rfl)) pe_int (fun _ _ => rfl)) (pa_cons (pv 6) pa_nil))) pa_nil)))) (pg_tup rfl (pgs_cons (pg_name (i := 7) nd rfl (Or.inl rfl)) (pgs_cons (pg_name (i := 8) nd rfl (Or.inl rfl)) pgs_nil))) (pss_one (ps_if (PW.pt (pw_or (pt_cmpR op_ne (pe_cmpR op_isN1 (pv 7) pe_non (nomark _)) (pe_cmpR op_eq (pv 8) pe_int (nomark _)) (nomark _)) (pw_or1 (PW.pt (pw_and (pt_cmpR op_notN1 (pv 7) pe_non (nomark _)) (pw_and1 (pt_cmpR op_lt (pe_ix ix_tup (pv 7) pe_int (fun _ _ => rfl)) (pv 8) (nomark _)))))))) (pss_one (ps_ret pe_bl)) pss_nil)))))
      (pss_one (ps_ret pe_bl))))), ?_⟩
  walk_at "rd"
  refine s_dnew12 (fun D H2 hD e2 h2 => ?_)
  walk_at "rd"
  refine f_W walk_tup (fun i σ H' => ∃ o3 o4 o5 o6 o7 o8 kvs, σ = [some v, some (.ref au), some (.ref D), o3, o4, o5, o6, o7, o8] ∧ Ext [] H H' ∧ H' D = some (.dK kvs) ∧ kvs.length ≤ i ∧ ∀ j r, j < i → rs[j]? = some r → KnownAt H' kvs r)
    ⟨_, _, _, _, _, _, [], rfl, e2, h2, Nat.zero_le _, fun j r h => absurd h (Nat.not_lt_zero j)⟩ (fun i σ H' _ h => by
      obtain ⟨_, _, _, _, _, _, _, _, e, _⟩ := h
      exact SqT.of (e.tup _ _ hau)) (fun i x σ H3 H4 hi hP y => ?_) (fun σ H3 hP => ?_)
  · obtain ⟨o3, o4, o5, o6, o7, o8, kvs, rfl, e3, hD3, hkl, hkn⟩ := hP
    obtain ⟨rfl, hx⟩ := y
    obtain ⟨d, hd, hxd⟩ := hxr.getV hx
    obtain ⟨rw_, hrw, rfl⟩ := map_at hd
    have hxd3 := hxd.e0 e3
    obtain ⟨rest, hre⟩ := row_head12 rw_
    have hxd4 := hxd3
    rw [hre] at hxd4
    walk_at "rd"
    refine s_dputK (k := .inr rw_.nm) hD3 rfl (by rw [sizeLine_eq]; omega) (fun H5 e5 h5 => ?_)
    exact ⟨_, _, _, _, _, _, _, rfl, e3.c1 e5 hD, h5, Nat.le_trans (putK_le12 _ _ _) (by omega), known_put hok.ag hrw hxd3 e5 hkn⟩
  · obtain ⟨o3, o4, o5, o6, o7, o8, kvs, rfl, e3, hD3, hkl, hkn0⟩ := hP
    have hkn : ∀ r ∈ rs, KnownAt H3 kvs r := fun r hr => by
      obtain ⟨j, hj⟩ := List.mem_iff_getElem?.mp hr
      have := at_lt hj
      exact hkn0 j r (by omega) hj
    clear hkn0
    walk_at "rd"
    refine ⟨_, ms, ps, rfl, hv.e0 e3, by omega, hdp, fun v4 H4 e4 hv4 => ?_⟩
    obtain ⟨at4, x4, rfl, hat4, hx4⟩ := hv4.tupE
    walk_at "rd"
    refine f_W walk_tup (fun i σ H' => ∃ o3 o4 o5 o6 o7 o8, σ = [some v, some (.ref au), some (.ref D), o3, o4, o5, o6, o7, o8] ∧ Ext [] H4 H') ⟨_, _, _, _, _, _, rfl, .refl⟩ (fun i σ H' _ h => by
      obtain ⟨_, _, _, _, _, _, _, e⟩ := h
      exact SqT.of (e.tup _ _ hat4)) (fun i x σ H5 H6 hi hP y => ?_) (fun σ H5 hP => ?_)
    · obtain ⟨o3, o4, o5, o6, o7, o8, rfl, e5⟩ := hP
      obtain ⟨rfl, hx⟩ := y
      obtain ⟨d, hd, hxd⟩ := hx4.getV hx
      obtain ⟨p, hp, rfl⟩ := map_at hd
      have hpf := List.mem_filter.mp (mem_at hp)
      have hpm := hpf.1
      have e35 := e4.then0 e5
      cases p with
      | emp => cases hpf.2
      | dev n as => cases hpf.2
      | br n ms2 ps2 =>
        obtain ⟨fo, eo, hAr, w1, w2, _⟩ := hall _ hpm
        obtain ⟨xk, hxk1, hxk2⟩ := hkn _ (hok.mem _ hpm)
        have hxk1 : valV kvs (.inr (AA n).nm) = some xk := hxk1
        have hxk2 : Dt _ xk (AA n).enc := hxk2
        rw [hAr] at hxk1 hxk2
        have hxk4 : Dt _ xk (.tuple [.str n, encO fo, encO eo]) := hxk2.e0 e35
        obtain ⟨tx, xx, rfl, htx, hxx⟩ := hxk4.tupE
        have hD5 := e35.at0 hD3
        obtain ⟨tw, ws, rfl, htw, hws⟩ := (hxd.e0 e5).tupE
        cases hws with
        | cons q1 q2 => cases q2 with
          | cons q2 q3 => cases q3 with
            | cons q3 q4 =>
              cases q4
              rw [q1.str_eq, q2.int_eq, q3.int_eq] at htw
              have htw : _ = some (HO.tup [.str n, .int (lw (szs kF ps2)), .int (lw (szs kN ps2))]) := htw
              cases hxx with
              | @cons vn0 _ _ _ k1 k2 => cases k2 with
                | @cons vf _ _ _ k2 k3 => cases k3 with
                  | @cons vn _ _ _ k3 k4 =>
                    cases k4
                    rw [k1.str_eq] at htx
                    walk_at "rd"
                    refine s_dgetK (k := .inr n) hD5 rfl hxk1 ?_
                    walk_at "rd"
                    refine s_newX (by walk_at "sz") (fun ta H7 hta e7 h7 => ?_)
                    have hD7 := e7.at0 hD5
                    have htx7 := e7.at0 htx
                    walk_at "rd"
                    refine s_dgetK (k := .inr n) hD7 rfl hxk1 ?_
                    walk_at "rd"
                    refine s_newX (by walk_at "sz") (fun tb H8 htb e8 h8 => ?_)
                    walk_at "rd"
                    refine s_newX (by walk_at "sz") (fun L H9 hL e9 h9 => ?_)
                    have e79 := e8.then0 e9
                    have h79 := e79.at0 h7
                    have h89 := e9.at0 h8
                    have kf9 := (k2.e0 e7).e0 e79
                    have kn9 := (k3.e0 e7).e0 e79
                    have tst : ∀ (vv : V) (o : Option Blk) (z : Int) (H' : Hp), Dt H' vv (encO o) → WOk z o → (vv = .non ∧ z = 0) ∨ ∃ t b, o = some b ∧ vv = .ref t ∧ H' t = some (.tup [.int b.1, .int b.2]) ∧ 0 < z ∧ z ≤ b.2 := fun vv o z H' hd hw => by
                      cases o with
                      | none => exact .inl ⟨hd.non_eq, hw⟩
                      | some b =>
                        obtain ⟨t, rfl, ht⟩ := Dt.blkE hd
                        exact .inr ⟨t, b, rfl, rfl, ht, hw.1, hw.2.2.1⟩
                    walk_at "rd"
                    refine f_W walk_list (fun j σ H' => ∃ o7 o8, σ = [some v, some (.ref au), some (.ref D), o3, some (.str n), some (.int (lw (szs kF ps2))), some (.int (lw (szs kN ps2))), o7, o8] ∧ Ext [] H9 H') ⟨_, _, rfl, .refl⟩ (fun j σ H' _ h => by
                      obtain ⟨_, _, _, e⟩ := h
                      exact SqL.of (e.at0 h9)) (fun j x σ H10 H11 hj hP y => ?_) (fun σ H10 hP => ?_)
                    · obtain ⟨o7, o8, rfl, e10⟩ := hP
                      obtain ⟨rfl, hx⟩ := y
                      have hj2 : j = 0 ∨ j = 1 := by have : j < 2 := hj; omega
                      obtain ⟨tc, vv, o, z, rfl, htc, hvo, hwo⟩ : ∃ tc vv o z, x = .ref tc ∧ H9 tc = some (.tup [vv, .int z]) ∧ Dt H9 vv (encO o) ∧ WOk z o := by
                        rcases hj2 with rfl | rfl
                        · exact ⟨ta, vf, fo, lw (szs kF ps2), (Option.some.inj hx).symm, h79, kf9, w1⟩
                        · exact ⟨tb, vn, eo, lw (szs kN ps2), (Option.some.inj hx).symm, h89, kn9, w2⟩
                      have htc10 := e10.at0 htc
                      rcases tst vv o z _ (hvo.e0 e10) hwo with ⟨rfl, rfl⟩ | ⟨t, b, rfl, rfl, ht, hz1, hz2⟩
                      · walk_at "rd"
                        refine ifn0 (by decide) ?_
                        walk_at "rd"
                        exact ⟨_, _, rfl, e10⟩
                      · walk_at "rd"
                        refine ifn0 (by rw [decide_eq_false (show ¬ z = 0 by omega)]) ?_
                        walk_at "rd"
                        refine ifd0 (by omega) ?_
                        walk_at "rd"
                        exact ⟨_, _, rfl, e10⟩
                    · obtain ⟨o7, o8, rfl, e10⟩ := hP
                      walk_at "rd"
                      exact ⟨_, _, _, _, _, _, rfl, ((e5.then0 e7).then0 e79).then0 e10⟩
    · obtain ⟨o3, o4, o5, o6, o7, o8, rfl, e5⟩ := hP
      walk_at "rd"
      exact q _ ((e3.then0 e4).then0 e5)
end
end Bw

/-! the law: no_more -/
namespace Bw
open PySem PySem.Spec PyProof.Rows L2
open C8 (Cal pe_c pe_gc)
open StX (pa_star tStar)
open RZ (pi_zipA iZipA)
-- the tactics of this text, by key
local macro_rules | `(tactic| walk_at "nm") => `(tactic| first | (intro hmem; cases hmem; done) | (simp only [List.mem_cons, List.mem_singleton, List.not_mem_nil, or_false, not_or, not_false_eq_true]; done) | (simp only [List.mem_cons, List.mem_singleton, List.not_mem_nil, or_false, not_or]; (repeat' apply And.intro) <;> first | assumption | exact Ne.symm (by assumption) | exact ne_some (by assumption) (by assumption) | exact Ne.symm (ne_some (by assumption) (by assumption))))
local macro_rules | `(tactic| walk_at "hx") => `(tactic| first | assumption | exact Dt.non | exact Dt.int _ | exact Dt.str _ | exact Dt.bl _ | (refine Dt.ext (by assumption) ?_; walk_at "hx") | (refine DtAll.ext (by assumption) ?_; walk_at "hx") | (refine Ext.at0 (by assumption) ?_; walk_at "hx") | (refine Ext.tupC (by assumption) ?_; walk_at "hx") | (refine Ext.atC (by assumption) ?_ (by walk_at "nm"); walk_at "hx"))
local macro_rules | `(tactic| walk_at "dm") => `(tactic| first | exact fun _ h => h | (refine dom_step (by assumption) ?_; walk_at "dm"))
local macro_rules | `(tactic| walk_at "fr") => `(tactic| first | assumption | (refine fr_of (by assumption) ?_; walk_at "dm"))
local macro_rules | `(tactic| walk_at "ex") => `(tactic| first | assumption | exact Ext.refl | exact Ext.mono0 (by assumption) | (refine Ext.then0 ?_ (by assumption); walk_at "ex") | (refine Ext.transC ?_ (by assumption); walk_at "ex") | (refine Ext.c1 ?_ (by assumption) (by walk_at "fr"); walk_at "ex") | (refine Ext.cm ?_ (by assumption) (by simp only [List.mem_cons, true_or, or_true]; done); walk_at "ex"))
local macro_rules | `(tactic| walk_at "r1") => `(tactic| first
  | (with_reducible refine s_var rfl ?_) | (with_reducible refine s_c ?_) | (with_reducible refine s_op ?_) | (with_reducible refine s_un ?_) | (with_reducible refine s_I0 ?_) | (with_reducible refine s_U ?_)
  | (with_reducible refine s_eqI ?_) | (with_reducible refine s_eqS ?_) | (with_reducible refine s_eqB ?_) | (with_reducible refine s_neI ?_) | (with_reducible refine s_neS ?_) | (with_reducible refine s_neB ?_)
  | (with_reducible refine s_isN1 ?_) | (with_reducible refine s_isN0 ?_) | (with_reducible refine s_notN1 ?_) | (with_reducible refine s_notN0 ?_) | (with_reducible refine s_isBl ?_) | (with_reducible refine s_notBl ?_)
  | (with_reducible refine s_test ?_) | (with_reducible refine s_B ?_) | (with_reducible refine s_bl ?_) | (with_reducible refine s_and ?_) | (with_reducible refine s_or ?_) | (with_reducible refine s_not ?_)
  | (with_reducible refine s_andV ?_) | (with_reducible refine s_orV ?_) | (with_reducible refine s_notV ?_) | (with_reducible refine s_ifE ?_) | (with_reducible refine s_chain ?_)
  | (with_reducible refine s_next ?_) | (with_reducible refine s_seq ?_) | (with_reducible refine s_drop ?_) | (with_reducible refine s_ret ?_) | (with_reducible refine s_retN ?_) | (with_reducible refine s_ifS ?_) | (with_reducible refine s_asg ?_)
  | ((with_reducible refine g_name ?_); refine s_name (by first | rfl) ?_) | (with_reducible refine s_parS ?_) | (with_reducible refine s_par ?_) | ((with_reducible refine g_nx ?_); refine s_nx rfl ?_) | (with_reducible refine s_gsub ?_) | (with_reducible refine s_gnil ?_) | (with_reducible refine s_gcons ?_)
  | (with_reducible refine s_call ?_) | (with_reducible refine s_cb ?_) | (with_reducible refine s_nil ?_) | (with_reducible refine s_cons ?_) | (with_reducible refine s_tupT ?_) | (with_reducible refine s_lstT ?_)
  | (with_reducible refine s_sl ?_) | (with_reducible refine s_nopart ?_) | (with_reducible refine s_part ?_) | (with_reducible refine s_int ?_) | (with_reducible refine s_bm ?_) | (with_reducible refine s_dget ?_) | (with_reducible refine s_dputS ?_)
  | (with_reducible refine s_forS ?_) | (with_reducible refine s_lc ?_) | (with_reducible refine s_iTup ?_) | (with_reducible refine s_iList ?_) | (with_reducible refine s_iRng1 ?_) | (with_reducible refine s_iRng2 ?_) | (with_reducible refine s_tYes ?_) | (with_reducible refine s_intI ?_) | (with_reducible refine s_intB ?_) | (with_reducible refine s_min2 ?_) | (with_reducible refine s_max2 ?_) | (with_reducible refine s_abs ?_) | (with_reducible refine s_revL ?_) | (with_reducible refine s_iEnumT ?_) | (with_reducible refine s_iEnum ?_) | (with_reducible refine s_iZipA ?_) | (with_reducible refine s_iZipM ?_) | (with_reducible refine s_iZip ?_) | (with_reducible refine s_iStr ?_) | (with_reducible refine s_star ?_) | (with_reducible refine s_lc2 ?_) | (with_reducible refine s_dc ?_) | (with_reducible refine s_bm ?_)
  | (with_reducible refine isi_int _ ?_) | (with_reducible refine isi_intB _ ?_) | (with_reducible refine isi_str _ ?_) | (with_reducible refine isi_non ?_)
  | (with_reducible refine iteT ?_) | (with_reducible refine iteF ?_) | (with_reducible refine iteNT ?_) | (with_reducible refine iteNF ?_))
local macro_rules | `(tactic| walk_at "r2") => `(tactic| first
  | ((with_reducible refine g_ixT ?_); first | (refine s_ixT (by walk_at "hx") rfl ?_) | (refine s_ixDs (by walk_at "hx") rfl ?_) | (refine s_ixDi (by walk_at "hx") rfl ?_) | (refine s_ixD (by walk_at "hx") rfl (fun _ _ => ?_)) | (refine s_ixD0s (by walk_at "hx") ?_))
  | ((with_reducible refine g_form ?_); first | (refine isDev_non ?_) | (refine isBr_non ?_) | (refine isDev_dev (by walk_at "hx") ?_) | (refine isDev_br (by walk_at "hx") ?_) | (refine isBr_dev (by walk_at "hx") ?_) | (refine isBr_br (by walk_at "hx") ?_))
  | ((with_reducible refine g_isi ?_); first | (with_reducible refine isi_dt (by walk_at "hx") ?_) | (with_reducible refine isi_tup (by walk_at "hx") ?_))
  | ((with_reducible refine g_len ?_); first | (with_reducible refine s_lenL (by walk_at "hx") ?_) | (with_reducible refine s_lenT (by walk_at "hx") ?_) | (with_reducible refine s_lenD (by walk_at "hx") ?_))
  | ((with_reducible refine g_ty ?_); first | (refine s_tyK (by assumption) ?_) | (with_reducible refine s_tyL (by walk_at "hx") ?_))
  | ((with_reducible refine g_tix ?_); first | (refine s_idx0 (by assumption) ?_) | (refine s_idx1 (by assumption) ?_))
  | ((with_reducible refine g_enT ?_); with_reducible refine s_enT (by walk_at "hx") ?_) | ((with_reducible refine g_enL ?_); with_reducible refine s_enL (by walk_at "hx") ?_)
  | ((with_reducible refine g_za ?_); first | (with_reducible refine s_zaT2 (by walk_at "hx") (by walk_at "hx") ?_) | (with_reducible refine s_zaL (by walk_at "hx") (by walk_at "hx") ?_))
  | ((with_reducible refine g_zm ?_); first | (with_reducible refine s_zmT (by walk_at "hx") (by walk_at "hx") ?_) | (with_reducible refine s_zmL (by walk_at "hx") (by walk_at "hx") ?_))
  | ((with_reducible refine g_zl ?_); with_reducible refine s_zl (by walk_at "hx") (by walk_at "hx") ?_)
  | ((with_reducible refine g_itT ?_); with_reducible refine s_itT (by walk_at "hx") ?_) | ((with_reducible refine g_itL ?_); with_reducible refine s_itL (by walk_at "hx") ?_)
  | ((with_reducible refine g_gtup ?_); refine s_gtup (by walk_at "hx") rfl ?_))
local macro_rules | `(tactic| walk_at "rd") => `(tactic| repeat (first | walk_at "r1" | walk_at "r2"))
local macro_rules | `(tactic| walk_at "sz") => `(tactic| (simp only [List.length_cons, List.length_nil, List.length_append, List.length_map, sizeLine_eq] <;> omega))
theorem s_sumE {K : PySem.W.Frag} {H : Hp} {Q : VK} {a : Addr} {xs : List V} {ns : List Int} (h : H a = some (.lst xs)) (hx : DtAll H xs (ns.map PyData.int)) (q : Q (.int ns.sum) H) : rSum K [.ref a] H Q := by
  rw [hx.ints_eq] at h
  exact s_sumL h q
section
variable {P : Program} {w : World} {K : PySem.W.Frag} {mg : Str → Option Value} {base : Heap} {kd : Addr} {k : Nat}
abbrev sx_no_more : Stmt := top 67
abbrev N_no_more : List Str := ["_law_tree_here", "_law_rooms_here", "_law_less", "_law_rows", "_law_one", "_law_other", "_law_kind"]
theorem sc_no_more : FnScope N_no_more ["_law_tree_here", "_law_rooms_here", "_law_less", "_law_rows"] (defScope sx_no_more) := ⟨rfl, rfl, rfl, by decide +kernel, rfl, by decide +kernel, by decide +kernel⟩
theorem ok_no_more (bi : Bi mg kd) (T : At K mg "_law_no_more" sx_no_more ["_law_tree_here", "_law_rooms_here", "_law_less", "_law_rows"]) (c_refusal : Cal P w K mg base k "refusal" spRefusal []) (c_assignment_holds : Cal P w K mg base k "assignment_holds" spHolds []) (c_left : Cal P w K mg base k "_law_left" spLeft [])
    (c_least_windows : Cal P w K mg base k "least_windows" spLeastWindows []) (c_wanted : Cal P w K mg base k "wanted" spWanted []) : Cal P w K mg base (k + 1) "_law_no_more" spNoMore [] := by
  refine T.ok sc_no_more (fun vs H Q E h => ?_) (fun f cdv A outer s H vs Q E hr h => ?_)
  · obtain ⟨v, u, x, y, ms, ps, qs, rf, re, rs, A, rfl, _⟩ := h
    rfl
  have nd := sc_no_more.nd
  obtain ⟨v, u, x, y, ms, ps, qs, rf, re, rs, AA, rfl, hv, hu, hx, hy, htr, hcn, hdp, hpo, hnd, hls, hok, hasg, hrf, hre, hfl, hel, ff, fe, q⟩ := h
  have hpo0 := htr.ok
  have hcn0 := htr.cn
  have hdp0 := htr.dp
  have hsF := lsAll_shr kF ps qs hpo0 hls
  have hsN := lsAll_shr kN ps qs hpo0 hls
  have hfits : Fits rf (szs kF qs) ∧ Fits re (szs kN qs) := ⟨hsF.fits (szs_nn hpo0) hrf.nn ff, hsN.fits (szs_nn hpo0) hre.nn fe⟩
  obtain ⟨A', hA'⟩ := left_by hnd AA
  have hasg' := left_asg hpo0 hpo hls hasg hA'
  have hbr : BR (brs ps) (brs qs) := lsAll_br hpo0 hls
  have hsum : ∀ kk, (szs kk qs).sum ≤ (szs kk ps).sum := fun kk => (lsAll_shr kk ps qs hpo0 hls).sum (szs_nn hpo0)
  refine ⟨_, (pss_cons (ps_if (PW.pt (pw_or (pt_cmpR op_notN1 (pe_c c_refusal hr (by omega) (by rfl) (pa_cons (pv 2) (pa_cons (pv 1) pa_nil))) pe_non (nomark _)) (pw_or1 (pt_cmpR op_notBl (pe_c c_assignment_holds hr (by omega) (by rfl) (pa_cons (pv 2) (pa_cons (pv 1) (pa_cons (pe_c c_left hr (by omega) (by rfl) (pa_cons (pv 2) (pa_cons (pv 3) pa_nil))) pa_nil)))) pe_bl (nomark _))))) (pss_one (ps_ret pe_bl)) pss_nil)
      (pss_cons (ps_for PassesOwn.never rfl (pi_zipA (by rfl) bi.zip (pa_cons (pe_c c_least_windows hr (by omega) (by rfl) (pa_cons (pv 0) pa_nil)) (pa_cons (pe_c c_least_windows hr (by omega) (by rfl) (pa_cons (pv 2) pa_nil)) pa_nil))) (pg_tup rfl (pgs_cons (pg_name (i := 4) nd rfl (Or.inl rfl)) (pgs_cons (pg_name (i := 5) nd rfl (Or.inl rfl)) pgs_nil))) (pss_one (ps_if (PW.pt (pw_or (pt_cmpR op_ne (pe_ix ix_tup (pv 4) pe_int (fun _ _ => rfl)) (pe_ix ix_tup (pv 5) pe_int (fun _ _ => rfl)) (nomark _)) (pw_or (pt_cmpR op_lt (pe_ix ix_tup (pv 4) pe_int (fun _ _ => rfl)) (pe_ix ix_tup (pv 5) pe_int (fun _ _ => rfl)) (nomark _)) (pw_or1 (pt_cmpR op_lt (pe_ix ix_tup (pv 4) pe_int (fun _ _ => rfl)) (pe_ix ix_tup (pv 5) pe_int (fun _ _ => rfl)) (nomark _)))))) (pss_one (ps_ret pe_bl)) pss_nil)))
      (pss_cons (ps_for PassesOwn.never rfl (pi_list (pe_lst (pa_cons pe_str (pa_cons pe_str pa_nil)))) (pg_name (i := 6) nd rfl (Or.inl rfl)) (pss_one (ps_if (pt_cmpR op_gt (pe_callB (cr_sum rfl) (by rfl) bi.sum (by decide +kernel) (pa_cons (pe_callTy (call_lstR (K := K) rfl) (by rfl) bi.list (by decide +kernel) (pa_cons (pe_c c_wanted hr (by omega) (by rfl) (pa_cons (pv 2) (pa_cons (pv 6) pa_nil))) pa_nil)) pa_nil)) (pe_callB (cr_sum rfl) (by rfl) bi.sum (by decide +kernel) (pa_cons (pe_callTy (call_lstR (K := K) rfl) (by rfl) bi.list (by decide +kernel) (pa_cons (pe_c c_wanted hr (by omega) (by rfl) (pa_cons (pv 0) (pa_cons (pv 6) pa_nil))) pa_nil)) pa_nil)) (nomark _)) (pss_one (ps_ret pe_bl)) pss_nil)))
      (pss_one (ps_ret pe_bl))))), ?_⟩
  walk_at "rd"
  refine ⟨_, _, ms, qs, rf, re, rfl, hx, by omega, hdp, hu, by omega, by omega, fun _ H1 e1 => ?_, fun nf => absurd hfits nf⟩
  walk_at "rd"
  refine ⟨_, _, ms, qs, rs, AA, rfl, hx.e0 e1, hcn, hdp, hy.e0 e1, hok, fun v2 H2 e2 hv2 => ?_⟩
  walk_at "rd"
  have e12 := e1.then0 e2
  refine ⟨_, _, _, ms, qs, rf, re, A', rfl, hx.e0 e12, by omega, hdp, hu.e0 e12, by omega, by omega, ?_, hasg', fun H3 e3 => ?_⟩
  · unfold rowsD
    rw [show (plss qs).map (fun q => (A' q.nm).enc) = (plss qs).map (fun q => (leftRow q (AA q.nm)).enc) from List.map_congr_left fun c hc => by rw [hA' c hc]]
    exact hv2
  walk_at "rd"
  refine ifn0 rfl ?_
  walk_at "rd"
  have e13 := e12.then0 e3
  refine ⟨_, ms, ps, rfl, hv.e0 e13, by omega, hdp0, fun v4 H4 e4 hv4 => ?_⟩
  walk_at "rd"
  refine ⟨_, ms, qs, rfl, (hx.e0 e13).e0 e4, by omega, hdp, fun v5 H5 e5 hv5 => ?_⟩
  obtain ⟨a4, x4, rfl, ha4, hx4⟩ := (hv4.e0 e5).tupE
  obtain ⟨a5, x5, rfl, ha5, hx5⟩ := hv5.tupE
  have hl4 : x4.length = (brs qs).length := by rw [hx4.len, List.length_map, hbr.len]
  have hl5 : x5.length = (brs qs).length := by rw [hx5.len, List.length_map]
  have e15 := (e13.then0 e4).then0 e5
  walk_at "rd"
  refine f_W (walk_zipT hl4 hl5) (fun i σ H' => ∃ o4 o5 o6, σ = [some v, some u, some x, some y, o4, o5, o6] ∧ Ext [] H5 H') ⟨_, _, _, rfl, .refl⟩ (fun i σ H' _ h => by
    obtain ⟨_, _, _, _, e⟩ := h
    exact ⟨SqT.of (e.tup _ _ ha4), SqT.of (e.tup _ _ ha5)⟩) (fun i xx σ H6 H7 hi hP yy => ?_) (fun σ H6 hP => ?_)
  · obtain ⟨o4, o5, o6, rfl, e6⟩ := hP
    obtain ⟨T2, x1, z1, rfl, hT, e7, hT2, hx1, hz1⟩ := YPair.get yy
    obtain ⟨d1, hd1, hxd⟩ := hx4.getV hx1
    obtain ⟨p, hp, rfl⟩ := map_at hd1
    obtain ⟨d2, hd2, hzd⟩ := hx5.getV hz1
    obtain ⟨p2, hp2, rfl⟩ := map_at hd2
    obtain ⟨hn, hle⟩ := hbr.get hp hp2
    have e67 := e6.then0 e7
    have hxd7 := hxd.e0 e67
    have hzd7 := hzd.e0 e67
    unfold encW at hxd7 hzd7
    rw [hn] at hxd7
    have l1 := hle kF
    have l2 := hle kN
    clear yy
    walk_at "rd"
    refine ifn0 rfl ?_
    walk_at "rd"
    refine ifd0 (by omega) ?_
    walk_at "rd"
    refine ifd0 (by omega) ?_
    walk_at "rd"
    exact ⟨_, _, _, rfl, e67⟩
  · obtain ⟨o4, o5, o6, rfl, e6⟩ := hP
    walk_at "rd"
    refine s_newX (by walk_at "sz") (fun L H7 hL e7 h7 => ?_)
    have e17 := (e15.then0 e6).then0 e7
    walk_at "rd"
    refine f_W walk_list (fun i σ H' => ∃ o4 o5 o6, σ = [some v, some u, some x, some y, o4, o5, o6] ∧ Ext [] H7 H') ⟨_, _, _, rfl, .refl⟩ (fun i σ H' _ h => by
      obtain ⟨_, _, _, _, e⟩ := h
      exact SqL.of (e.at0 h7)) (fun i xx σ H8 H9 hi hP yy => ?_) (fun σ H8 hP => ?_)
    · obtain ⟨o4, o5, o6, rfl, e8⟩ := hP
      obtain ⟨rfl, hx⟩ := yy
      have hi2 : i < 2 := hi
      obtain ⟨kk, rfl⟩ : ∃ kk : Str, xx = .str kk := by
        match i, hi2, hx with
        | 0, _, hx => exact ⟨_, (Option.some.inj hx).symm⟩
        | 1, _, hx => exact ⟨_, (Option.some.inj hx).symm⟩
      have e18 := e17.then0 e8
      have hss := hsum kk
      rename_i hxless _ _ _
      walk_at "rd"
      refine ⟨_, ms, qs, kk, rfl, Dt.e0 (by assumption) e18, by omega, hdp, fun v10 H10 e10 hv10 => ?_⟩
      walk_at "rd"
      refine s_lstOfD hv10 (fun p11 x11 H11 hp11 e11 h11 hx11 => ?_)
      walk_at "rd"
      refine s_sumE h11 hx11 ?_
      walk_at "rd"
      refine ⟨_, ms, ps, kk, rfl, hv.e0 ((e18.then0 e10).then0 e11), by omega, hdp0, fun v12 H12 e12 hv12 => ?_⟩
      walk_at "rd"
      refine s_lstOfD hv12 (fun p13 x13 H13 hp13 e13 h13 hx13 => ?_)
      walk_at "rd"
      refine s_sumE h13 hx13 ?_
      walk_at "rd"
      refine ifd0 (by omega) ?_
      walk_at "rd"
      exact ⟨_, _, _, rfl, (((e8.then0 e10).then0 e11).then0 e12).then0 e13⟩
    · obtain ⟨o4, o5, o6, rfl, e8⟩ := hP
      walk_at "rd"
      exact q _ (e17.then0 e8)
end
end Bw

/-! the law itself -/
namespace Bw
open PySem PySem.Spec PyProof.Rows L2
open C8 (Cal pe_c pe_gc)
open StX (pa_star tStar)
open RZ (pi_zipA iZipA)
-- the tactics of this text, by key
local macro_rules | `(tactic| walk_at "nm") => `(tactic| first | (intro hmem; cases hmem; done) | (simp only [List.mem_cons, List.mem_singleton, List.not_mem_nil, or_false, not_or, not_false_eq_true]; done) | (simp only [List.mem_cons, List.mem_singleton, List.not_mem_nil, or_false, not_or]; (repeat' apply And.intro) <;> first | assumption | exact Ne.symm (by assumption) | exact ne_some (by assumption) (by assumption) | exact Ne.symm (ne_some (by assumption) (by assumption))))
local macro_rules | `(tactic| walk_at "hx") => `(tactic| first | assumption | exact Dt.non | exact Dt.int _ | exact Dt.str _ | exact Dt.bl _ | (refine Dt.ext (by assumption) ?_; walk_at "hx") | (refine DtAll.ext (by assumption) ?_; walk_at "hx") | (refine Ext.at0 (by assumption) ?_; walk_at "hx") | (refine Ext.tupC (by assumption) ?_; walk_at "hx") | (refine Ext.atC (by assumption) ?_ (by walk_at "nm"); walk_at "hx"))
local macro_rules | `(tactic| walk_at "dm") => `(tactic| first | exact fun _ h => h | (refine dom_step (by assumption) ?_; walk_at "dm"))
local macro_rules | `(tactic| walk_at "fr") => `(tactic| first | assumption | (refine fr_of (by assumption) ?_; walk_at "dm"))
local macro_rules | `(tactic| walk_at "ex") => `(tactic| first | assumption | exact Ext.refl | exact Ext.mono0 (by assumption) | (refine Ext.then0 ?_ (by assumption); walk_at "ex") | (refine Ext.transC ?_ (by assumption); walk_at "ex") | (refine Ext.c1 ?_ (by assumption) (by walk_at "fr"); walk_at "ex") | (refine Ext.cm ?_ (by assumption) (by simp only [List.mem_cons, true_or, or_true]; done); walk_at "ex"))
local macro_rules | `(tactic| walk_at "r1") => `(tactic| first
  | (with_reducible refine s_var rfl ?_) | (with_reducible refine s_c ?_) | (with_reducible refine s_op ?_) | (with_reducible refine s_un ?_) | (with_reducible refine s_I0 ?_) | (with_reducible refine s_U ?_)
  | (with_reducible refine s_eqI ?_) | (with_reducible refine s_eqS ?_) | (with_reducible refine s_eqB ?_) | (with_reducible refine s_neI ?_) | (with_reducible refine s_neS ?_) | (with_reducible refine s_neB ?_)
  | (with_reducible refine s_isN1 ?_) | (with_reducible refine s_isN0 ?_) | (with_reducible refine s_notN1 ?_) | (with_reducible refine s_notN0 ?_) | (with_reducible refine s_isBl ?_) | (with_reducible refine s_notBl ?_)
  | (with_reducible refine s_test ?_) | (with_reducible refine s_B ?_) | (with_reducible refine s_bl ?_) | (with_reducible refine s_and ?_) | (with_reducible refine s_or ?_) | (with_reducible refine s_not ?_)
  | (with_reducible refine s_andV ?_) | (with_reducible refine s_orV ?_) | (with_reducible refine s_notV ?_) | (with_reducible refine s_ifE ?_) | (with_reducible refine s_chain ?_)
  | (with_reducible refine s_next ?_) | (with_reducible refine s_seq ?_) | (with_reducible refine s_drop ?_) | (with_reducible refine s_ret ?_) | (with_reducible refine s_retN ?_) | (with_reducible refine s_ifS ?_) | (with_reducible refine s_asg ?_)
  | ((with_reducible refine g_name ?_); refine s_name (by first | rfl) ?_) | (with_reducible refine s_parS ?_) | (with_reducible refine s_par ?_) | ((with_reducible refine g_nx ?_); refine s_nx rfl ?_) | (with_reducible refine s_gsub ?_) | (with_reducible refine s_gnil ?_) | (with_reducible refine s_gcons ?_)
  | (with_reducible refine s_call ?_) | (with_reducible refine s_cb ?_) | (with_reducible refine s_nil ?_) | (with_reducible refine s_cons ?_) | (with_reducible refine s_tupT ?_) | (with_reducible refine s_lstT ?_)
  | (with_reducible refine s_sl ?_) | (with_reducible refine s_nopart ?_) | (with_reducible refine s_part ?_) | (with_reducible refine s_int ?_) | (with_reducible refine s_bm ?_) | (with_reducible refine s_dget ?_) | (with_reducible refine s_dputS ?_)
  | (with_reducible refine s_forS ?_) | (with_reducible refine s_lc ?_) | (with_reducible refine s_iTup ?_) | (with_reducible refine s_iList ?_) | (with_reducible refine s_iRng1 ?_) | (with_reducible refine s_iRng2 ?_) | (with_reducible refine s_tYes ?_) | (with_reducible refine s_intI ?_) | (with_reducible refine s_intB ?_) | (with_reducible refine s_min2 ?_) | (with_reducible refine s_max2 ?_) | (with_reducible refine s_abs ?_) | (with_reducible refine s_revL ?_) | (with_reducible refine s_iEnumT ?_) | (with_reducible refine s_iEnum ?_) | (with_reducible refine s_iZipA ?_) | (with_reducible refine s_iZipM ?_) | (with_reducible refine s_iZip ?_) | (with_reducible refine s_iStr ?_) | (with_reducible refine s_star ?_) | (with_reducible refine s_lc2 ?_) | (with_reducible refine s_dc ?_) | (with_reducible refine s_bm ?_)
  | (with_reducible refine isi_int _ ?_) | (with_reducible refine isi_intB _ ?_) | (with_reducible refine isi_str _ ?_) | (with_reducible refine isi_non ?_)
  | (with_reducible refine iteT ?_) | (with_reducible refine iteF ?_) | (with_reducible refine iteNT ?_) | (with_reducible refine iteNF ?_))
local macro_rules | `(tactic| walk_at "r2") => `(tactic| first
  | ((with_reducible refine g_ixT ?_); first | (refine s_ixT (by walk_at "hx") rfl ?_) | (refine s_ixDs (by walk_at "hx") rfl ?_) | (refine s_ixDi (by walk_at "hx") rfl ?_) | (refine s_ixD (by walk_at "hx") rfl (fun _ _ => ?_)) | (refine s_ixD0s (by walk_at "hx") ?_))
  | ((with_reducible refine g_form ?_); first | (refine isDev_non ?_) | (refine isBr_non ?_) | (refine isDev_dev (by walk_at "hx") ?_) | (refine isDev_br (by walk_at "hx") ?_) | (refine isBr_dev (by walk_at "hx") ?_) | (refine isBr_br (by walk_at "hx") ?_))
  | ((with_reducible refine g_isi ?_); first | (with_reducible refine isi_dt (by walk_at "hx") ?_) | (with_reducible refine isi_tup (by walk_at "hx") ?_))
  | ((with_reducible refine g_len ?_); first | (with_reducible refine s_lenL (by walk_at "hx") ?_) | (with_reducible refine s_lenT (by walk_at "hx") ?_) | (with_reducible refine s_lenD (by walk_at "hx") ?_))
  | ((with_reducible refine g_ty ?_); first | (refine s_tyK (by assumption) ?_) | (with_reducible refine s_tyL (by walk_at "hx") ?_))
  | ((with_reducible refine g_tix ?_); first | (refine s_idx0 (by assumption) ?_) | (refine s_idx1 (by assumption) ?_))
  | ((with_reducible refine g_enT ?_); with_reducible refine s_enT (by walk_at "hx") ?_) | ((with_reducible refine g_enL ?_); with_reducible refine s_enL (by walk_at "hx") ?_)
  | ((with_reducible refine g_za ?_); first | (with_reducible refine s_zaT2 (by walk_at "hx") (by walk_at "hx") ?_) | (with_reducible refine s_zaL (by walk_at "hx") (by walk_at "hx") ?_))
  | ((with_reducible refine g_zm ?_); first | (with_reducible refine s_zmT (by walk_at "hx") (by walk_at "hx") ?_) | (with_reducible refine s_zmL (by walk_at "hx") (by walk_at "hx") ?_))
  | ((with_reducible refine g_zl ?_); with_reducible refine s_zl (by walk_at "hx") (by walk_at "hx") ?_)
  | ((with_reducible refine g_itT ?_); with_reducible refine s_itT (by walk_at "hx") ?_) | ((with_reducible refine g_itL ?_); with_reducible refine s_itL (by walk_at "hx") ?_)
  | ((with_reducible refine g_gtup ?_); refine s_gtup (by walk_at "hx") rfl ?_))
local macro_rules | `(tactic| walk_at "rd") => `(tactic| repeat (first | walk_at "r1" | walk_at "r2"))
local macro_rules | `(tactic| walk_at "sz") => `(tactic| (simp only [List.length_cons, List.length_nil, List.length_append, List.length_map, sizeLine_eq] <;> omega))
/-! lesser trees, plain -/
mutual
theorem ls_cnt : ∀ {p q : Part}, Ls p q → cnt q ≤ cnt p ∧ dep q ≤ dep p
  | .emp, .emp, _ => ⟨Nat.le_refl _, Nat.le_refl _⟩
  | .emp, .dev _ _, h => h.elim
  | .emp, .br _ _ _, h => h.elim
  | .dev _ as, .emp, _ => ⟨by show 1 ≤ 1 + as.length; omega, Nat.zero_le _⟩
  | .dev _ as, .dev _ bs, h => ⟨by show 1 + bs.length ≤ 1 + as.length; rw [asLs_len h.2]; exact Nat.le_refl _, Nat.le_refl _⟩
  | .dev _ _, .br _ _ _, h => h.elim
  | .br _ _ _, .emp, h => h.elim
  | .br _ _ _, .dev _ _, h => h.elim
  | .br _ _ ps, .br _ _ qs, h => by
    have := lsAll_cnt h.2.2
    exact ⟨by show 1 + cnts qs ≤ 1 + cnts ps; omega, by show deps qs + 1 ≤ deps ps + 1; omega⟩
theorem lsAll_cnt : ∀ {ps qs : List Part}, LsAll ps qs → cnts qs ≤ cnts ps ∧ deps qs ≤ deps ps
  | [], [], _ => ⟨Nat.le_refl _, Nat.le_refl _⟩
  | [], _ :: _, h => h.elim
  | _ :: _, [], h => h.elim
  | p :: ps, q :: qs, h => by
    have h1 := ls_cnt h.1
    have h2 := lsAll_cnt h.2
    exact ⟨by show cnt q + cnts qs ≤ cnt p + cnts ps; omega, by show max (dep q) (deps qs) ≤ max (dep p) (deps ps); omega⟩
end
mutual
theorem ls_nms : ∀ {p q : Part}, Ls p q → (nms q).Sublist (nms p)
  | .emp, .emp, _ => .refl _
  | .emp, .dev _ _, h => h.elim
  | .emp, .br _ _ _, h => h.elim
  | .dev _ as, .emp, _ => List.nil_sublist _
  | .dev n as, .dev m bs, h => by
    show [m].Sublist [n]
    rw [h.1]
    exact .refl _
  | .dev _ _, .br _ _ _, h => h.elim
  | .br _ _ _, .emp, h => h.elim
  | .br _ _ _, .dev _ _, h => h.elim
  | .br n _ ps, .br m _ qs, h => by
    show (m :: nmss qs).Sublist (n :: nmss ps)
    rw [h.1]
    exact (lsAll_nms h.2.2).cons₂ _
theorem lsAll_nms : ∀ {ps qs : List Part}, LsAll ps qs → (nmss qs).Sublist (nmss ps)
  | [], [], _ => .refl _
  | [], _ :: _, h => h.elim
  | _ :: _, [], h => h.elim
  | p :: ps, q :: qs, h => by
    rw [nmss, nmss]
    exact List.Sublist.append (ls_nms h.1) (lsAll_nms h.2)
end
mutual
theorem ls_mem : ∀ {p q : Part}, Ls p q → ∀ c ∈ pls q, ∃ b ∈ pls p, b.nm = c.nm ∧ Ls b c
  | .emp, .emp, _, _, hc => by cases hc
  | .emp, .dev _ _, h, _, _ => h.elim
  | .emp, .br _ _ _, h, _, _ => h.elim
  | .dev _ as, .emp, _, _, hc => by cases hc
  | .dev n as, .dev m bs, h, c, hc => by
    rw [List.mem_singleton.mp hc]
    exact ⟨_, List.mem_singleton.mpr rfl, h.1, h⟩
  | .dev _ _, .br _ _ _, h, _, _ => h.elim
  | .br _ _ _, .emp, h, _, _ => h.elim
  | .br _ _ _, .dev _ _, h, _, _ => h.elim
  | .br n _ ps, .br m _ qs, h, c, hc => by
    rcases List.mem_cons.mp hc with rfl | hc
    · exact ⟨_, List.mem_cons_self, h.1, h⟩
    · obtain ⟨b, hb, r⟩ := lsAll_mem h.2.2 c hc
      exact ⟨b, List.mem_cons_of_mem _ hb, r⟩
theorem lsAll_mem : ∀ {ps qs : List Part}, LsAll ps qs → ∀ c ∈ plss qs, ∃ b ∈ plss ps, b.nm = c.nm ∧ Ls b c
  | [], [], _, _, hc => by cases hc
  | [], _ :: _, h, _, _ => h.elim
  | _ :: _, [], h, _, _ => h.elim
  | p :: ps, q :: qs, h, c, hc => by
    rw [plss] at hc ⊢
    rcases List.mem_append.mp hc with hc | hc
    · obtain ⟨b, hb, r⟩ := ls_mem h.1 c hc
      exact ⟨b, List.mem_append_left _ hb, r⟩
    · obtain ⟨b, hb, r⟩ := lsAll_mem h.2 c hc
      exact ⟨b, List.mem_append_right _ hb, r⟩
end
mutual
theorem wo_ls (n : Str) : ∀ p : Part, Ls p (woP n p)
  | .emp => trivial
  | .dev m as => by
    unfold woP
    split
    · trivial
    · exact ⟨rfl, asLs_refl as⟩
  | .br m ms ps => ⟨rfl, rfl, wos_ls n ps⟩
theorem wos_ls (n : Str) : ∀ ps : List Part, LsAll ps (woPs n ps)
  | [] => trivial
  | p :: r => ⟨wo_ls n p, wos_ls n r⟩
end
theorem haA_ls (k : Str) {s : Int} (hs : 0 ≤ s) : ∀ as : List Area, AsLs as (as.map (haA k s))
  | [] => trivial
  | a :: r => by
    refine ⟨?_, ?_, haA_ls k hs r⟩
    · unfold haA
      split <;> rfl
    · unfold haA
      split
      · rename_i h
        rw [h]
        show s / 2 ≤ s
        omega
      · exact Int.le_refl _
mutual
theorem ha_ls (k : Str) {s : Int} (hs : 0 ≤ s) : ∀ p : Part, Ls p (haP k s p)
  | .emp => trivial
  | .dev m as => ⟨rfl, haA_ls k hs as⟩
  | .br m ms ps => ⟨rfl, rfl, has_ls k hs ps⟩
theorem has_ls (k : Str) {s : Int} (hs : 0 ≤ s) : ∀ ps : List Part, LsAll ps (haPs k s ps)
  | [] => trivial
  | p :: r => ⟨ha_ls k hs p, has_ls k hs r⟩
end
mutual
theorem wo_ok (n : Str) : ∀ {p : Part}, POk p → POk (woP n p)
  | .emp, _ => trivial
  | .dev m as, h => by
    unfold woP
    split
    · trivial
    · exact h
  | .br m ms ps, h => wos_ok n (ps := ps) h
theorem wos_ok (n : Str) : ∀ {ps : List Part}, PsOk ps → PsOk (woPs n ps)
  | [], _ => trivial
  | p :: r, h => ⟨wo_ok n h.1, wos_ok n h.2⟩
end
mutual
theorem ha_ok (k : Str) {s : Int} (hs : P2 (s / 2) ∧ 16 ≤ s / 2) : ∀ {p : Part}, POk p → POk (haP k s p)
  | .emp, _ => trivial
  | .dev m as, h => fun a ha => by
    obtain ⟨b, hb, rfl⟩ := List.mem_map.mp ha
    unfold haA
    split
    · exact ⟨(h b hb).1, hs.1, hs.2⟩
    · exact h b hb
  | .br m ms ps, h => has_ok k hs (ps := ps) h
theorem has_ok (k : Str) {s : Int} (hs : P2 (s / 2) ∧ 16 ≤ s / 2) : ∀ {ps : List Part}, PsOk ps → PsOk (haPs k s ps)
  | [], _ => trivial
  | p :: r, h => ⟨ha_ok k hs h.1, has_ok k hs h.2⟩
end
def devN (ps : List Part) : List Str := ((plss ps).filter Part.isDev).map Part.nm
mutual
theorem only_wo (ns : List Str) (n : Str) : ∀ {p : Part}, (∀ q ∈ pls p, q.isDev = true → (q.nm ∈ ns ↔ q.nm ≠ n)) → onlyP ns p = woP n p
  | .emp, _ => rfl
  | .dev m as, h => by
    have hm : m ∈ ns ↔ m ≠ n := h (.dev m as) (List.mem_singleton.mpr rfl) rfl
    unfold onlyP woP
    by_cases e : m = n
    · rw [if_neg (fun z => (hm.mp z) e), if_pos e]
    · rw [if_pos (hm.mpr e), if_neg e]
  | .br m ms ps, h => by
    unfold onlyP woP
    rw [onlys_wo ns n (ps := ps) fun q hq => h q (List.mem_cons_of_mem _ hq)]
theorem onlys_wo (ns : List Str) (n : Str) : ∀ {ps : List Part}, (∀ q ∈ plss ps, q.isDev = true → (q.nm ∈ ns ↔ q.nm ≠ n)) → onlyPs ns ps = woPs n ps
  | [], _ => rfl
  | p :: r, h => by
    unfold onlyPs woPs
    rw [only_wo ns n fun q hq => h q (by rw [plss]; exact List.mem_append_left _ hq), onlys_wo ns n fun q hq => h q (by rw [plss]; exact List.mem_append_right _ hq)]
end
/-! data of trees: plain, equal to itself -/
theorem plain_strs : ∀ {ns : List Str}, (∀ s ∈ ns, PyData.strOk s = true) → Plain (ns.map PyData.str)
  | [], _ => plain_nil
  | n :: r, h => ⟨by
    show (PyData.strOk n && PyData.canLayAll0 (r.map PyData.str)) = true
    rw [h n List.mem_cons_self, (plain_strs fun s hs => h s (List.mem_cons_of_mem _ hs)).1]
    rfl, by
    show max (PyData.depth (.str n)) (PyData.depthAll (r.map PyData.str)) ≤ 60
    have := (plain_strs fun s hs => h s (List.mem_cons_of_mem _ hs)).2
    have : PyData.depth (.str n) = 0 := rfl
    omega⟩
theorem depth_strs : ∀ ms : List Str, PyData.depthAll (ms.map PyData.str) = 0
  | [] => rfl
  | m :: r => by
    have := depth_strs r
    show max 0 (PyData.depthAll (r.map PyData.str)) = 0
    omega
theorem kstr_ok {k : Str} (h : k = kF ∨ k = kN) : PyData.strOk k = true := by
  rcases h with rfl | rfl <;> decide +kernel
theorem plain_areas : ∀ {as : List Area}, (∀ a ∈ as, AreaOk a) → PyData.canLayAll0 (as.map encA) = true ∧ PyData.depthAll (as.map encA) ≤ 1
  | [], _ => ⟨rfl, Nat.zero_le _⟩
  | a :: r, h => by
    have ih := plain_areas fun z hz => h z (List.mem_cons_of_mem _ hz)
    constructor
    · show ((PyData.strOk a.1 && (true && PyData.canLayAll0 [])) && PyData.canLayAll0 (r.map encA)) = true
      rw [kstr_ok (h a List.mem_cons_self).1, ih.1]
      rfl
    · show max (PyData.depth (encA a)) (PyData.depthAll (r.map encA)) ≤ 1
      have : PyData.depth (encA a) = 1 := rfl
      omega
mutual
/-- names and marks as they may be -/
def SOk : Part → Prop
  | .emp => True
  | .dev n _ => PyData.strOk n = true
  | .br n ms ps => PyData.strOk n = true ∧ (∀ m ∈ ms, PyData.strOk m = true) ∧ SsOk ps
def SsOk : List Part → Prop
  | [] => True
  | p :: r => SOk p ∧ SsOk r
end
mutual
theorem PMx.sok (n : Str) : ∀ {p : Part}, PMx p → SOk (woP n p)
  | .emp, _ => trivial
  | .dev m as, h => by
    unfold woP
    split
    · trivial
    · exact h.1
  | .br m ms ps, h => ⟨h.1, h.2.1, PsMx.sok n h.2.2⟩
theorem PsMx.sok (n : Str) : ∀ {ps : List Part}, PsMx ps → SsOk (woPs n ps)
  | [], _ => trivial
  | p :: r, h => ⟨PMx.sok n h.1, PsMx.sok n h.2⟩
end
mutual
theorem plain_part : ∀ {p : Part}, SOk p → POk p → PyData.canLay0 p.enc = true ∧ PyData.depth p.enc ≤ 3 + 2 * dep p
  | .emp, _, _ => ⟨rfl, Nat.zero_le _⟩
  | .dev n as, h, ho => by
    have ha := plain_areas ho
    have h : PyData.strOk n = true := h
    constructor
    · show (PyData.strOk "device" && (PyData.strOk n && (PyData.canLayAll0 (as.map encA) && PyData.canLayAll0 []))) = true
      rw [h, ha.1]
      decide +kernel
    · show max 0 (max 0 (max (PyData.depthAll (as.map encA) + 1) 0)) + 1 ≤ 3 + 2 * 0
      omega
  | .br n ms ps, h, ho => by
    obtain ⟨h1, h2, h3⟩ := h
    have hp := plain_parts h3 ho
    have hm := plain_strs h2
    have hmd := depth_strs ms
    constructor
    · show (PyData.strOk "bridge" && (PyData.strOk n && (PyData.canLayAll0 (ms.map PyData.str) && (PyData.canLayAll0 (encs ps) && PyData.canLayAll0 [])))) = true
      rw [h1, hm.1, hp.1]
      decide +kernel
    · show max 0 (max 0 (max (PyData.depthAll (ms.map PyData.str) + 1) (max (PyData.depthAll (encs ps) + 1) 0))) + 1 ≤ 3 + 2 * (deps ps + 1)
      omega
theorem plain_parts : ∀ {ps : List Part}, SsOk ps → PsOk ps → PyData.canLayAll0 (encs ps) = true ∧ PyData.depthAll (encs ps) ≤ 3 + 2 * deps ps
  | [], _, _ => ⟨rfl, Nat.zero_le _⟩
  | p :: r, h, ho => by
    have h1 := plain_part h.1 ho.1
    have h2 := plain_parts h.2 ho.2
    constructor
    · show (PyData.canLay0 p.enc && PyData.canLayAll0 (encs r)) = true
      rw [h1.1, h2.1]
      rfl
    · show max (PyData.depth p.enc) (PyData.depthAll (encs r)) ≤ 3 + 2 * max (dep p) (deps r)
      omega
end
theorem shaped_tree {ms : List Str} {ps : List Part} (hm : ∀ m ∈ ms, PyData.strOk m = true) (h : SsOk ps) (ho : PsOk ps) (hd : deps ps ≤ 6) : SeqAt.shaped (encT ms ps) = true := by
  have hp := plain_parts h ho
  have h2 := plain_strs hm
  have hmd := h2.2
  refine shaped_tup ⟨?_, ?_⟩
  · show (PyData.strOk "tree" && (PyData.canLayAll0 (ms.map PyData.str) && (PyData.canLayAll0 (encs ps) && PyData.canLayAll0 []))) = true
    rw [h2.1, hp.1]
    decide +kernel
  · have hmd := depth_strs ms
    show max 0 (max (PyData.depthAll (ms.map PyData.str) + 1) (max (PyData.depthAll (encs ps) + 1) 0)) ≤ 60
    omega
theorem eqv_strs : ∀ ns : List Str, PyData.eqvAll (ns.map PyData.str) (ns.map PyData.str) = true
  | [] => by simp [PyData.eqvAll]
  | n :: r => by
    have := eqv_strs r
    simp [PyData.eqvAll, PyData.eqv, this]
theorem eqv_areas : ∀ as : List Area, PyData.eqvAll (as.map encA) (as.map encA) = true
  | [] => by simp [PyData.eqvAll]
  | a :: r => by
    have := eqv_areas r
    simp [PyData.eqvAll, PyData.eqv, this, encA]
mutual
theorem eqv_part : ∀ p : Part, PyData.eqv p.enc p.enc = true
  | .emp => by simp [Part.enc, PyData.eqv]
  | .dev n as => by
    have := eqv_areas as
    simp [Part.enc, PyData.eqv, PyData.eqvAll, this]
  | .br n ms ps => by
    have h1 := eqv_parts ps
    have h2 := eqv_strs ms
    simp [Part.enc, PyData.eqv, PyData.eqvAll, h1, h2]
theorem eqv_parts : ∀ ps : List Part, PyData.eqvAll (encs ps) (encs ps) = true
  | [] => by simp [encs, PyData.eqvAll]
  | p :: r => by
    have h1 := eqv_part p
    have h2 := eqv_parts r
    simp [encs, PyData.eqvAll, h1, h2]
end
theorem eqv_tree (ms : List Str) (ps : List Part) : PyData.eqv (encT ms ps) (encT ms ps) = true := by
  have h1 := eqv_parts ps
  have h2 := eqv_strs ms
  simp [encT, PyData.eqv, PyData.eqvAll, h1, h2]
/-! rows by names -/
theorem rows_by : ∀ (rs : List Row), (rs.map Row.nm).Nodup → ∃ A : Str → Row, ∀ r ∈ rs, A r.nm = r
  | [], _ => ⟨fun _ => .dev "" [], fun _ h => nomatch h⟩
  | r :: rs, hn => by
    rw [List.map_cons] at hn
    obtain ⟨h1, h2⟩ := List.nodup_cons.mp hn
    obtain ⟨A, h⟩ := rows_by rs h2
    refine ⟨fun s => if s = r.nm then r else A s, fun c hc => ?_⟩
    rcases List.mem_cons.mp hc with rfl | hc
    · show (if c.nm = c.nm then _ else _) = _
      rw [if_pos rfl]
    · have : c.nm ≠ r.nm := fun z => h1 (by rw [← z]; exact List.mem_map.mpr ⟨c, hc, rfl⟩)
      show (if c.nm = r.nm then _ else _) = _
      rw [if_neg this]
      exact h c hc
theorem rows_eq {rs : List Row} {ps : List Part} {A : Str → Row} (h : ∀ r ∈ rs, A r.nm = r) (hn : rs.map Row.nm = nmss ps) : rs = (plss ps).map fun q => A q.nm := by
  have h1 : rs.map (fun r => A r.nm) = rs := by
    conv => rhs; rw [← List.map_id rs]
    exact List.map_congr_left fun r hr => h r hr
  have h2 : rs.map (fun r => A r.nm) = (rs.map Row.nm).map A := by rw [List.map_map]; rfl
  rw [← h1, h2, hn, ← plss_nm, List.map_map]
  rfl
mutual
theorem p_ne15 : ∀ {p q : Part}, q ∈ pls p → q ≠ .emp
  | .emp, q, h => by cases h
  | .dev n as, q, h => by rw [List.mem_singleton.mp h]; exact fun z => nomatch z
  | .br n ms ps, q, h => by
    rcases List.mem_cons.mp h with rfl | h
    · exact fun z => nomatch z
    · exact pls_ne15 h
theorem pls_ne15 : ∀ {ps : List Part} {q : Part}, q ∈ plss ps → q ≠ .emp
  | [], q, h => by cases h
  | p :: ps, q, h => by
    rw [plss] at h
    rcases List.mem_append.mp h with h | h
    · exact p_ne15 h
    · exact pls_ne15 h
end
theorem rows_ok {rs : List Row} {ps qs : List Part} {A : Str → Row} (h : ∀ r ∈ rs, A r.nm = r) (hn : rs.map Row.nm = nmss ps) (hc : cnts ps ≤ 63) (has : AsgPs A ps) (hl : LsAll ps qs) : RowsOk rs A qs where
  ag := h
  mem := fun q hq => by
    obtain ⟨b, hb, e, _⟩ := lsAll_mem hl q hq
    rw [rows_eq h hn, ← e]
    exact List.mem_map.mpr ⟨b, hb, rfl⟩
  for_ := fun q hq => by
    obtain ⟨b, hb, e, hbq⟩ := lsAll_mem hl q hq
    have ha := asgPs_plss has b hb
    rw [← e]
    cases b with
    | emp =>
      cases q with
      | emp => exact absurd rfl (pls_ne15 hq)
      | dev n as => exact hbq.elim
      | br n ms ps => exact hbq.elim
    | dev n as =>
      cases q with
      | emp => exact absurd rfl (pls_ne15 hq)
      | dev m bs =>
        obtain ⟨rfl, hl⟩ := hbq
        obtain ⟨cs, e1, e2⟩ := ha
        exact ⟨cs, e1, by rw [dok_len e2, asLs_len hl]⟩
      | br m ms ps => exact hbq.elim
    | br n ms ps =>
      cases q with
      | emp => exact absurd rfl (pls_ne15 hq)
      | dev m bs => exact hbq.elim
      | br m ns qs =>
        obtain ⟨rfl, _⟩ := hbq
        obtain ⟨f, e, e1, _⟩ := ha
        exact ⟨f, e, e1⟩
  len := by
    have h1 := congrArg List.length hn
    rw [List.length_map] at h1
    have h2 : (nmss ps).length ≤ cnts ps := by
      rw [← plss_nm, List.length_map]
      exact plss_len _
    omega
mutual
theorem ls_refl15 : ∀ p : Part, Ls p p
  | .emp => trivial
  | .dev _ as => ⟨rfl, asLs_refl as⟩
  | .br _ _ ps => ⟨rfl, rfl, lsAll_refl ps⟩
theorem lsAll_refl : ∀ ps : List Part, LsAll ps ps
  | [] => trivial
  | p :: r => ⟨ls_refl15 p, lsAll_refl r⟩
end
theorem p2_half {e : Int} (h1 : 5 ≤ e) : P2 ((1 * (2 : Int) ^ e.toNat) / 2) ∧ 16 ≤ (1 * (2 : Int) ^ e.toNat) / 2 := by
  obtain ⟨j, hj⟩ : ∃ j : Nat, e.toNat = j + 5 := ⟨e.toNat - 5, by omega⟩
  rw [hj, Int.one_mul, show j + 5 = (j + 4) + 1 from rfl, Int.pow_succ, Int.mul_ediv_cancel _ (by decide)]
  refine ⟨⟨j + 4, rfl⟩, ?_⟩
  rw [Int.pow_add]
  have : 0 < (2 : Int) ^ j := Int.pow_pos (by decide)
  have h4 : (2 : Int) ^ 4 = 16 := by decide
  rw [h4]
  omega
end Bw

/-! the walk of the law -/
namespace Bw
open PySem PySem.Spec PyProof.Rows L2
open C8 (Cal pe_c pe_gc)
open StX (pa_star tStar)
open RZ (pi_zipA iZipA)
theorem g_ixR {K : PySem.W.Frag} {H : Hp} {Q : VK} {a : Addr} {y : V} (q : rIxT K (.ref a) y H Q) : rIxT K (.ref a) y H Q := q
-- the tactics of this text, by key
local macro_rules | `(tactic| walk_at "nm") => `(tactic| first | (intro hmem; cases hmem; done) | (simp only [List.mem_cons, List.mem_singleton, List.not_mem_nil, or_false, not_or, not_false_eq_true]; done) | (simp only [List.mem_cons, List.mem_singleton, List.not_mem_nil, or_false, not_or]; (repeat' apply And.intro) <;> first | assumption | exact Ne.symm (by assumption) | exact ne_some (by assumption) (by assumption) | exact Ne.symm (ne_some (by assumption) (by assumption))))
local macro_rules | `(tactic| walk_at "hx") => `(tactic| first | assumption | exact Dt.non | exact Dt.int _ | exact Dt.str _ | exact Dt.bl _ | (refine Dt.ext (by assumption) ?_; walk_at "hx") | (refine DtAll.ext (by assumption) ?_; walk_at "hx") | (refine Ext.at0 (by assumption) ?_; walk_at "hx") | (refine Ext.tupC (by assumption) ?_; walk_at "hx") | (refine Ext.atC (by assumption) ?_ (by walk_at "nm"); walk_at "hx"))
local macro_rules | `(tactic| walk_at "dm") => `(tactic| first | exact fun _ h => h | (refine dom_step (by assumption) ?_; walk_at "dm"))
local macro_rules | `(tactic| walk_at "fr") => `(tactic| first | assumption | (refine fr_of (by assumption) ?_; walk_at "dm"))
local macro_rules | `(tactic| walk_at "ex") => `(tactic| first | assumption | exact Ext.refl | exact Ext.mono0 (by assumption) | (refine Ext.then0 ?_ (by assumption); walk_at "ex") | (refine Ext.transC ?_ (by assumption); walk_at "ex") | (refine Ext.c1 ?_ (by assumption) (by walk_at "fr"); walk_at "ex") | (refine Ext.cm ?_ (by assumption) (by simp only [List.mem_cons, true_or, or_true]; done); walk_at "ex"))
local macro_rules | `(tactic| walk_at "r1") => `(tactic| first
  | (with_reducible refine s_var rfl ?_) | (with_reducible refine s_c ?_) | (with_reducible refine s_op ?_) | (with_reducible refine s_un ?_) | (with_reducible refine s_I0 ?_) | (with_reducible refine s_U ?_)
  | (with_reducible refine s_eqI ?_) | (with_reducible refine s_eqS ?_) | (with_reducible refine s_eqB ?_) | (with_reducible refine s_neI ?_) | (with_reducible refine s_neS ?_) | (with_reducible refine s_neB ?_)
  | (with_reducible refine s_isN1 ?_) | (with_reducible refine s_isN0 ?_) | (with_reducible refine s_notN1 ?_) | (with_reducible refine s_notN0 ?_) | (with_reducible refine s_isBl ?_) | (with_reducible refine s_notBl ?_)
  | (with_reducible refine s_test ?_) | (with_reducible refine s_B ?_) | (with_reducible refine s_bl ?_) | (with_reducible refine s_and ?_) | (with_reducible refine s_or ?_) | (with_reducible refine s_not ?_)
  | (with_reducible refine s_andV ?_) | (with_reducible refine s_orV ?_) | (with_reducible refine s_notV ?_) | (with_reducible refine s_ifE ?_) | (with_reducible refine s_chain ?_)
  | (with_reducible refine s_next ?_) | (with_reducible refine s_seq ?_) | (with_reducible refine s_drop ?_) | (with_reducible refine s_ret ?_) | (with_reducible refine s_retN ?_) | (with_reducible refine s_ifS ?_) | (with_reducible refine s_asg ?_)
  | ((with_reducible refine g_name ?_); refine s_name (by first | (simp only [List.set_cons_succ, List.set_cons_zero]; done) | (simp only [List.set_cons_succ, List.set_cons_zero]; rfl) | rfl) ?_) | (with_reducible refine s_parS ?_) | (with_reducible refine s_par ?_) | ((with_reducible refine g_nx ?_); refine s_nx rfl ?_) | (with_reducible refine s_gsub ?_) | (with_reducible refine s_gnil ?_) | (with_reducible refine s_gcons ?_)
  | (with_reducible refine s_call ?_) | (with_reducible refine s_cb ?_) | (with_reducible refine s_nil ?_) | (with_reducible refine s_cons ?_) | (with_reducible refine s_tupT ?_) | (with_reducible refine s_lstT ?_)
  | (with_reducible refine s_sl ?_) | (with_reducible refine s_nopart ?_) | (with_reducible refine s_part ?_) | (with_reducible refine s_int ?_) | (with_reducible refine s_bm ?_) | (with_reducible refine s_dget ?_) | (with_reducible refine s_dputS ?_)
  | (with_reducible refine s_forS ?_) | (with_reducible refine s_lc ?_) | (with_reducible refine s_iTup ?_) | (with_reducible refine s_iList ?_) | (with_reducible refine s_iRng1 ?_) | (with_reducible refine s_iRng2 ?_) | (with_reducible refine s_tYes ?_) | (with_reducible refine s_intI ?_) | (with_reducible refine s_intB ?_) | (with_reducible refine s_min2 ?_) | (with_reducible refine s_max2 ?_) | (with_reducible refine s_abs ?_) | (with_reducible refine s_revL ?_) | (with_reducible refine s_iEnumT ?_) | (with_reducible refine s_iEnum ?_) | (with_reducible refine s_iZipA ?_) | (with_reducible refine s_iZipM ?_) | (with_reducible refine s_iZip ?_) | (with_reducible refine s_iStr ?_) | (with_reducible refine s_star ?_) | (with_reducible refine s_lc2 ?_) | (with_reducible refine s_dc ?_) | (with_reducible refine s_bm ?_)
  | (with_reducible refine isi_int _ ?_) | (with_reducible refine isi_intB _ ?_) | (with_reducible refine isi_str _ ?_) | (with_reducible refine isi_non ?_)
  | (with_reducible refine iteT ?_) | (with_reducible refine iteF ?_) | (with_reducible refine iteNT ?_) | (with_reducible refine iteNF ?_))
local macro_rules | `(tactic| walk_at "r2") => `(tactic| first
  | ((with_reducible refine g_ixT ?_); first | ((with_reducible refine g_ixR ?_); refine s_ixT (by walk_at "hx") rfl ?_) | (refine s_ixDs (by walk_at "hx") rfl ?_) | (refine s_ixDi (by walk_at "hx") rfl ?_) | (refine s_ixD (by walk_at "hx") rfl (fun _ _ => ?_)) | (refine s_ixD0s (by walk_at "hx") ?_))
  | ((with_reducible refine g_form ?_); first | (refine isDev_non ?_) | (refine isBr_non ?_) | (refine isDev_dev (by walk_at "hx") ?_) | (refine isDev_br (by walk_at "hx") ?_) | (refine isBr_dev (by walk_at "hx") ?_) | (refine isBr_br (by walk_at "hx") ?_))
  | ((with_reducible refine g_isi ?_); first | (with_reducible refine isi_dt (by walk_at "hx") ?_) | (with_reducible refine isi_tup (by walk_at "hx") ?_))
  | ((with_reducible refine g_len ?_); first | (with_reducible refine s_lenL (by walk_at "hx") ?_) | (with_reducible refine s_lenT (by walk_at "hx") ?_) | (with_reducible refine s_lenD (by walk_at "hx") ?_))
  | ((with_reducible refine g_ty ?_); first | (refine s_tyK (by assumption) ?_) | (with_reducible refine s_tyL (by walk_at "hx") ?_))
  | ((with_reducible refine g_tix ?_); first | (refine s_idx0 (by assumption) ?_) | (refine s_idx1 (by assumption) ?_))
  | ((with_reducible refine g_enT ?_); with_reducible refine s_enT (by walk_at "hx") ?_) | ((with_reducible refine g_enL ?_); with_reducible refine s_enL (by walk_at "hx") ?_)
  | ((with_reducible refine g_za ?_); first | (with_reducible refine s_zaT2 (by walk_at "hx") (by walk_at "hx") ?_) | (with_reducible refine s_zaL (by walk_at "hx") (by walk_at "hx") ?_))
  | ((with_reducible refine g_zm ?_); first | (with_reducible refine s_zmT (by walk_at "hx") (by walk_at "hx") ?_) | (with_reducible refine s_zmL (by walk_at "hx") (by walk_at "hx") ?_))
  | ((with_reducible refine g_zl ?_); with_reducible refine s_zl (by walk_at "hx") (by walk_at "hx") ?_)
  | ((with_reducible refine g_itT ?_); with_reducible refine s_itT (by walk_at "hx") ?_) | ((with_reducible refine g_itL ?_); with_reducible refine s_itL (by walk_at "hx") ?_)
  | ((with_reducible refine g_gtup ?_); refine s_gtup (by walk_at "hx") rfl ?_))
local macro_rules | `(tactic| walk_at "rd") => `(tactic| repeat (first | walk_at "r1" | walk_at "r2"))
local macro_rules | `(tactic| walk_at "sz") => `(tactic| (simp only [List.length_cons, List.length_nil, List.length_append, List.length_map, sizeLine_eq] <;> omega))
theorem s_p40 {H : Hp} {Q : VK} (q : Q (.int 1099511627776) H) : rI CPow (fun i j => V.int (i ^ j.toNat)) (.int 2) (.int 40) H Q := ⟨2, 40, rfl, rfl, ⟨by decide, by decide, by decide⟩, by
  show Q (.int ((2 : Int) ^ (40 : Nat))) H
  rw [show ((2 : Int) ^ (40 : Nat)) = 1099511627776 from by decide]
  exact q⟩
theorem s_ixAnyD {K : PySem.W.Frag} {H : Hp} {Q : VK} {x : V} {i : Int} {ds : List PyData} {d : PyData} (h : Dt H x (.tuple ds)) (e : atI ds i = some d) (q : ∀ v, Dt H v d → Q v H) : rIx K x (.int i) H Q := .inr (.inl (s_ixD h e q))
theorem DtAll.strs15 {H : Hp} : ∀ {ns : List Str}, DtAll H (ns.map V.str) (ns.map PyData.str)
  | [] => .nil
  | n :: r => .cons (.str n) DtAll.strs15
theorem fit_sz {ps : List Part} (h : TrOk ps) (k : Str) : ∀ z ∈ szs k ps, P2 z ∧ 16 ≤ z ∧ z ≤ 2 ^ 58 := fun z hz => by
  have h1 := szs_ok k ps h.ok z hz
  have h2 := mem_le_sum (szs_nn (k := k) h.ok) z hz
  have h3 := h.sum k
  exact ⟨h1.1, h1.2, by omega⟩
mutual
theorem pMx_nm : ∀ {p : Part}, PMx p → ∀ q ∈ pls p, PyData.strOk q.nm = true
  | .emp, _, q, hq => by cases hq
  | .dev n as, h, q, hq => by rw [List.mem_singleton.mp hq]; exact h.1
  | .br n ms ps, h, q, hq => by
    rcases List.mem_cons.mp hq with rfl | hq
    · exact h.1
    · exact psMx_nm h.2.2 q hq
theorem psMx_nm : ∀ {ps : List Part}, PsMx ps → ∀ q ∈ plss ps, PyData.strOk q.nm = true
  | [], _, q, hq => by cases hq
  | p :: r, h, q, hq => by
    rw [plss] at hq
    rcases List.mem_append.mp hq with hq | hq
    · exact pMx_nm h.1 q hq
    · exact psMx_nm h.2 q hq
end
theorem devN_ok {ps : List Part} (h : PsMx ps) : ∀ s ∈ devN ps, PyData.strOk s = true := fun s hs => by
  obtain ⟨p, hp, rfl⟩ := List.mem_map.mp hs
  have hpm := (List.mem_filter.mp hp).1
  exact psMx_nm h p hpm
section
variable {P : Program} {w : World} {K : PySem.W.Frag} {mg : Str → Option Value} {base : Heap} {kd : Addr} {k : Nat}
abbrev sx_law : Stmt := top 69
abbrev N_law : List Str := ["_law_script", "_law_source_here", "_law_turn", "_law_exps", "_law_tree_here", "_law_rooms_here", "_law_far", "_law_drawn_here", "_law_names", "_law_rows", "_law_name", "_law_less", "_law_small", "_law_path", "_law_part_here", "_law_one"]
theorem sc_law : FnScope N_law ["_law_script"] (defScope sx_law) := ⟨rfl, rfl, rfl, by decide +kernel, rfl, by decide +kernel, by decide +kernel⟩
theorem ok_law {f : Addr} {fd : FuncData} (bi : Bi mg kd) (F : Fun K "law" "law" sx_law f fd) (c_source : Cal P w K mg base k "_law_source" (spSource K) []) (c_pick : Cal P w K mg base k "_law_pick" spPick []) (c_deep : Cal P w K mg base k "_law_deep" spDeep []) (c_tree : Cal P w K mg base k "_law_tree" spTree [])
    (c_rooms : Cal P w K mg base k "_law_rooms" spRooms []) (c_fitting : Cal P w K mg base k "_law_fitting" spFitting []) (c_sizes : Cal P w K mg base k "_law_sizes" (spSizesOn 6) []) (c_drawn : Cal P w K mg base k "_law_drawn" (spDrawn 7) [])
    (c_refusal : Cal P w K mg base k "refusal" spRefusal []) (c_lplaced : Cal P w K mg base k "_law_placed" (spLPlaced 8) []) (c_assignment_holds : Cal P w K mg base k "assignment_holds" spHolds []) (c_windows_right : Cal P w K mg base k "_law_windows_right" spWindowsRight [])
    (c_without : Cal P w K mg base k "_law_without" (spWithout 7) []) (c_only : Cal P w K mg base k "only" spOnly []) (c_halved : Cal P w K mg base k "_law_halved" (spHalved 7) []) (c_no_more : Cal P w K mg base k "_law_no_more" spNoMore []) : FnOk P w K mg base CX0 (k + 1) f fd ["_law_script"] (spLaw K) := by
  refine F.ok sc_law (fun vs H Q E h => ?_) (fun cdv A outer s H vs Q E hr h => ?_)
  · obtain ⟨p, ns, rfl, _⟩ := h
    rfl
  have nd := sc_law.nd
  obtain ⟨p, ns, rfl, hp, hnl, q⟩ := h
  refine ⟨_, (pss_cons (ps_set (i := 1) nd rfl (Or.inl rfl) (pe_c c_source hr (by omega) (by rfl) (pa_cons (pv 0) pa_nil)))
      (pss_cons (ps_for PassesOwn.never rfl (pi_range1 (by rfl) bi.range (pa_cons pe_int pa_nil)) (pg_name (i := 2) nd rfl (Or.inl rfl)) (pss_cons (ps_set (i := 3) nd rfl (Or.inl rfl) (pe_c c_pick hr (by omega) (by rfl) (pa_cons (pv 1) (pa_cons (pe_lst (pa_cons (pe_lst (pa_cons pe_int (pa_cons pe_int pa_nil))) (pa_cons (pe_lst (pa_cons pe_int (pa_cons pe_int (pa_cons pe_int pa_nil)))) (pa_cons (pe_lst (pa_cons pe_int (pa_cons pe_int (pa_cons pe_int pa_nil)))) (pa_cons (pe_lst (pa_cons pe_int pa_nil)) (pa_cons (pe_lst (pa_cons pe_int (pa_cons pe_int pa_nil))) pa_nil)))))) pa_nil))))
      (pss_cons (ps_set (i := 4) nd rfl (Or.inl rfl) (pe_ifExp (pt_cmpR op_eq (pv 2) pe_int (nomark _)) (pe_c c_deep hr (by omega) (by rfl) (pa_cons (pv 1) (pa_cons (pv 3) pa_nil))) (pe_c c_tree hr (by omega) (by rfl) (pa_cons (pv 1) (pa_cons pe_int (pa_cons pe_int (pa_cons (pv 3) pa_nil)))))))
      (pss_cons (ps_set (i := 5) nd rfl (Or.inl rfl) (pe_c c_rooms hr (by omega) (by rfl) (pa_cons (pv 1) pa_nil)))
      (pss_cons (ps_set (i := 6) nd rfl (Or.inl rfl) (pe_c c_fitting hr (by omega) (by rfl) (pa_cons (pv 1) (pa_cons (pe_c c_sizes hr (by omega) (by rfl) (pa_cons (pe_ix ix_tup (pv 4) pe_int (fun _ _ => rfl)) (pa_cons pe_str pa_nil))) (pa_cons (pe_ix ix_seq (pv 5) pe_int (fun _ _ => rfl)) (pa_cons (pe_op op_pow pe_int pe_int) pa_nil))))))
      (pss_cons (ps_set (i := 5) nd rfl (Or.inl rfl) (pe_tup (pa_cons (pv 6) (pa_cons (pe_c c_fitting hr (by omega) (by rfl) (pa_cons (pv 1) (pa_cons (pe_c c_sizes hr (by omega) (by rfl) (pa_cons (pe_ix ix_tup (pv 4) pe_int (fun _ _ => rfl)) (pa_cons pe_str pa_nil))) (pa_cons (pe_ix ix_seq (pv 5) pe_int (fun _ _ => rfl)) (pa_cons pe_int pa_nil))))) pa_nil))))
      (pss_cons (ps_set (i := 7) nd rfl (Or.inl rfl) (pe_c c_drawn hr (by omega) (by rfl) (pa_cons (pv 1) (pa_cons (pe_ix ix_tup (pv 4) pe_int (fun _ _ => rfl)) (pa_cons (pv 5) pa_nil)))))
      (pss_cons (ps_if (pt_cmpR op_ne (pe_cmpR op_isN1 (pv 7) pe_non (nomark _)) (pe_cmpR op_notN1 (pe_c c_refusal hr (by omega) (by rfl) (pa_cons (pv 4) (pa_cons (pv 5) pa_nil))) pe_non (nomark _)) (nomark _)) (pss_one (ps_ret pe_bl)) pss_nil)
      (pss_cons (ps_setLc (i := 8) (own := [("_law_path", 13), ("_law_part_here", 14)]) (g := gTup K 2 (gCons (gName 13) (gCons (gName 14) (gNil)))) (by rfl) nd rfl rfl (sw_true rfl rfl rfl (by decide +kernel)) (pi_list (pe_c c_lplaced hr (by omega) (by rfl) (pa_cons (pe_ix ix_tup (pv 4) pe_int (fun _ _ => rfl)) (pa_cons (pe_tup pa_nil) pa_nil)))) (blkOk_by (own := [("_law_path", 13), ("_law_part_here", 14)]) (N := N_law) (sc := defScope sx_law) (by decide +kernel)) (fun _ _ _ _ _ => (pg_tup rfl (pgs_cons (pg_name (i := 13) nd rfl (Or.inl rfl)) (pgs_cons (pg_name (i := 14) nd rfl (Or.inl rfl)) pgs_nil)))) (fun _ _ _ _ _ => pts_one (pt_cmpR op_eq (pe_ix (ix_tupK (K := K) rfl) (pv 14) pe_int (fun _ _ => rfl)) pe_str (nomark _))) (fun _ _ _ _ _ => (pe_ix (ix_tupK (K := K) rfl) (pv 14) pe_int (fun _ _ => rfl))))
      (pss_one (ps_if (PW.pt (pw_and (pt_cmpR op_notN1 (pv 7) pe_non (nomark _)) (pw_and1 (pt_cmpR (op_neD hr.units) (pv 8) (pe_lst pa_nil) (nomark _))))) (pss_cons (ps_asg (pe_tup (pa_cons (pe_callTy (call_tupR (K := K) rfl) (by rfl) bi.tuple (by decide +kernel) (pa_cons (pv 7) pa_nil)) (pa_cons (pe_c c_pick hr (by omega) (by rfl) (pa_cons (pv 1) (pa_cons (pv 8) pa_nil))) pa_nil))) (pg_tup rfl (pgs_cons (pg_name (i := 9) nd rfl (Or.inl rfl)) (pgs_cons (pg_name (i := 10) nd rfl (Or.inr rfl)) pgs_nil))))
      (pss_cons (ps_if (PW.pt (pw_or (pt_cmpR op_notBl (pe_c c_assignment_holds hr (by omega) (by rfl) (pa_cons (pv 4) (pa_cons (pv 5) (pa_cons (pv 9) pa_nil)))) pe_bl (nomark _)) (pw_or1 (pt_not (pt_val (pe_c c_windows_right hr (by omega) (by rfl) (pa_cons (pv 4) (pa_cons (pv 9) pa_nil)))))))) (pss_one (ps_ret pe_bl)) pss_nil)
      (pss_cons (ps_set (i := 11) nd rfl (Or.inl rfl) (pe_tup (pa_cons pe_str (pa_cons (pe_ix ix_tup (pv 4) pe_int (fun _ _ => rfl)) (pa_cons (pe_c c_without hr (by omega) (by rfl) (pa_cons (pe_ix ix_tup (pv 4) pe_int (fun _ _ => rfl)) (pa_cons (pv 10) pa_nil))) pa_nil)))))
      (pss_cons (ps_if (pt_cmpR (op_neD hr.units) (pe_c c_only hr (by omega) (by rfl) (pa_cons (pv 4) (pa_cons (pe_callTy (call_tupR (K := K) rfl) (by rfl) bi.tuple (by decide +kernel) (pa_cons (pe_lc (own := [("_law_one", 15)]) (g := gName 15) (by rfl) nd (pi_list (pv 8)) (blkOk_by (own := [("_law_one", 15)]) (N := N_law) (sc := defScope sx_law) (by decide +kernel)) (fun _ _ _ _ _ => (pg_name (i := 15) nd rfl (Or.inl rfl))) (fun _ _ _ _ _ => pts_one (pt_cmpR op_ne (pv 15) (pv 10) (nomark _))) (fun _ _ _ _ _ => (pv 15))) pa_nil)) pa_nil))) (pv 11) (nomark _)) (pss_one (ps_ret pe_bl)) pss_nil)
      (pss_cons (ps_set (i := 12) nd rfl (Or.inl rfl) (pe_tup (pa_cons pe_str (pa_cons (pe_ix ix_tup (pv 4) pe_int (fun _ _ => rfl)) (pa_cons (pe_c c_halved hr (by omega) (by rfl) (pa_cons (pe_ix ix_tup (pv 4) pe_int (fun _ _ => rfl)) (pa_cons (pe_c c_pick hr (by omega) (by rfl) (pa_cons (pv 1) (pa_cons (pe_lst (pa_cons pe_str (pa_cons pe_str pa_nil))) pa_nil))) (pa_cons (pe_op op_shl pe_int (pe_ix ix_list (pv 3) pe_int (fun _ _ => rfl))) pa_nil)))) pa_nil)))))
      (pss_one (ps_if (PW.pt (pw_or (pt_not (pt_val (pe_c c_no_more hr (by omega) (by rfl) (pa_cons (pv 4) (pa_cons (pv 5) (pa_cons (pv 11) (pa_cons (pv 9) pa_nil))))))) (pw_or1 (pt_not (pt_val (pe_c c_no_more hr (by omega) (by rfl) (pa_cons (pv 4) (pa_cons (pv 5) (pa_cons (pv 12) (pa_cons (pv 9) pa_nil)))))))))) (pss_one (ps_ret pe_bl)) pss_nil))))))) pss_nil)))))))))))
      (pss_one (ps_ret pe_bl)))), ?_⟩
  walk_at "rd"
  refine ⟨p, ns, rfl, hp, by omega, fun a l c H0 src0 => ?_⟩
  have h59 : (2 : Nat) ^ 59 = 576460752303423488 := by decide
  have h20 : (2 : Nat) ^ 20 = 1048576 := by decide
  walk_at "rd"
  refine ⟨_, rfl, by decide, by decide, ?_⟩
  refine f_W (n := 12) walk_range (fun i σ H' => ∃ o2 o3 o4 o5 o6 o7 o8 o9 o10 o11 o12 o13 o14 o15, σ = [some (.ref p), some (.ref a), o2, o3, o4, o5, o6, o7, o8, o9, o10, o11, o12, o13, o14, o15] ∧ Src H' a l c (2097152 * (12 - i)))
    ⟨_, _, _, _, _, _, _, _, _, _, _, _, _, _, rfl, src0.le (by omega)⟩ (fun _ _ _ _ _ => trivial) (fun i x σ H0 H1 hi hP y => ?_) (fun σ H1 hP => ?_)
  · obtain ⟨o2, o3, o4, o5, o6, o7, o8, o9, o10, o11, o12, o13, o14, o15, rfl, src⟩ := hP
    obtain ⟨rfl, rfl⟩ := y
    obtain ⟨N, hN⟩ : ∃ N, N = 2097152 * (12 - (i + 1)) := ⟨_, rfl⟩
    have hN2 : 2097152 * (12 - i) = N + 2097152 := by omega
    rw [hN2] at src
    walk_at "rd"
    refine s_newX (by walk_at "sz") (fun p1 H1 hp1 e1 h1 => ?_)
    walk_at "rd"
    refine s_newX (by walk_at "sz") (fun p2 H2 hp2 e2 h2 => ?_)
    walk_at "rd"
    refine s_newX (by walk_at "sz") (fun p3 H3 hp3 e3 h3 => ?_)
    walk_at "rd"
    refine s_newX (by walk_at "sz") (fun p4 H4 hp4 e4 h4 => ?_)
    walk_at "rd"
    refine s_newX (by walk_at "sz") (fun p5 H5 hp5 e5 h5 => ?_)
    walk_at "rd"
    refine s_newX (by walk_at "sz") (fun p6 H6 hp6 e6 h6 => ?_)
    have n1 := src.ne hp1
    have n2 := (src.e0 e1).ne hp2
    have n3 := ((src.e0 e1).e0 e2).ne hp3
    have n4 := (((src.e0 e1).e0 e2).e0 e3).ne hp4
    have n5 := ((((src.e0 e1).e0 e2).e0 e3).e0 e4).ne hp5
    have n6 := (((((src.e0 e1).e0 e2).e0 e3).e0 e4).e0 e5).ne hp6
    have src6 := (((((src.e0 e1).e0 e2).e0 e3).e0 e4).e0 e5).e0 e6
    have x1 := ((((e2.then0 e3).then0 e4).then0 e5).then0 e6).at0 h1
    have x2 := (((e3.then0 e4).then0 e5).then0 e6).at0 h2
    have x3 := ((e4.then0 e5).then0 e6).at0 h3
    have x4 := (e5.then0 e6).at0 h4
    have x5 := e6.at0 h5
    walk_at "rd"
    refine ⟨a, l, c, N + 2097151, p6, _, rfl, h6, n6.1, n6.2.1, (fun z => nomatch z), by walk_at "sz", src6.le (by omega), fun xe H7 hxe e7 src7 => ?_⟩
    obtain ⟨pe, es, e0, er, rfl, hpe7, hpea, hpel, hese, hes⟩ : ∃ pe es e0 er, xe = .ref pe ∧ H7 pe = some (.lst ((es : List Int).map V.int)) ∧ pe ≠ a ∧ pe ≠ l ∧ es = e0 :: er ∧ ExpsOk es := by
      simp only [List.mem_cons, List.not_mem_nil, or_false] at hxe
      rcases hxe with rfl | rfl | rfl | rfl | rfl
      · exact ⟨p1, [5, 6], _, _, rfl, e7.at x1 (ne2 n1.1 n1.2.1), n1.1, n1.2.1, rfl, ⟨(fun z => nomatch z), by decide⟩, by decide⟩
      · exact ⟨p2, [5, 10, 12], _, _, rfl, e7.at x2 (ne2 n2.1 n2.2.1), n2.1, n2.2.1, rfl, ⟨(fun z => nomatch z), by decide⟩, by decide⟩
      · exact ⟨p3, [5, 8, 13], _, _, rfl, e7.at x3 (ne2 n3.1 n3.2.1), n3.1, n3.2.1, rfl, ⟨(fun z => nomatch z), by decide⟩, by decide⟩
      · exact ⟨p4, [12], _, _, rfl, e7.at x4 (ne2 n4.1 n4.2.1), n4.1, n4.2.1, rfl, ⟨(fun z => nomatch z), by decide⟩, by decide⟩
      · exact ⟨p5, [27, 40], _, _, rfl, e7.at x5 (ne2 n5.1 n5.2.1), n5.1, n5.2.1, rfl, ⟨(fun z => nomatch z), by decide⟩, by decide⟩
    have he0 := hes.2 e0 (by rw [hese]; exact List.mem_cons_self)
    clear x1 x2 x3 x4 x5 h1 h2 h3 h4 h5 h6 hxe hp1 hp2 hp3 hp4 hp5 hp6 n1 n2 n3 n4 n5 n6 src6
    clear e1 e2 e3 e4 e5 e6 e7
    walk_at "rd"
    refine ifd (fun ct => ?d1) (fun ct => ?d2)
    case' d1 =>
      walk_at "rd"
      refine ⟨a, l, c, N + 1048575, pe, es, rfl, hpe7, hpea, hpel, hes, src7.le (by omega), fun v ms ps H8 htr hms hv e8 src8 => ?_⟩
    case' d2 =>
      walk_at "rd"
      refine ⟨a, l, c, N + 1048575, pe, es, rfl, hpe7, hpea, hpel, hes, src7.le (by omega), fun v ms ps H8 htr hms hv e8 src8 => ?_⟩
    all_goals
      have hcn := htr.cn
      have hdp := htr.dp
      have hpe8 := e8.at hpe7 (ne2 hpea hpel)
      have hpl := plss_len ps
      clear hpe7 e8
      walk_at "rd"
      refine ⟨a, l, c, N + 1047575, rfl, src8.le (by omega), fun v9 rf0 re0 H9 hrf0 hre0 hfl0 hel0 hv9 e9 src9 => ?_⟩
      have hv9t := hv.ext e9
      have hpe9 := e9.at hpe8 (ne2 hpea hpel)
      have hv9u := hv9t
      unfold encT at hv9u
      unfold encRR at hv9
      clear hv hpe8
      walk_at "rd"
      rename_i pv9 hpv9
      refine ⟨_, ps, kF, rfl, hpv9, hdp, by omega, fun p10 H10 hp10 e10 h10 => ?_⟩
      have hv10 := hv9.e0 e10
      walk_at "rd"
      refine s_ixAnyD hv10 rfl (fun rv10 hrv10 => ?_)
      walk_at "rd"
      refine s_p40 ?_
      refine ⟨a, l, c, N + 1047000, p10, szs kF ps, _, rf0, 1099511627776, rfl, h10, Nat.le_trans (szs_len kF ps) hcn, fit_sz htr kF, hrv10, hrf0, by omega, by decide, by decide, (src9.e0 e10).le (by omega), fun v11 rf H11 hrf hfl hv11 e11 src11 => ?_⟩
      have e911 := (Ext.mono0 (M := [a, l]) e10).trans e11
      have hv11t := hv9t.ext e911
      have hv11u := hv11t
      unfold encT at hv11u
      have hrooms11 := hv9.ext e911
      have hpe11 := e911.at hpe9 (ne2 hpea hpel)
      clear hv9t hv9u hv9 hpe9 hv10 hrv10 hpv9 e911
      walk_at "rd"
      rename_i pv11 hpv11
      refine ⟨_, ps, kN, rfl, hpv11, hdp, by omega, fun p12 H12 hp12 e12 h12 => ?_⟩
      have hrooms12 := hrooms11.e0 e12
      walk_at "rd"
      refine s_ixAnyD hrooms12 rfl (fun rv12 hrv12 => ?_)
      walk_at "rd"
      refine ⟨a, l, c, N + 1046000, p12, szs kN ps, _, re0, 0, rfl, h12, Nat.le_trans (szs_len kN ps) hcn, fit_sz htr kN, hrv12, hre0, by omega, by decide, by decide, (src11.e0 e12).le (by omega), fun v13 re H13 hre hel hv13 e13 src13 => ?_⟩
      have e1113 := (Ext.mono0 (M := [a, l]) e12).trans e13
      have hv13t := hv11t.ext e1113
      have hv13f := hv11.ext e1113
      have hpe13 := e1113.at hpe11 (ne2 hpea hpel)
      clear hv11t hv11u hrooms11 hrooms12 hpe11 hrv12 hpv11 e1113
      walk_at "rd"
      refine s_newX (by walk_at "sz") (fun r14 H14 hr14 e14 h14 => ?_)
      have hv14t := hv13t.e0 e14
      have hv14u := hv14t
      unfold encT at hv14u
      have hf14 := hv13f.e0 e14
      have hn14 := hv13.e0 e14
      have hpe14 := e14.at0 hpe13
      have src14 := src13.e0 e14
      clear hv13t hpe13 src13 hv13f hv13
      walk_at "rd"
      rename_i pv14 hpv14
      refine ⟨a, l, c, N + 980000, _, ps, _, rf, re, rfl, hpv14, htr, by omega, ⟨r14, _, _, rfl, .inr h14, hf14, hn14⟩, hrf, hre, hfl, hel, src14.le (by omega), fun nf H15 e15 src15 => ?_, fun qd xd rs H15 hqd e15 h15 hrs hnm hA src15 fit => ?_⟩
      · have hv15 := hv14t.ext e15
        have hr15 := e15.tup _ _ h14
        have hf15 := hf14.ext e15
        have hn15 := hn14.ext e15
        walk_at "rd"
        refine ⟨_, _, ms, ps, rf, re, rfl, hv15, by omega, hdp, .tup hr15 (.two hf15 hn15), by omega, by omega, fun ft => absurd ft nf, fun _ tr H16 e16 => ?_⟩
        have hv16 := hv15.e0 e16
        have hv16u := hv16
        unfold encT at hv16u
        clear hv14u hpv14 hv14t
        walk_at "rd"
        refine ifn0 rfl ?_
        walk_at "rd"
        rename_i pvA hpvA
        refine s_newD (by walk_at "sz") (ds := []) .nil (fun uvA HaA eaA huvA => ?_)
        walk_at "rd"
        refine ⟨_, _, ps, [], rfl, hpvA.e0 eaA, huvA, by decide, by omega, by omega, fun LPA xlA LLA HbA ebA hLPA hbA hLA hPlA => ?_⟩
        have hxllA : xlA.length = (plss ps).length := by rw [hLA.len, hPlA.len]
        walk_at "rd"
        refine lc_W walk_list [] (fun i acc _ => acc = ((((plss ps).take i).filter Part.isDev).map Part.nm).map V.str) (fun H' e => SqL.of (e.at0 hbA)) (fun _ _ => rfl) (fun i x DD acc Hc Hd hi hDD e hacc hl hR y => ?_) (fun LNA accA HcA hLNA ecA haccA hlA hRA => ?_)
        · obtain ⟨rfl, hx⟩ := y
          obtain ⟨d, hd, hxd⟩ := hLA.getV hx
          obtain ⟨path, p, hp, rfl⟩ := hPlA.get hd
          obtain ⟨tb, ts, rfl, htb, hts⟩ := (hxd.e0 e).tupE
          subst hR
          cases hts with
          | cons g1 g2 => cases g2 with
            | cons g2 g3 =>
              cases g3
              cases p with
              | emp => exact absurd rfl (pls_ne15 (mem_at hp))
              | dev nm as =>
                obtain ⟨t, u2, us, rfl, ht, hu2, hus⟩ := g2.devE
                walk_at "rd"
                refine ⟨rfl, ?_⟩
                walk_at "rd"
                refine ifd1 rfl ?_
                walk_at "rd"
                refine lc_put hDD e hacc hl (by omega) (fun _ _ => ?_)
                rw [take1 hp, List.filter_append, List.map_append, List.map_append]
                rfl
              | br nm ms2 qs =>
                obtain ⟨t, m, u2, us, rfl, ht, hm, hu2, hus⟩ := g2.brE
                walk_at "rd"
                refine ⟨rfl, ?_⟩
                walk_at "rd"
                refine ifd0 (by decide) ?_
                refine lc_skip e hacc hl ?_
                rw [take1 hp, List.filter_append, List.map_append, List.map_append]
                show _ = _ ++ ([] : List V)
                rw [List.append_nil]
        rw [hxllA, List.take_length] at hRA
        have hLNsA : HcA LNA = some (.lst ((devN ps).map V.str)) := by rw [haccA, hRA]; rfl
        have eNA := (eaA.then0 ebA).then0 ecA
        walk_at "rd"
        exact ⟨_, _, _, _, _, _, _, _, _, _, _, _, _, _, rfl, ((src15.e0 e16).e0 eNA).le (by omega)⟩
      · have hv15 := hv14t.ext e15
        have hr15 := e15.tup _ _ h14
        have hf15 := hf14.ext e15
        have hn15 := hn14.ext e15
        have hpe15 := e15.at hpe14 (ne2 hpea hpel)
        walk_at "rd"
        refine ⟨_, _, ms, ps, rf, re, rfl, hv15, by omega, hdp, .tup hr15 (.two hf15 hn15), by omega, by omega, fun _ H16 e16 => ?_, fun nf _ _ _ => absurd fit nf⟩
        have hv16 := hv15.e0 e16
        have hv16u := hv16
        unfold encT at hv16u
        have hrooms16 : Dt H16 (.ref r14) (encRR rf re) := (Dt.tup hr15 (.two hf15 hn15)).e0 e16
        have h16 := e16.at0 h15
        have hrs16 := hrs.e0 e16
        have hpe16 := e16.at0 hpe15
        have src16 := src15.e0 e16
        clear hv14u hpv14 hv14t hv15 hr15 hf15 hn15 hpe15 h15 hrs hpe14 hf14 hn14 h14
        walk_at "rd"
        refine ifn0 rfl ?_
        walk_at "rd"
        rename_i pvB hpvB
        refine s_newD (by walk_at "sz") (ds := []) .nil (fun uvB HaB eaB huvB => ?_)
        walk_at "rd"
        refine ⟨_, _, ps, [], rfl, hpvB.e0 eaB, huvB, by decide, by omega, by omega, fun LPB xlB LLB HbB ebB hLPB hbB hLB hPlB => ?_⟩
        have hxllB : xlB.length = (plss ps).length := by rw [hLB.len, hPlB.len]
        walk_at "rd"
        refine lc_W walk_list [] (fun i acc _ => acc = ((((plss ps).take i).filter Part.isDev).map Part.nm).map V.str) (fun H' e => SqL.of (e.at0 hbB)) (fun _ _ => rfl) (fun i x DD acc Hc Hd hi hDD e hacc hl hR y => ?_) (fun LNB accB HcB hLNB ecB haccB hlB hRB => ?_)
        · obtain ⟨rfl, hx⟩ := y
          obtain ⟨d, hd, hxd⟩ := hLB.getV hx
          obtain ⟨path, p, hp, rfl⟩ := hPlB.get hd
          obtain ⟨tb, ts, rfl, htb, hts⟩ := (hxd.e0 e).tupE
          subst hR
          cases hts with
          | cons g1 g2 => cases g2 with
            | cons g2 g3 =>
              cases g3
              cases p with
              | emp => exact absurd rfl (pls_ne15 (mem_at hp))
              | dev nm as =>
                obtain ⟨t, u2, us, rfl, ht, hu2, hus⟩ := g2.devE
                walk_at "rd"
                refine ⟨rfl, ?_⟩
                walk_at "rd"
                refine ifd1 rfl ?_
                walk_at "rd"
                refine lc_put hDD e hacc hl (by omega) (fun _ _ => ?_)
                rw [take1 hp, List.filter_append, List.map_append, List.map_append]
                rfl
              | br nm ms2 qs =>
                obtain ⟨t, m, u2, us, rfl, ht, hm, hu2, hus⟩ := g2.brE
                walk_at "rd"
                refine ⟨rfl, ?_⟩
                walk_at "rd"
                refine ifd0 (by decide) ?_
                refine lc_skip e hacc hl ?_
                rw [take1 hp, List.filter_append, List.map_append, List.map_append]
                show _ = _ ++ ([] : List V)
                rw [List.append_nil]
        rw [hxllB, List.take_length] at hRB
        have hLNsB : HcB LNB = some (.lst ((devN ps).map V.str)) := by rw [haccB, hRB]; rfl
        have eNB := (eaB.then0 ebB).then0 ecB
        walk_at "rd"
        have hv17 := hv16.e0 eNB
        have hr17 := hrooms16.e0 eNB
        have h17 := eNB.at0 h16
        have hrs17 := hrs16.e0 eNB
        have hpe17 := eNB.at0 hpe16
        have src17 := src16.e0 eNB
        have nLN := (src16.e0 (eaB.then0 ebB)).ne hLNB
        clear hv16 hv16u hpvB hrooms16 h16 hrs16 hpe16 src16 haccB hbB hLB hPlB eNB eaB ebB ecB huvB e16
        refine s_newX (by walk_at "sz") (fun pz H18 hpz e18 hz18 => ?_)
        refine s_neNil (e18.at0 hLNsB) DtAll.strs15 (plain_strs (devN_ok htr.mx)) hz18 ?_
        walk_at "rd"
        refine ifn (fun cn => ?_) (fun cn => ?_)
        · have hdn : devN ps ≠ [] := fun z => cn (by rw [z]; rfl)
          have hdl : (devN ps).length ≤ 63 := by
            unfold devN
            rw [List.length_map]
            exact Nat.le_trans (List.length_filter_le _ _) (by omega)
          walk_at "rd"
          refine s_tupOfD (e18.at0 h17) (hrs17.e0 e18) (fun rv H19 e19 hrv => ?_)
          have e1719 := e18.then0 e19
          have hLN19 := e1719.at0 hLNsB
          walk_at "rd"
          refine ⟨a, l, c, N + 900000, LNB, _, rfl, hLN19, nLN.1, nLN.2.1, (fun z => hdn (List.map_eq_nil_iff.mp z)), by rw [List.length_map]; omega, (src17.e0 e1719).le (by omega), fun xn H20 hxn e20 src20 => ?_⟩
          obtain ⟨name, hname, rfl⟩ := List.mem_map.mp hxn
          walk_at "rd"
          refine s_newX (by walk_at "sz") (fun tq H21 htq e21 h21 => ?_)
          have e1721 := ((Ext.mono0 (M := [a, l]) e1719).trans e20).then0 e21
          have e1921 := e20.then0 e21
          have hv21 := hv17.ext e1721
          have hr21 := hr17.ext e1721
          have hrv21 := hrv.ext e1921
          have hLN21 := e1921.at hLN19 (ne2 nLN.1 nLN.2.1)
          have hpe21 := e1721.at hpe17 (ne2 hpea hpel)
          have src21 := src20.e0 e21
          clear hv17 hr17 hrs17 h17 hrv hLN19 hpe17 src17 src20 e18 e19 e20 e21 e1719 e1721 e1921 hLNsB hz18 hpz hxn
          obtain ⟨AA, hag⟩ := rows_by rs (by rw [hnm]; exact htr.nd)
          have hasg := hA AA hag
          have hrok := rows_ok hag hnm hcn hasg.all (lsAll_refl ps)
          have hrd : rs.map Row.enc = rowsD AA ps := by
            unfold rowsD
            conv => lhs; rw [rows_eq hag hnm]
            rw [List.map_map]
            rfl
          walk_at "rd"
          refine ⟨_, _, _, ms, ps, rf, re, AA, rfl, hv21, by omega, hdp, hr21, by omega, by omega, by rw [← hrd]; exact hrv21, hasg, fun H22 e22 => ?_⟩
          walk_at "rd"
          refine ifn0 rfl ?_
          walk_at "rd"
          refine ⟨_, _, ms, ps, rs, AA, rfl, hv21.e0 e22, hcn, hdp, hrv21.e0 e22, hrok, hasg.all, fun H23 e23 => ?_⟩
          have e2123 := e22.then0 e23
          have hv23 := hv21.e0 e2123
          have hv23u := hv23
          unfold encT at hv23u
          have hr23 := hr21.e0 e2123
          have hrv23 := hrv21.e0 e2123
          have hLN23 := e2123.at0 hLN21
          have hpe23 := e2123.at0 hpe21
          have src23 := src21.e0 e2123
          clear hv21 hr21 hrv21 hLN21 hpe21 src21 e22 e23 e2123
          walk_at "rd"
          rename_i mk23 hmk23 pv23 hpv23
          refine ⟨_, ps, name, rfl, hpv23, by omega, by omega, fun wv H24 e24 hwv => ?_⟩
          walk_at "rd"
          refine s_newD (ds := [.str "tree", .tuple (ms.map .str), .tuple (encs (woPs name ps))]) (by walk_at "sz") (.cons (.str _) (.two (hmk23.e0 e24) hwv)) (fun lv H25 e25 hlv => ?_)
          have hlv : Dt H25 lv (encT ms (woPs name ps)) := hlv
          have e2325 := e24.then0 e25
          have hv25 := hv23.e0 e2325
          have hLN25 := e2325.at0 hLN23
          have hr25 := hr23.e0 e2325
          have hrv25 := hrv23.e0 e2325
          have hpe25 := e2325.at0 hpe23
          have src25 := src23.e0 e2325
          clear hv23 hv23u hpv23 hLN23 hr23 hrv23 hpe23 src23 e24 e25 e2325 hwv hmk23
          walk_at "rd"
          refine lc_W walk_list [] (fun i acc _ => acc = (((devN ps).take i).filter fun s : Str => !decide (s = name)).map V.str) (fun H' e => SqL.of (e.at0 hLN25)) (fun _ _ => rfl) (fun i x DD acc Hc Hd hi hDD e hacc hl hR y => ?_) (fun LO accO H26 hLO e26 haccO hlO hRO => ?_)
          · obtain ⟨rfl, hx⟩ := y
            obtain ⟨s1, hs1, rfl⟩ := map_at hx
            rw [List.length_map] at hi
            subst hR
            walk_at "rd"
            refine ⟨rfl, ?_⟩
            walk_at "rd"
            refine ifn (fun c1 => ?_) (fun c1 => ?_)
            · walk_at "rd"
              refine lc_put hDD e hacc hl (by omega) (fun _ _ => ?_)
              rw [take1 hs1, List.filter_append, List.filter_cons, if_pos (show (!decide (s1 = name)) = true by simpa using c1), List.map_append]
              rfl
            · refine lc_skip e hacc hl ?_
              rw [take1 hs1, List.filter_append, List.filter_cons, if_neg (show ¬ (!decide (s1 = name)) = true by simpa using c1), List.filter_nil, List.append_nil]
          rw [List.length_map, List.take_length] at hRO
          subst hRO
          have hon : onlyPs ((devN ps).filter fun s : Str => !decide (s = name)) ps = woPs name ps := onlys_wo _ name fun q hq hd => by
            rw [List.mem_filter]
            refine ⟨fun z => by simpa using z.2, fun z => ⟨List.mem_map.mpr ⟨q, List.mem_filter.mpr ⟨hq, hd⟩, rfl⟩, by simpa using z⟩⟩
          walk_at "rd"
          refine s_tupOfD haccO DtAll.strs15 (fun ov H27 e27 hov => ?_)
          have e2527 := e26.then0 e27
          walk_at "rd"
          refine ⟨_, _, _, ms, ps, rfl, hov, hv25.e0 e2527, hdp, by omega, fun ov2 H28 e28 hov2 => ?_⟩
          rw [hon] at hov2
          have e2528 := e2527.then0 e28
          have hlv28 := hlv.e0 e2528
          have hwls := wos_ls name ps
          have hwc := lsAll_cnt hwls
          have hwo := wos_ok name htr.ok
          have hsh := shaped_tree (ps := woPs name ps) hms (PsMx.sok name htr.mx) hwo (by omega)
          walk_at "rd"
          refine s_neD hov2 hlv28 hsh hsh ?_
          rw [eqv_tree]
          have hv28 := hv25.e0 e2528
          have hv28u := hv28
          unfold encT at hv28u
          have hr28 := hr25.e0 e2528
          have hrv28 := hrv25.e0 e2528
          have hpe28 := e2528.at0 hpe25
          have src28 := src25.e0 e2528
          clear hv25 hr25 hrv25 hpe25 src25 hlv e26 e27 e28 e2527 e2528 hov hov2 haccO hLN25
          walk_at "rd"
          rename_i mk28 hmk28 pv28 hpv28
          refine s_newX (by walk_at "sz") (fun kl H29 hkl e29 h29 => ?_)
          have nkl := src28.ne hkl
          walk_at "rd"
          refine ⟨a, l, c, N + 800000, kl, _, rfl, h29, nkl.1, nkl.2.1, (fun z => nomatch z), by walk_at "sz", (src28.e0 e29).le (by omega), fun xk H30 hxk e30 src30 => ?_⟩
          obtain ⟨kk, rfl, hkk⟩ : ∃ kk : Str, xk = .str kk ∧ (kk = kF ∨ kk = kN) := by
            simp only [List.mem_cons, List.not_mem_nil, or_false] at hxk
            rcases hxk with rfl | rfl
            · exact ⟨_, rfl, .inl rfl⟩
            · exact ⟨_, rfl, .inr rfl⟩
          have e2830 := (Ext.mono0 (M := [a, l]) e29).trans e30
          have hpe30 := e2830.at hpe28 (ne2 hpea hpel)
          rw [hese] at hpe30
          walk_at "rd"
          refine s_ixL hpe30 (atI_zero _ _) ?_
          walk_at "rd"
          refine s_I ⟨by omega, by omega, by decide⟩ ?_
          have hph := p2_half he0.1
          have hps : 0 ≤ 1 * (2 : Int) ^ e0.toNat := by omega
          walk_at "rd"
          refine ⟨_, ps, kk, _, rfl, hpv28.ext e2830, by omega, by omega, hkk, htr.ok, fun hav H31 e31 hhav => ?_⟩
          walk_at "rd"
          have e2831 := e2830.then0 e31
          refine s_newD (ds := [.str "tree", .tuple (ms.map .str), .tuple (encs (haPs kk (1 * (2 : Int) ^ e0.toNat) ps))]) (by walk_at "sz") (.cons (.str _) (.two (hmk28.ext e2831) hhav)) (fun sv H32 e32 hsv => ?_)
          have hsv : Dt H32 sv (encT ms (haPs kk (1 * (2 : Int) ^ e0.toNat) ps)) := hsv
          have e2832 := e2831.then0 e32
          have hv32 := hv28.ext e2832
          have hr32 := hr28.ext e2832
          have hrv32 := hrv28.ext e2832
          have hlv32 := hlv28.ext e2832
          have src32 := (src30.e0 e31).e0 e32
          clear hv28 hv28u hr28 hrv28 hlv28 hpe28 src28 src30 e29 e30 e31 e32 e2830 e2831 e2832 hpv28 hmk28 hhav h29
          have hhls := has_ls kk hps ps
          have hhc := lsAll_cnt hhls
          have hho := has_ok kk hph htr.ok
          walk_at "rd"
          refine ⟨_, _, _, _, ms, ps, woPs name ps, rf, re, rs, AA, rfl, hv32, hr32, hlv32, hrv32, htr, by omega, by omega, hwo, htr.nd.sublist (lsAll_nms hwls), hwls, rows_ok hag hnm hcn hasg.all hwls, hasg, hrf, hre, hfl, hel, fit.1, fit.2, fun H33 e33 => ?_⟩
          walk_at "rd"
          refine ⟨_, _, _, _, ms, ps, haPs kk (1 * (2 : Int) ^ e0.toNat) ps, rf, re, rs, AA, rfl, hv32.e0 e33, hr32.e0 e33, hsv.e0 e33, hrv32.e0 e33, htr, by omega, by omega, hho, htr.nd.sublist (lsAll_nms hhls), hhls, rows_ok hag hnm hcn hasg.all hhls, hasg, hrf, hre, hfl, hel, fit.1, fit.2, fun H34 e34 => ?_⟩
          walk_at "rd"
          exact ⟨_, _, _, _, _, _, _, _, _, _, _, _, _, _, rfl, ((src32.e0 e33).e0 e34).le (by omega)⟩
        · walk_at "rd"
          exact ⟨_, _, _, _, _, _, _, _, _, _, _, _, _, _, rfl, (src17.e0 e18).le (by omega)⟩
  · obtain ⟨o2, o3, o4, o5, o6, o7, o8, o9, o10, o11, o12, o13, o14, o15, rfl, src⟩ := hP
    walk_at "rd"
    exact q H1
end
end Bw

/-! all defs together -/
namespace Bw
open PySem PySem.Spec PyProof.Rows L2
open C8 (Cal pe_c pe_gc)
section
variable {P : Program} {w : World} {K : PySem.W.Frag} {mg : Str → Option Value} {base : Heap} {kd : Addr}
theorem law_all (bi : Bi mg kd) (hK : Kd K kd)
    (T_is_integer : At K mg "is_integer" sx_is_integer ["value", "low", "high"])
    (T_is_size : At K mg "is_size" sx_is_size ["value"])
    (T_is_block : At K mg "is_block" sx_is_block ["value"])
    (T_capacity : At K mg "capacity" sx_capacity ["room", "size"])
    (T_wanted_from : At K mg "wanted_from" sx_wanted_from ["sizes", "size"])
    (T_reason : At K mg "reason" sx_reason ["room", "sizes"])
    (T_has_form : At K mg "has_form" sx_has_form ["value", "word", "many"])
    (T_is_device : At K mg "is_device" sx_is_device ["part"])
    (T_is_bridge : At K mg "is_bridge" sx_is_bridge ["part"])
    (T_parts_of : At K mg "parts_of" sx_parts_of ["part"])
    (T_placed_in : At K mg "placed_in" sx_placed_in ["parts", "above"])
    (T_placed : At K mg "placed" sx_placed ["tree"])
    (T_with_parts : At K mg "with_parts" sx_with_parts ["part", "parts"])
    (T_part_only : At K mg "part_only" sx_part_only ["part", "names"])
    (T_only : At K mg "only" sx_only ["tree", "names"])
    (T_power_from : At K mg "power_from" sx_power_from ["number"])
    (T_area_sizes : At K mg "area_sizes" sx_area_sizes ["device", "kind"])
    (T_least_size : At K mg "least_size" sx_least_size ["bridge", "kind"])
    (T_sizes_on : At K mg "sizes_on" sx_sizes_on ["parts", "kind"])
    (T_bridges_of : At K mg "bridges_of" sx_bridges_of ["tree"])
    (T_least_windows : At K mg "least_windows" sx_least_windows ["tree"])
    (T_wanted : At K mg "wanted" sx_wanted ["tree", "kind"])
    (T_refusal : At K mg "refusal" sx_refusal ["tree", "rooms"])
    (T_is_window : At K mg "is_window" sx_is_window ["bridge", "kind", "value"])
    (T_is_row : At K mg "is_row" sx_is_row ["part", "value"])
    (T_blocks_of : At K mg "blocks_of" sx_blocks_of ["part", "row", "kind"])
    (T_blocks_on : At K mg "blocks_on" sx_blocks_on ["parts", "rows", "kind"])
    (T_lies_within : At K mg "lies_within" sx_lies_within ["block", "other"])
    (T_are_apart : At K mg "are_apart" sx_are_apart ["blocks"])
    (T_are_placed : At K mg "are_placed" sx_are_placed ["blocks", "room"])
    (T_room_below : At K mg "room_below" sx_room_below ["row", "kind"])
    (T_assignment_holds : At K mg "assignment_holds" sx_assignment_holds ["tree", "rooms", "value"])
    (T_source : At K mg "_law_source" sx_source ["_law_script"])
    (T_below : At K mg "_law_below" sx_below ["_law_source_here", "_law_many"])
    (T_pick : At K mg "_law_pick" sx_pick ["_law_source_here", "_law_items"])
    (T_area : At K mg "_law_area" sx_area ["_law_source_here", "_law_exps"])
    (T_part : At K mg "_law_part" sx_part ["_law_source_here", "_law_numbers", "_law_above", "_law_exps"])
    (T_tree : At K mg "_law_tree" sx_tree ["_law_source_here", "_law_devices", "_law_bridges", "_law_exps"])
    (T_deep : At K mg "_law_deep" sx_deep ["_law_source_here", "_law_exps"])
    (T_lplaced : At K mg "_law_placed" sx_lplaced ["_law_parts", "_law_path"])
    (T_sizes : At K mg "_law_sizes" sx_sizes ["_law_parts", "_law_kind"])
    (T_least : At K mg "_law_least" sx_least ["_law_bridge", "_law_kind"])
    (T_units : At K mg "_law_units" sx_units ["_law_source_here", "_law_many"])
    (T_room : At K mg "_law_room" sx_room ["_law_units_here", "_law_unit", "_law_first"])
    (T_rooms : At K mg "_law_rooms" sx_rooms ["_law_source_here"])
    (T_halves : At K mg "_law_halves" sx_halves ["_law_one", "_law_other"])
    (T_both : At K mg "_law_both" sx_both ["_law_room_here", "_law_block"])
    (T_fitting : At K mg "_law_fitting" sx_fitting ["_law_source_here", "_law_sizes_here", "_law_room_here", "_law_first"])
    (T_free : At K mg "_law_free" sx_free ["_law_spans", "_law_size"])
    (T_cut : At K mg "_law_cut" sx_cut ["_law_spans", "_law_start", "_law_size"])
    (T_turns : At K mg "_law_turns" sx_turns ["_law_sizes_here"])
    (T_put : At K mg "_law_put" sx_put ["_law_source_here", "_law_room_here", "_law_sizes_here"])
    (T_grown : At K mg "_law_grown" sx_grown ["_law_source_here", "_law_parts", "_law_kind", "_law_room_here"])
    (T_drawn : At K mg "_law_drawn" sx_drawn ["_law_source_here", "_law_parts", "_law_rooms_here"])
    (T_without : At K mg "_law_without" sx_without ["_law_parts", "_law_name"])
    (T_halved : At K mg "_law_halved" sx_halved ["_law_parts", "_law_kind", "_law_size"])
    (T_left : At K mg "_law_left" sx_left ["_law_tree_here", "_law_rows"])
    (T_no_more : At K mg "_law_no_more" sx_no_more ["_law_tree_here", "_law_rooms_here", "_law_less", "_law_rows"])
    (T_windows_right : At K mg "_law_windows_right" sx_windows_right ["_law_tree_here", "_law_rows"])
    {f : Addr} {fd : FuncData} (F : Fun K "law" "law" sx_law f fd) : FnOk P w K mg base CX0 100 f fd ["_law_script"] (spLaw K) := by
  have h_is_integer := ok_is_integer (P := P) (w := w) (K := K) (mg := mg) (base := base) (bi := bi) (T := T_is_integer) 
  have h_is_size := ok_is_size (P := P) (w := w) (K := K) (mg := mg) (base := base) (bi := bi) (T := T_is_size) (c_is_integer := h_is_integer) 
  have h_is_block := ok_is_block (P := P) (w := w) (K := K) (mg := mg) (base := base) (bi := bi) (T := T_is_block) (c_is_integer := h_is_integer) (c_is_size := h_is_size) 
  have h_capacity := ok_capacity (P := P) (w := w) (K := K) (mg := mg) (base := base) (bi := bi) (T := T_capacity) 
  have h_wanted_from := ok_wanted_from (P := P) (w := w) (K := K) (mg := mg) (base := base) (bi := bi) (T := T_wanted_from) 
  have h_reason := ok_reason (P := P) (w := w) (K := K) (mg := mg) (base := base) (k := 1) (bi := bi) (T := T_reason) (c_wanted_from := h_wanted_from) (c_capacity := h_capacity) 
  have h_has_form := ok_has_form (P := P) (w := w) (K := K) (mg := mg) (base := base) (k := 0) (bi := bi) (T := T_has_form) 
  have h_is_device := ok_is_device (P := P) (w := w) (K := K) (mg := mg) (base := base) (k := 1) (bi := bi) (T := T_is_device) (c_has_form := h_has_form) 
  have h_is_bridge := ok_is_bridge (P := P) (w := w) (K := K) (mg := mg) (base := base) (k := 1) (bi := bi) (T := T_is_bridge) (c_has_form := h_has_form) 
  have h_parts_of := ok_parts_of (P := P) (w := w) (K := K) (mg := mg) (base := base) (k := 2) (bi := bi) (T := T_parts_of) (c_is_device := h_is_device) 
  have h_placed_in0 := ok_placed_in0 (P := P) (w := w) (K := K) (mg := mg) (base := base) (k := 0) (T := T_placed_in) 
  have h_placed_in1 := ok_placed_in (P := P) (w := w) (K := K) (mg := mg) (base := base) (k := 3) (bi := bi) (T := T_placed_in) (c_parts_of := h_parts_of) (c_placed_in := cal_mono h_placed_in0 (by decide)) (d := 0)
  have h_placed_in2 := ok_placed_in (P := P) (w := w) (K := K) (mg := mg) (base := base) (k := 4) (bi := bi) (T := T_placed_in) (c_parts_of := cal_mono h_parts_of (by decide)) (c_placed_in := h_placed_in1) (d := 1)
  have h_placed_in3 := ok_placed_in (P := P) (w := w) (K := K) (mg := mg) (base := base) (k := 5) (bi := bi) (T := T_placed_in) (c_parts_of := cal_mono h_parts_of (by decide)) (c_placed_in := h_placed_in2) (d := 2)
  have h_placed_in4 := ok_placed_in (P := P) (w := w) (K := K) (mg := mg) (base := base) (k := 6) (bi := bi) (T := T_placed_in) (c_parts_of := cal_mono h_parts_of (by decide)) (c_placed_in := h_placed_in3) (d := 3)
  have h_placed_in5 := ok_placed_in (P := P) (w := w) (K := K) (mg := mg) (base := base) (k := 7) (bi := bi) (T := T_placed_in) (c_parts_of := cal_mono h_parts_of (by decide)) (c_placed_in := h_placed_in4) (d := 4)
  have h_placed_in6 := ok_placed_in (P := P) (w := w) (K := K) (mg := mg) (base := base) (k := 8) (bi := bi) (T := T_placed_in) (c_parts_of := cal_mono h_parts_of (by decide)) (c_placed_in := h_placed_in5) (d := 5)
  have h_placed_in7 := ok_placed_in (P := P) (w := w) (K := K) (mg := mg) (base := base) (k := 9) (bi := bi) (T := T_placed_in) (c_parts_of := cal_mono h_parts_of (by decide)) (c_placed_in := h_placed_in6) (d := 6)
  have h_placed_in8 := ok_placed_in (P := P) (w := w) (K := K) (mg := mg) (base := base) (k := 10) (bi := bi) (T := T_placed_in) (c_parts_of := cal_mono h_parts_of (by decide)) (c_placed_in := h_placed_in7) (d := 7)
  have h_placed := ok_placed (P := P) (w := w) (K := K) (mg := mg) (base := base) (k := 11) (bi := bi) (T := T_placed) (c_parts_of := cal_mono h_parts_of (by decide)) (c_placed_in := h_placed_in8) 
  have h_with_parts := ok_with_parts (P := P) (w := w) (K := K) (mg := mg) (base := base) (k := 0) (bi := bi) (T := T_with_parts) 
  have h_part_only0 := ok_part_only0 (P := P) (w := w) (K := K) (mg := mg) (base := base) (k := 0) (T := T_part_only) 
  have h_part_only1 := ok_part_only (P := P) (w := w) (K := K) (mg := mg) (base := base) (k := 3) (bi := bi) (T := T_part_only) (c_is_device := cal_mono h_is_device (by decide)) (c_with_parts := cal_mono h_with_parts (by decide)) (c_parts_of := h_parts_of) (c_part_only := cal_mono h_part_only0 (by decide)) (dd := 0)
  have h_part_only2 := ok_part_only (P := P) (w := w) (K := K) (mg := mg) (base := base) (k := 4) (bi := bi) (T := T_part_only) (c_is_device := cal_mono h_is_device (by decide)) (c_with_parts := cal_mono h_with_parts (by decide)) (c_parts_of := cal_mono h_parts_of (by decide)) (c_part_only := h_part_only1) (dd := 1)
  have h_part_only3 := ok_part_only (P := P) (w := w) (K := K) (mg := mg) (base := base) (k := 5) (bi := bi) (T := T_part_only) (c_is_device := cal_mono h_is_device (by decide)) (c_with_parts := cal_mono h_with_parts (by decide)) (c_parts_of := cal_mono h_parts_of (by decide)) (c_part_only := h_part_only2) (dd := 2)
  have h_part_only4 := ok_part_only (P := P) (w := w) (K := K) (mg := mg) (base := base) (k := 6) (bi := bi) (T := T_part_only) (c_is_device := cal_mono h_is_device (by decide)) (c_with_parts := cal_mono h_with_parts (by decide)) (c_parts_of := cal_mono h_parts_of (by decide)) (c_part_only := h_part_only3) (dd := 3)
  have h_part_only5 := ok_part_only (P := P) (w := w) (K := K) (mg := mg) (base := base) (k := 7) (bi := bi) (T := T_part_only) (c_is_device := cal_mono h_is_device (by decide)) (c_with_parts := cal_mono h_with_parts (by decide)) (c_parts_of := cal_mono h_parts_of (by decide)) (c_part_only := h_part_only4) (dd := 4)
  have h_part_only6 := ok_part_only (P := P) (w := w) (K := K) (mg := mg) (base := base) (k := 8) (bi := bi) (T := T_part_only) (c_is_device := cal_mono h_is_device (by decide)) (c_with_parts := cal_mono h_with_parts (by decide)) (c_parts_of := cal_mono h_parts_of (by decide)) (c_part_only := h_part_only5) (dd := 5)
  have h_part_only7 := ok_part_only (P := P) (w := w) (K := K) (mg := mg) (base := base) (k := 9) (bi := bi) (T := T_part_only) (c_is_device := cal_mono h_is_device (by decide)) (c_with_parts := cal_mono h_with_parts (by decide)) (c_parts_of := cal_mono h_parts_of (by decide)) (c_part_only := h_part_only6) (dd := 6)
  have h_part_only8 := ok_part_only (P := P) (w := w) (K := K) (mg := mg) (base := base) (k := 10) (bi := bi) (T := T_part_only) (c_is_device := cal_mono h_is_device (by decide)) (c_with_parts := cal_mono h_with_parts (by decide)) (c_parts_of := cal_mono h_parts_of (by decide)) (c_part_only := h_part_only7) (dd := 7)
  have h_only := ok_only (P := P) (w := w) (K := K) (mg := mg) (base := base) (k := 11) (bi := bi) (T := T_only) (c_part_only := h_part_only8) 
  have h_power_from := ok_power_from (P := P) (w := w) (K := K) (mg := mg) (base := base) (k := 0) (bi := bi) (T := T_power_from) 
  have h_area_sizes := ok_area_sizes (P := P) (w := w) (K := K) (mg := mg) (base := base) (k := 0) (bi := bi) (T := T_area_sizes) 
  have h_least_size0 := ok_least_size0 (P := P) (w := w) (K := K) (mg := mg) (base := base) (k := 0) (T := T_least_size) 
  have h_sizes_on0 := ok_sizes_on (P := P) (w := w) (K := K) (mg := mg) (base := base) (k := 2) (bi := bi) (T := T_sizes_on) (c_is_device := h_is_device) (c_is_bridge := h_is_bridge) (c_area_sizes := cal_mono h_area_sizes (by decide)) (c_least_size := cal_mono h_least_size0 (by decide)) (d := 0)
  have h_least_size1 := ok_least_size (P := P) (w := w) (K := K) (mg := mg) (base := base) (k := 3) (bi := bi) (T := T_least_size) (c_sizes_on := h_sizes_on0) (c_parts_of := h_parts_of) (c_power_from := cal_mono h_power_from (by decide)) (d := 0)
  have h_sizes_on1 := ok_sizes_on (P := P) (w := w) (K := K) (mg := mg) (base := base) (k := 4) (bi := bi) (T := T_sizes_on) (c_is_device := cal_mono h_is_device (by decide)) (c_is_bridge := cal_mono h_is_bridge (by decide)) (c_area_sizes := cal_mono h_area_sizes (by decide)) (c_least_size := h_least_size1) (d := 1)
  have h_least_size2 := ok_least_size (P := P) (w := w) (K := K) (mg := mg) (base := base) (k := 5) (bi := bi) (T := T_least_size) (c_sizes_on := h_sizes_on1) (c_parts_of := cal_mono h_parts_of (by decide)) (c_power_from := cal_mono h_power_from (by decide)) (d := 1)
  have h_sizes_on2 := ok_sizes_on (P := P) (w := w) (K := K) (mg := mg) (base := base) (k := 6) (bi := bi) (T := T_sizes_on) (c_is_device := cal_mono h_is_device (by decide)) (c_is_bridge := cal_mono h_is_bridge (by decide)) (c_area_sizes := cal_mono h_area_sizes (by decide)) (c_least_size := h_least_size2) (d := 2)
  have h_least_size3 := ok_least_size (P := P) (w := w) (K := K) (mg := mg) (base := base) (k := 7) (bi := bi) (T := T_least_size) (c_sizes_on := h_sizes_on2) (c_parts_of := cal_mono h_parts_of (by decide)) (c_power_from := cal_mono h_power_from (by decide)) (d := 2)
  have h_sizes_on3 := ok_sizes_on (P := P) (w := w) (K := K) (mg := mg) (base := base) (k := 8) (bi := bi) (T := T_sizes_on) (c_is_device := cal_mono h_is_device (by decide)) (c_is_bridge := cal_mono h_is_bridge (by decide)) (c_area_sizes := cal_mono h_area_sizes (by decide)) (c_least_size := h_least_size3) (d := 3)
  have h_least_size4 := ok_least_size (P := P) (w := w) (K := K) (mg := mg) (base := base) (k := 9) (bi := bi) (T := T_least_size) (c_sizes_on := h_sizes_on3) (c_parts_of := cal_mono h_parts_of (by decide)) (c_power_from := cal_mono h_power_from (by decide)) (d := 3)
  have h_sizes_on4 := ok_sizes_on (P := P) (w := w) (K := K) (mg := mg) (base := base) (k := 10) (bi := bi) (T := T_sizes_on) (c_is_device := cal_mono h_is_device (by decide)) (c_is_bridge := cal_mono h_is_bridge (by decide)) (c_area_sizes := cal_mono h_area_sizes (by decide)) (c_least_size := h_least_size4) (d := 4)
  have h_least_size5 := ok_least_size (P := P) (w := w) (K := K) (mg := mg) (base := base) (k := 11) (bi := bi) (T := T_least_size) (c_sizes_on := h_sizes_on4) (c_parts_of := cal_mono h_parts_of (by decide)) (c_power_from := cal_mono h_power_from (by decide)) (d := 4)
  have h_sizes_on5 := ok_sizes_on (P := P) (w := w) (K := K) (mg := mg) (base := base) (k := 12) (bi := bi) (T := T_sizes_on) (c_is_device := cal_mono h_is_device (by decide)) (c_is_bridge := cal_mono h_is_bridge (by decide)) (c_area_sizes := cal_mono h_area_sizes (by decide)) (c_least_size := h_least_size5) (d := 5)
  have h_least_size6 := ok_least_size (P := P) (w := w) (K := K) (mg := mg) (base := base) (k := 13) (bi := bi) (T := T_least_size) (c_sizes_on := h_sizes_on5) (c_parts_of := cal_mono h_parts_of (by decide)) (c_power_from := cal_mono h_power_from (by decide)) (d := 5)
  have h_sizes_on6 := ok_sizes_on (P := P) (w := w) (K := K) (mg := mg) (base := base) (k := 14) (bi := bi) (T := T_sizes_on) (c_is_device := cal_mono h_is_device (by decide)) (c_is_bridge := cal_mono h_is_bridge (by decide)) (c_area_sizes := cal_mono h_area_sizes (by decide)) (c_least_size := h_least_size6) (d := 6)
  have h_bridges_of := ok_bridges_of (P := P) (w := w) (K := K) (mg := mg) (base := base) (k := 12) (bi := bi) (T := T_bridges_of) (c_placed := h_placed) (c_is_bridge := cal_mono h_is_bridge (by decide)) 
  have h_least_windows := ok_least_windows (P := P) (w := w) (K := K) (mg := mg) (base := base) (k := 14) (bi := bi) (T := T_least_windows) (c_bridges_of := cal_mono h_bridges_of (by decide)) (c_least_size := h_least_size6) 
  have h_wanted := ok_wanted (P := P) (w := w) (K := K) (mg := mg) (base := base) (k := 15) (bi := bi) (T := T_wanted) (c_sizes_on := h_sizes_on6) (c_parts_of := cal_mono h_parts_of (by decide)) 
  have h_refusal := ok_refusal (P := P) (w := w) (K := K) (mg := mg) (base := base) (k := 16) (bi := bi) (hK := hK.sq) (T := T_refusal) (c_reason := cal_mono h_reason (by decide)) (c_wanted := h_wanted) 
  have h_is_window := ok_is_window (P := P) (w := w) (K := K) (mg := mg) (base := base) (k := 14) (bi := bi) (T := T_is_window) (c_least_size := h_least_size6) (c_is_block := cal_mono h_is_block (by decide)) 
  have h_is_row := ok_is_row (P := P) (w := w) (K := K) (mg := mg) (base := base) (k := 15) (bi := bi) (T := T_is_row) (c_is_device := cal_mono h_is_device (by decide)) (c_is_bridge := cal_mono h_is_bridge (by decide)) (c_is_window := h_is_window) (c_is_block := cal_mono h_is_block (by decide)) 
  have h_lies_within := ok_lies_within (P := P) (w := w) (K := K) (mg := mg) (base := base) (k := 0) (bi := bi) (T := T_lies_within) 
  have h_are_apart := ok_are_apart (P := P) (w := w) (K := K) (mg := mg) (base := base) (k := 0) (bi := bi) (T := T_are_apart) 
  have h_room_below := ok_room_below (P := P) (w := w) (K := K) (mg := mg) (base := base) (k := 0) (bi := bi) (hK := hK) (T := T_room_below) 
  have h_blocks_of := ok_blocks_of (P := P) (w := w) (K := K) (mg := mg) (base := base) (k := 2) (bi := bi) (hK := hK) (T := T_blocks_of) (c_is_device := h_is_device) 
  have h_blocks_on := ok_blocks_on (P := P) (w := w) (K := K) (mg := mg) (base := base) (k := 3) (bi := bi) (T := T_blocks_on) (c_blocks_of := h_blocks_of) 
  have h_are_placed := ok_are_placed (P := P) (w := w) (K := K) (mg := mg) (base := base) (k := 1) (bi := bi) (T := T_are_placed) (c_are_apart := h_are_apart) (c_lies_within := h_lies_within) 
  have h_assignment_holds := ok_assignment_holds (P := P) (w := w) (K := K) (mg := mg) (base := base) (k := 16) (bi := bi) (T := T_assignment_holds) (c_placed := cal_mono h_placed (by decide)) (c_is_row := h_is_row) (c_parts_of := cal_mono h_parts_of (by decide)) (c_bridges_of := cal_mono h_bridges_of (by decide)) (c_room_below := cal_mono h_room_below (by decide)) (c_are_placed := cal_mono h_are_placed (by decide)) (c_blocks_on := cal_mono h_blocks_on (by decide)) 
  have h_source := ok_source (P := P) (w := w) (K := K) (mg := mg) (base := base) (k := 0) (bi := bi) (T := T_source) 
  have h_below := ok_below (P := P) (w := w) (K := K) (mg := mg) (base := base) (k := 0) (bi := bi) (T := T_below) 
  have h_pick := ok_pick (P := P) (w := w) (K := K) (mg := mg) (base := base) (k := 1) (bi := bi) (T := T_pick) (c_below := h_below) 
  have h_area := ok_area (P := P) (w := w) (K := K) (mg := mg) (base := base) (k := 2) (bi := bi) (T := T_area) (c_pick := h_pick) 
  have h_part0 := ok_part0 (P := P) (w := w) (K := K) (mg := mg) (base := base) (k := 0) (T := T_part) 
  have h_part1 := ok_part (P := P) (w := w) (K := K) (mg := mg) (base := base) (k := 3) (bi := bi) (T := T_part) (c_below := cal_mono h_below (by decide)) (c_pick := cal_mono h_pick (by decide)) (c_part := cal_mono h_part0 (by decide)) (c_area := h_area) (ff := 0)
  have h_part2 := ok_part (P := P) (w := w) (K := K) (mg := mg) (base := base) (k := 4) (bi := bi) (T := T_part) (c_below := cal_mono h_below (by decide)) (c_pick := cal_mono h_pick (by decide)) (c_part := h_part1) (c_area := cal_mono h_area (by decide)) (ff := 1)
  have h_part3 := ok_part (P := P) (w := w) (K := K) (mg := mg) (base := base) (k := 5) (bi := bi) (T := T_part) (c_below := cal_mono h_below (by decide)) (c_pick := cal_mono h_pick (by decide)) (c_part := h_part2) (c_area := cal_mono h_area (by decide)) (ff := 2)
  have h_part4 := ok_part (P := P) (w := w) (K := K) (mg := mg) (base := base) (k := 6) (bi := bi) (T := T_part) (c_below := cal_mono h_below (by decide)) (c_pick := cal_mono h_pick (by decide)) (c_part := h_part3) (c_area := cal_mono h_area (by decide)) (ff := 3)
  have h_part5 := ok_part (P := P) (w := w) (K := K) (mg := mg) (base := base) (k := 7) (bi := bi) (T := T_part) (c_below := cal_mono h_below (by decide)) (c_pick := cal_mono h_pick (by decide)) (c_part := h_part4) (c_area := cal_mono h_area (by decide)) (ff := 4)
  have h_tree := ok_tree (P := P) (w := w) (K := K) (mg := mg) (base := base) (k := 8) (bi := bi) (T := T_tree) (c_below := cal_mono h_below (by decide)) (c_pick := cal_mono h_pick (by decide)) (c_part := h_part5) 
  have h_deep := ok_deep (P := P) (w := w) (K := K) (mg := mg) (base := base) (k := 3) (bi := bi) (T := T_deep) (c_below := cal_mono h_below (by decide)) (c_pick := cal_mono h_pick (by decide)) (c_area := h_area) 
  have h_lplaced0 := ok_lplaced0 (P := P) (w := w) (K := K) (mg := mg) (base := base) (k := 0) (T := T_lplaced) 
  have h_lplaced1 := ok_lplaced (P := P) (w := w) (K := K) (mg := mg) (base := base) (k := 1) (bi := bi) (T := T_lplaced) (c_lplaced := h_lplaced0) (d := 0)
  have h_lplaced2 := ok_lplaced (P := P) (w := w) (K := K) (mg := mg) (base := base) (k := 2) (bi := bi) (T := T_lplaced) (c_lplaced := h_lplaced1) (d := 1)
  have h_lplaced3 := ok_lplaced (P := P) (w := w) (K := K) (mg := mg) (base := base) (k := 3) (bi := bi) (T := T_lplaced) (c_lplaced := h_lplaced2) (d := 2)
  have h_lplaced4 := ok_lplaced (P := P) (w := w) (K := K) (mg := mg) (base := base) (k := 4) (bi := bi) (T := T_lplaced) (c_lplaced := h_lplaced3) (d := 3)
  have h_lplaced5 := ok_lplaced (P := P) (w := w) (K := K) (mg := mg) (base := base) (k := 5) (bi := bi) (T := T_lplaced) (c_lplaced := h_lplaced4) (d := 4)
  have h_lplaced6 := ok_lplaced (P := P) (w := w) (K := K) (mg := mg) (base := base) (k := 6) (bi := bi) (T := T_lplaced) (c_lplaced := h_lplaced5) (d := 5)
  have h_lplaced7 := ok_lplaced (P := P) (w := w) (K := K) (mg := mg) (base := base) (k := 7) (bi := bi) (T := T_lplaced) (c_lplaced := h_lplaced6) (d := 6)
  have h_lplaced8 := ok_lplaced (P := P) (w := w) (K := K) (mg := mg) (base := base) (k := 8) (bi := bi) (T := T_lplaced) (c_lplaced := h_lplaced7) (d := 7)
  have h_least0 := ok_least0 (P := P) (w := w) (K := K) (mg := mg) (base := base) (k := 0) (T := T_least) 
  have h_sizes0 := ok_sizes (P := P) (w := w) (K := K) (mg := mg) (base := base) (k := 1) (bi := bi) (T := T_sizes) (c_least := h_least0) (d := 0)
  have h_least1 := ok_least (P := P) (w := w) (K := K) (mg := mg) (base := base) (k := 2) (bi := bi) (T := T_least) (c_sizes := h_sizes0) (d := 0)
  have h_sizes1 := ok_sizes (P := P) (w := w) (K := K) (mg := mg) (base := base) (k := 3) (bi := bi) (T := T_sizes) (c_least := h_least1) (d := 1)
  have h_least2 := ok_least (P := P) (w := w) (K := K) (mg := mg) (base := base) (k := 4) (bi := bi) (T := T_least) (c_sizes := h_sizes1) (d := 1)
  have h_sizes2 := ok_sizes (P := P) (w := w) (K := K) (mg := mg) (base := base) (k := 5) (bi := bi) (T := T_sizes) (c_least := h_least2) (d := 2)
  have h_least3 := ok_least (P := P) (w := w) (K := K) (mg := mg) (base := base) (k := 6) (bi := bi) (T := T_least) (c_sizes := h_sizes2) (d := 2)
  have h_sizes3 := ok_sizes (P := P) (w := w) (K := K) (mg := mg) (base := base) (k := 7) (bi := bi) (T := T_sizes) (c_least := h_least3) (d := 3)
  have h_least4 := ok_least (P := P) (w := w) (K := K) (mg := mg) (base := base) (k := 8) (bi := bi) (T := T_least) (c_sizes := h_sizes3) (d := 3)
  have h_sizes4 := ok_sizes (P := P) (w := w) (K := K) (mg := mg) (base := base) (k := 9) (bi := bi) (T := T_sizes) (c_least := h_least4) (d := 4)
  have h_least5 := ok_least (P := P) (w := w) (K := K) (mg := mg) (base := base) (k := 10) (bi := bi) (T := T_least) (c_sizes := h_sizes4) (d := 4)
  have h_sizes5 := ok_sizes (P := P) (w := w) (K := K) (mg := mg) (base := base) (k := 11) (bi := bi) (T := T_sizes) (c_least := h_least5) (d := 5)
  have h_least6 := ok_least (P := P) (w := w) (K := K) (mg := mg) (base := base) (k := 12) (bi := bi) (T := T_least) (c_sizes := h_sizes5) (d := 5)
  have h_sizes6 := ok_sizes (P := P) (w := w) (K := K) (mg := mg) (base := base) (k := 13) (bi := bi) (T := T_sizes) (c_least := h_least6) (d := 6)
  have h_units := ok_units (P := P) (w := w) (K := K) (mg := mg) (base := base) (k := 2) (bi := bi) (T := T_units) (c_below := cal_mono h_below (by decide)) (c_pick := h_pick) 
  have h_room := ok_room (P := P) (w := w) (K := K) (mg := mg) (base := base) (k := 0) (bi := bi) (T := T_room) 
  have h_rooms := ok_rooms (P := P) (w := w) (K := K) (mg := mg) (base := base) (k := 3) (bi := bi) (T := T_rooms) (c_below := cal_mono h_below (by decide)) (c_pick := cal_mono h_pick (by decide)) (c_units := h_units) (c_room := cal_mono h_room (by decide)) 
  have h_halves := ok_halves (P := P) (w := w) (K := K) (mg := mg) (base := base) (k := 0) (bi := bi) (T := T_halves) 
  have h_both := ok_both (P := P) (w := w) (K := K) (mg := mg) (base := base) (k := 1) (bi := bi) (T := T_both) (c_halves := h_halves) 
  have h_fitting := ok_fitting (P := P) (w := w) (K := K) (mg := mg) (base := base) (k := 2) (bi := bi) (T := T_fitting) (c_below := cal_mono h_below (by decide)) (c_both := h_both) 
  have h_free := ok_free (P := P) (w := w) (K := K) (mg := mg) (base := base) (k := 0) (bi := bi) (T := T_free) 
  have h_cut := ok_cut (P := P) (w := w) (K := K) (mg := mg) (base := base) (k := 0) (bi := bi) (T := T_cut) 
  have h_turns := ok_turns (P := P) (w := w) (K := K) (mg := mg) (base := base) (k := 0) (bi := bi) (T := T_turns) 
  have h_put := ok_put (P := P) (w := w) (K := K) (mg := mg) (base := base) (k := 2) (bi := bi) (T := T_put) (c_turns := cal_mono h_turns (by decide)) (c_free := cal_mono h_free (by decide)) (c_pick := h_pick) (c_cut := cal_mono h_cut (by decide)) 
  have h_grown := ok_grown (P := P) (w := w) (K := K) (mg := mg) (base := base) (k := 14) (bi := bi) (T := T_grown) (c_sizes := h_sizes6) (c_least := cal_mono h_least6 (by decide)) (c_pick := cal_mono h_pick (by decide)) (c_put := cal_mono h_put (by decide)) 
  have h_drawn0 := ok_drawn0 (P := P) (w := w) (K := K) (mg := mg) (base := base) (k := 0) (T := T_drawn) 
  have h_drawn1 := ok_drawn (P := P) (w := w) (K := K) (mg := mg) (base := base) (k := 15) (bi := bi) (T := T_drawn) (c_grown := h_grown) (c_least := cal_mono h_least6 (by decide)) (c_drawn := cal_mono h_drawn0 (by decide)) (ff := 0)
  have h_drawn2 := ok_drawn (P := P) (w := w) (K := K) (mg := mg) (base := base) (k := 16) (bi := bi) (T := T_drawn) (c_grown := cal_mono h_grown (by decide)) (c_least := cal_mono h_least6 (by decide)) (c_drawn := h_drawn1) (ff := 1)
  have h_drawn3 := ok_drawn (P := P) (w := w) (K := K) (mg := mg) (base := base) (k := 17) (bi := bi) (T := T_drawn) (c_grown := cal_mono h_grown (by decide)) (c_least := cal_mono h_least6 (by decide)) (c_drawn := h_drawn2) (ff := 2)
  have h_drawn4 := ok_drawn (P := P) (w := w) (K := K) (mg := mg) (base := base) (k := 18) (bi := bi) (T := T_drawn) (c_grown := cal_mono h_grown (by decide)) (c_least := cal_mono h_least6 (by decide)) (c_drawn := h_drawn3) (ff := 3)
  have h_drawn5 := ok_drawn (P := P) (w := w) (K := K) (mg := mg) (base := base) (k := 19) (bi := bi) (T := T_drawn) (c_grown := cal_mono h_grown (by decide)) (c_least := cal_mono h_least6 (by decide)) (c_drawn := h_drawn4) (ff := 4)
  have h_drawn6 := ok_drawn (P := P) (w := w) (K := K) (mg := mg) (base := base) (k := 20) (bi := bi) (T := T_drawn) (c_grown := cal_mono h_grown (by decide)) (c_least := cal_mono h_least6 (by decide)) (c_drawn := h_drawn5) (ff := 5)
  have h_drawn7 := ok_drawn (P := P) (w := w) (K := K) (mg := mg) (base := base) (k := 21) (bi := bi) (T := T_drawn) (c_grown := cal_mono h_grown (by decide)) (c_least := cal_mono h_least6 (by decide)) (c_drawn := h_drawn6) (ff := 6)
  have h_without0 := ok_without0 (P := P) (w := w) (K := K) (mg := mg) (base := base) (k := 0) (T := T_without) 
  have h_without1 := ok_without (P := P) (w := w) (K := K) (mg := mg) (base := base) (k := 1) (bi := bi) (T := T_without) (c_without := h_without0) (d := 0)
  have h_without2 := ok_without (P := P) (w := w) (K := K) (mg := mg) (base := base) (k := 2) (bi := bi) (T := T_without) (c_without := h_without1) (d := 1)
  have h_without3 := ok_without (P := P) (w := w) (K := K) (mg := mg) (base := base) (k := 3) (bi := bi) (T := T_without) (c_without := h_without2) (d := 2)
  have h_without4 := ok_without (P := P) (w := w) (K := K) (mg := mg) (base := base) (k := 4) (bi := bi) (T := T_without) (c_without := h_without3) (d := 3)
  have h_without5 := ok_without (P := P) (w := w) (K := K) (mg := mg) (base := base) (k := 5) (bi := bi) (T := T_without) (c_without := h_without4) (d := 4)
  have h_without6 := ok_without (P := P) (w := w) (K := K) (mg := mg) (base := base) (k := 6) (bi := bi) (T := T_without) (c_without := h_without5) (d := 5)
  have h_without7 := ok_without (P := P) (w := w) (K := K) (mg := mg) (base := base) (k := 7) (bi := bi) (T := T_without) (c_without := h_without6) (d := 6)
  have h_halved0 := ok_halved0 (P := P) (w := w) (K := K) (mg := mg) (base := base) (k := 0) (T := T_halved) 
  have h_halved1 := ok_halved (P := P) (w := w) (K := K) (mg := mg) (base := base) (k := 1) (bi := bi) (T := T_halved) (c_halved := h_halved0) (d := 0)
  have h_halved2 := ok_halved (P := P) (w := w) (K := K) (mg := mg) (base := base) (k := 2) (bi := bi) (T := T_halved) (c_halved := h_halved1) (d := 1)
  have h_halved3 := ok_halved (P := P) (w := w) (K := K) (mg := mg) (base := base) (k := 3) (bi := bi) (T := T_halved) (c_halved := h_halved2) (d := 2)
  have h_halved4 := ok_halved (P := P) (w := w) (K := K) (mg := mg) (base := base) (k := 4) (bi := bi) (T := T_halved) (c_halved := h_halved3) (d := 3)
  have h_halved5 := ok_halved (P := P) (w := w) (K := K) (mg := mg) (base := base) (k := 5) (bi := bi) (T := T_halved) (c_halved := h_halved4) (d := 4)
  have h_halved6 := ok_halved (P := P) (w := w) (K := K) (mg := mg) (base := base) (k := 6) (bi := bi) (T := T_halved) (c_halved := h_halved5) (d := 5)
  have h_halved7 := ok_halved (P := P) (w := w) (K := K) (mg := mg) (base := base) (k := 7) (bi := bi) (T := T_halved) (c_halved := h_halved6) (d := 6)
  have h_left := ok_left (P := P) (w := w) (K := K) (mg := mg) (base := base) (k := 13) (bi := bi) (T := T_left) (c_lplaced := cal_mono h_lplaced8 (by decide)) (c_least := h_least6) 
  have h_windows_right := ok_windows_right (P := P) (w := w) (K := K) (mg := mg) (base := base) (k := 15) (bi := bi) (T := T_windows_right) (c_least_windows := h_least_windows) 
  have h_no_more := ok_no_more (P := P) (w := w) (K := K) (mg := mg) (base := base) (k := 17) (bi := bi) (T := T_no_more) (c_refusal := h_refusal) (c_assignment_holds := h_assignment_holds) (c_left := cal_mono h_left (by decide)) (c_least_windows := cal_mono h_least_windows (by decide)) (c_wanted := cal_mono h_wanted (by decide)) 
  have h_law := ok_law (P := P) (w := w) (K := K) (mg := mg) (base := base) (k := 22) (bi := bi) (F := F) (c_source := cal_mono h_source (by decide)) (c_pick := cal_mono h_pick (by decide)) (c_deep := cal_mono h_deep (by decide)) (c_tree := cal_mono h_tree (by decide)) (c_rooms := cal_mono h_rooms (by decide)) (c_fitting := cal_mono h_fitting (by decide)) (c_sizes := cal_mono h_sizes6 (by decide)) (c_drawn := h_drawn7) (c_refusal := cal_mono h_refusal (by decide)) (c_lplaced := cal_mono h_lplaced8 (by decide)) (c_assignment_holds := cal_mono h_assignment_holds (by decide)) (c_windows_right := cal_mono h_windows_right (by decide)) (c_without := cal_mono h_without7 (by decide)) (c_only := cal_mono h_only (by decide)) (c_halved := cal_mono h_halved7 (by decide)) (c_no_more := cal_mono h_no_more (by decide)) 
  exact h_law.mono (by decide)
/-- where a def stands behind the top -/
def DefAt (K : PySem.W.Frag) (x : Str) (st : Stmt) : Prop := ∃ (f : Addr) (oc : Value) (od : Option Addr) (kV dc pm : Value) (an : Option Addr) (cd ct : Value) (sl : Array (Option Value)),
  PySem.W.nsIn K mainGlobals x = some (some (.ref f)) ∧ K.lookup f = some ⟨oc, od, .func (PySem.W.fnOf x x (defArgs st) (defBody st) (defScope st) .none kV dc pm an cd ct), sl⟩ ∧ PySem.W.codeIn K cd x = true ∧ PySem.W.keepIn K (.ref f) = true
theorem DefAt.mk {x : Str} {st : Stmt} {f : Addr} {oc : Value} {od : Option Addr} {kV dc pm : Value} {an : Option Addr} {cd ct : Value} {sl : Array (Option Value)} (a : PySem.W.nsIn K mainGlobals x = some (some (.ref f)))
    (l : K.lookup f = some ⟨oc, od, .func (PySem.W.fnOf x x (defArgs st) (defBody st) (defScope st) .none kV dc pm an cd ct), sl⟩) (c : PySem.W.codeIn K cd x = true) (k : PySem.W.keepIn K (.ref f) = true) : DefAt K x st := ⟨f, oc, od, kV, dc, pm, an, cd, ct, sl, a, l, c, k⟩
theorem at_of {h : Heap} {x : Str} {st : Stmt} {ps : List Str} (X : K.In h) (G : h.Ns mainGlobals mg) (d : DefAt K x st)
    (hb : ∀ (kV doc pm : Value) (an : Option Addr) (cdv ct : Value) (us : List Value), us.length = ps.length → bindArgs (PySem.W.fnOf x x (defArgs st) (defBody st) (defScope st) .none kV doc pm an cdv ct) ⟨us, []⟩ = pure (ps.zip us)) : At K mg x st ps := by
  obtain ⟨f, oc, od, kV, dc, pm, an, cd, ct, sl, h1, h2, h3, h4⟩ := d
  have F := fun_mk h2 h3 h4
  exact ⟨f, _, F, PySem.W.mg_of X G h1, F.binds hb⟩
end
theorem bd_is_integer (kV doc pm : Value) (an : Option Addr) (cdv ct : Value) (us : List Value) (hl : us.length = (["value", "low", "high"] : List Str).length) : bindArgs (PySem.W.fnOf "is_integer" "is_integer" (defArgs sx_is_integer) (defBody sx_is_integer) (defScope sx_is_integer) .none kV doc pm an cdv ct) ⟨us, []⟩ = pure ((["value", "low", "high"] : List Str).zip us) := match us, hl with | [_, _, _], _ => rfl
theorem bd_is_size (kV doc pm : Value) (an : Option Addr) (cdv ct : Value) (us : List Value) (hl : us.length = (["value"] : List Str).length) : bindArgs (PySem.W.fnOf "is_size" "is_size" (defArgs sx_is_size) (defBody sx_is_size) (defScope sx_is_size) .none kV doc pm an cdv ct) ⟨us, []⟩ = pure ((["value"] : List Str).zip us) := match us, hl with | [_], _ => rfl
theorem bd_is_block (kV doc pm : Value) (an : Option Addr) (cdv ct : Value) (us : List Value) (hl : us.length = (["value"] : List Str).length) : bindArgs (PySem.W.fnOf "is_block" "is_block" (defArgs sx_is_block) (defBody sx_is_block) (defScope sx_is_block) .none kV doc pm an cdv ct) ⟨us, []⟩ = pure ((["value"] : List Str).zip us) := match us, hl with | [_], _ => rfl
theorem bd_capacity (kV doc pm : Value) (an : Option Addr) (cdv ct : Value) (us : List Value) (hl : us.length = (["room", "size"] : List Str).length) : bindArgs (PySem.W.fnOf "capacity" "capacity" (defArgs sx_capacity) (defBody sx_capacity) (defScope sx_capacity) .none kV doc pm an cdv ct) ⟨us, []⟩ = pure ((["room", "size"] : List Str).zip us) := match us, hl with | [_, _], _ => rfl
theorem bd_wanted_from (kV doc pm : Value) (an : Option Addr) (cdv ct : Value) (us : List Value) (hl : us.length = (["sizes", "size"] : List Str).length) : bindArgs (PySem.W.fnOf "wanted_from" "wanted_from" (defArgs sx_wanted_from) (defBody sx_wanted_from) (defScope sx_wanted_from) .none kV doc pm an cdv ct) ⟨us, []⟩ = pure ((["sizes", "size"] : List Str).zip us) := match us, hl with | [_, _], _ => rfl
theorem bd_reason (kV doc pm : Value) (an : Option Addr) (cdv ct : Value) (us : List Value) (hl : us.length = (["room", "sizes"] : List Str).length) : bindArgs (PySem.W.fnOf "reason" "reason" (defArgs sx_reason) (defBody sx_reason) (defScope sx_reason) .none kV doc pm an cdv ct) ⟨us, []⟩ = pure ((["room", "sizes"] : List Str).zip us) := match us, hl with | [_, _], _ => rfl
theorem bd_has_form (kV doc pm : Value) (an : Option Addr) (cdv ct : Value) (us : List Value) (hl : us.length = (["value", "word", "many"] : List Str).length) : bindArgs (PySem.W.fnOf "has_form" "has_form" (defArgs sx_has_form) (defBody sx_has_form) (defScope sx_has_form) .none kV doc pm an cdv ct) ⟨us, []⟩ = pure ((["value", "word", "many"] : List Str).zip us) := match us, hl with | [_, _, _], _ => rfl
theorem bd_is_device (kV doc pm : Value) (an : Option Addr) (cdv ct : Value) (us : List Value) (hl : us.length = (["part"] : List Str).length) : bindArgs (PySem.W.fnOf "is_device" "is_device" (defArgs sx_is_device) (defBody sx_is_device) (defScope sx_is_device) .none kV doc pm an cdv ct) ⟨us, []⟩ = pure ((["part"] : List Str).zip us) := match us, hl with | [_], _ => rfl
theorem bd_is_bridge (kV doc pm : Value) (an : Option Addr) (cdv ct : Value) (us : List Value) (hl : us.length = (["part"] : List Str).length) : bindArgs (PySem.W.fnOf "is_bridge" "is_bridge" (defArgs sx_is_bridge) (defBody sx_is_bridge) (defScope sx_is_bridge) .none kV doc pm an cdv ct) ⟨us, []⟩ = pure ((["part"] : List Str).zip us) := match us, hl with | [_], _ => rfl
theorem bd_parts_of (kV doc pm : Value) (an : Option Addr) (cdv ct : Value) (us : List Value) (hl : us.length = (["part"] : List Str).length) : bindArgs (PySem.W.fnOf "parts_of" "parts_of" (defArgs sx_parts_of) (defBody sx_parts_of) (defScope sx_parts_of) .none kV doc pm an cdv ct) ⟨us, []⟩ = pure ((["part"] : List Str).zip us) := match us, hl with | [_], _ => rfl
theorem bd_placed_in (kV doc pm : Value) (an : Option Addr) (cdv ct : Value) (us : List Value) (hl : us.length = (["parts", "above"] : List Str).length) : bindArgs (PySem.W.fnOf "placed_in" "placed_in" (defArgs sx_placed_in) (defBody sx_placed_in) (defScope sx_placed_in) .none kV doc pm an cdv ct) ⟨us, []⟩ = pure ((["parts", "above"] : List Str).zip us) := match us, hl with | [_, _], _ => rfl
theorem bd_placed (kV doc pm : Value) (an : Option Addr) (cdv ct : Value) (us : List Value) (hl : us.length = (["tree"] : List Str).length) : bindArgs (PySem.W.fnOf "placed" "placed" (defArgs sx_placed) (defBody sx_placed) (defScope sx_placed) .none kV doc pm an cdv ct) ⟨us, []⟩ = pure ((["tree"] : List Str).zip us) := match us, hl with | [_], _ => rfl
theorem bd_with_parts (kV doc pm : Value) (an : Option Addr) (cdv ct : Value) (us : List Value) (hl : us.length = (["part", "parts"] : List Str).length) : bindArgs (PySem.W.fnOf "with_parts" "with_parts" (defArgs sx_with_parts) (defBody sx_with_parts) (defScope sx_with_parts) .none kV doc pm an cdv ct) ⟨us, []⟩ = pure ((["part", "parts"] : List Str).zip us) := match us, hl with | [_, _], _ => rfl
theorem bd_part_only (kV doc pm : Value) (an : Option Addr) (cdv ct : Value) (us : List Value) (hl : us.length = (["part", "names"] : List Str).length) : bindArgs (PySem.W.fnOf "part_only" "part_only" (defArgs sx_part_only) (defBody sx_part_only) (defScope sx_part_only) .none kV doc pm an cdv ct) ⟨us, []⟩ = pure ((["part", "names"] : List Str).zip us) := match us, hl with | [_, _], _ => rfl
theorem bd_only (kV doc pm : Value) (an : Option Addr) (cdv ct : Value) (us : List Value) (hl : us.length = (["tree", "names"] : List Str).length) : bindArgs (PySem.W.fnOf "only" "only" (defArgs sx_only) (defBody sx_only) (defScope sx_only) .none kV doc pm an cdv ct) ⟨us, []⟩ = pure ((["tree", "names"] : List Str).zip us) := match us, hl with | [_, _], _ => rfl
theorem bd_power_from (kV doc pm : Value) (an : Option Addr) (cdv ct : Value) (us : List Value) (hl : us.length = (["number"] : List Str).length) : bindArgs (PySem.W.fnOf "power_from" "power_from" (defArgs sx_power_from) (defBody sx_power_from) (defScope sx_power_from) .none kV doc pm an cdv ct) ⟨us, []⟩ = pure ((["number"] : List Str).zip us) := match us, hl with | [_], _ => rfl
theorem bd_area_sizes (kV doc pm : Value) (an : Option Addr) (cdv ct : Value) (us : List Value) (hl : us.length = (["device", "kind"] : List Str).length) : bindArgs (PySem.W.fnOf "area_sizes" "area_sizes" (defArgs sx_area_sizes) (defBody sx_area_sizes) (defScope sx_area_sizes) .none kV doc pm an cdv ct) ⟨us, []⟩ = pure ((["device", "kind"] : List Str).zip us) := match us, hl with | [_, _], _ => rfl
theorem bd_least_size (kV doc pm : Value) (an : Option Addr) (cdv ct : Value) (us : List Value) (hl : us.length = (["bridge", "kind"] : List Str).length) : bindArgs (PySem.W.fnOf "least_size" "least_size" (defArgs sx_least_size) (defBody sx_least_size) (defScope sx_least_size) .none kV doc pm an cdv ct) ⟨us, []⟩ = pure ((["bridge", "kind"] : List Str).zip us) := match us, hl with | [_, _], _ => rfl
theorem bd_sizes_on (kV doc pm : Value) (an : Option Addr) (cdv ct : Value) (us : List Value) (hl : us.length = (["parts", "kind"] : List Str).length) : bindArgs (PySem.W.fnOf "sizes_on" "sizes_on" (defArgs sx_sizes_on) (defBody sx_sizes_on) (defScope sx_sizes_on) .none kV doc pm an cdv ct) ⟨us, []⟩ = pure ((["parts", "kind"] : List Str).zip us) := match us, hl with | [_, _], _ => rfl
theorem bd_bridges_of (kV doc pm : Value) (an : Option Addr) (cdv ct : Value) (us : List Value) (hl : us.length = (["tree"] : List Str).length) : bindArgs (PySem.W.fnOf "bridges_of" "bridges_of" (defArgs sx_bridges_of) (defBody sx_bridges_of) (defScope sx_bridges_of) .none kV doc pm an cdv ct) ⟨us, []⟩ = pure ((["tree"] : List Str).zip us) := match us, hl with | [_], _ => rfl
theorem bd_least_windows (kV doc pm : Value) (an : Option Addr) (cdv ct : Value) (us : List Value) (hl : us.length = (["tree"] : List Str).length) : bindArgs (PySem.W.fnOf "least_windows" "least_windows" (defArgs sx_least_windows) (defBody sx_least_windows) (defScope sx_least_windows) .none kV doc pm an cdv ct) ⟨us, []⟩ = pure ((["tree"] : List Str).zip us) := match us, hl with | [_], _ => rfl
theorem bd_wanted (kV doc pm : Value) (an : Option Addr) (cdv ct : Value) (us : List Value) (hl : us.length = (["tree", "kind"] : List Str).length) : bindArgs (PySem.W.fnOf "wanted" "wanted" (defArgs sx_wanted) (defBody sx_wanted) (defScope sx_wanted) .none kV doc pm an cdv ct) ⟨us, []⟩ = pure ((["tree", "kind"] : List Str).zip us) := match us, hl with | [_, _], _ => rfl
theorem bd_refusal (kV doc pm : Value) (an : Option Addr) (cdv ct : Value) (us : List Value) (hl : us.length = (["tree", "rooms"] : List Str).length) : bindArgs (PySem.W.fnOf "refusal" "refusal" (defArgs sx_refusal) (defBody sx_refusal) (defScope sx_refusal) .none kV doc pm an cdv ct) ⟨us, []⟩ = pure ((["tree", "rooms"] : List Str).zip us) := match us, hl with | [_, _], _ => rfl
theorem bd_is_window (kV doc pm : Value) (an : Option Addr) (cdv ct : Value) (us : List Value) (hl : us.length = (["bridge", "kind", "value"] : List Str).length) : bindArgs (PySem.W.fnOf "is_window" "is_window" (defArgs sx_is_window) (defBody sx_is_window) (defScope sx_is_window) .none kV doc pm an cdv ct) ⟨us, []⟩ = pure ((["bridge", "kind", "value"] : List Str).zip us) := match us, hl with | [_, _, _], _ => rfl
theorem bd_is_row (kV doc pm : Value) (an : Option Addr) (cdv ct : Value) (us : List Value) (hl : us.length = (["part", "value"] : List Str).length) : bindArgs (PySem.W.fnOf "is_row" "is_row" (defArgs sx_is_row) (defBody sx_is_row) (defScope sx_is_row) .none kV doc pm an cdv ct) ⟨us, []⟩ = pure ((["part", "value"] : List Str).zip us) := match us, hl with | [_, _], _ => rfl
theorem bd_blocks_of (kV doc pm : Value) (an : Option Addr) (cdv ct : Value) (us : List Value) (hl : us.length = (["part", "row", "kind"] : List Str).length) : bindArgs (PySem.W.fnOf "blocks_of" "blocks_of" (defArgs sx_blocks_of) (defBody sx_blocks_of) (defScope sx_blocks_of) .none kV doc pm an cdv ct) ⟨us, []⟩ = pure ((["part", "row", "kind"] : List Str).zip us) := match us, hl with | [_, _, _], _ => rfl
theorem bd_blocks_on (kV doc pm : Value) (an : Option Addr) (cdv ct : Value) (us : List Value) (hl : us.length = (["parts", "rows", "kind"] : List Str).length) : bindArgs (PySem.W.fnOf "blocks_on" "blocks_on" (defArgs sx_blocks_on) (defBody sx_blocks_on) (defScope sx_blocks_on) .none kV doc pm an cdv ct) ⟨us, []⟩ = pure ((["parts", "rows", "kind"] : List Str).zip us) := match us, hl with | [_, _, _], _ => rfl
theorem bd_lies_within (kV doc pm : Value) (an : Option Addr) (cdv ct : Value) (us : List Value) (hl : us.length = (["block", "other"] : List Str).length) : bindArgs (PySem.W.fnOf "lies_within" "lies_within" (defArgs sx_lies_within) (defBody sx_lies_within) (defScope sx_lies_within) .none kV doc pm an cdv ct) ⟨us, []⟩ = pure ((["block", "other"] : List Str).zip us) := match us, hl with | [_, _], _ => rfl
theorem bd_are_apart (kV doc pm : Value) (an : Option Addr) (cdv ct : Value) (us : List Value) (hl : us.length = (["blocks"] : List Str).length) : bindArgs (PySem.W.fnOf "are_apart" "are_apart" (defArgs sx_are_apart) (defBody sx_are_apart) (defScope sx_are_apart) .none kV doc pm an cdv ct) ⟨us, []⟩ = pure ((["blocks"] : List Str).zip us) := match us, hl with | [_], _ => rfl
theorem bd_are_placed (kV doc pm : Value) (an : Option Addr) (cdv ct : Value) (us : List Value) (hl : us.length = (["blocks", "room"] : List Str).length) : bindArgs (PySem.W.fnOf "are_placed" "are_placed" (defArgs sx_are_placed) (defBody sx_are_placed) (defScope sx_are_placed) .none kV doc pm an cdv ct) ⟨us, []⟩ = pure ((["blocks", "room"] : List Str).zip us) := match us, hl with | [_, _], _ => rfl
theorem bd_room_below (kV doc pm : Value) (an : Option Addr) (cdv ct : Value) (us : List Value) (hl : us.length = (["row", "kind"] : List Str).length) : bindArgs (PySem.W.fnOf "room_below" "room_below" (defArgs sx_room_below) (defBody sx_room_below) (defScope sx_room_below) .none kV doc pm an cdv ct) ⟨us, []⟩ = pure ((["row", "kind"] : List Str).zip us) := match us, hl with | [_, _], _ => rfl
theorem bd_assignment_holds (kV doc pm : Value) (an : Option Addr) (cdv ct : Value) (us : List Value) (hl : us.length = (["tree", "rooms", "value"] : List Str).length) : bindArgs (PySem.W.fnOf "assignment_holds" "assignment_holds" (defArgs sx_assignment_holds) (defBody sx_assignment_holds) (defScope sx_assignment_holds) .none kV doc pm an cdv ct) ⟨us, []⟩ = pure ((["tree", "rooms", "value"] : List Str).zip us) := match us, hl with | [_, _, _], _ => rfl
theorem bd_source (kV doc pm : Value) (an : Option Addr) (cdv ct : Value) (us : List Value) (hl : us.length = (["_law_script"] : List Str).length) : bindArgs (PySem.W.fnOf "_law_source" "_law_source" (defArgs sx_source) (defBody sx_source) (defScope sx_source) .none kV doc pm an cdv ct) ⟨us, []⟩ = pure ((["_law_script"] : List Str).zip us) := match us, hl with | [_], _ => rfl
theorem bd_below (kV doc pm : Value) (an : Option Addr) (cdv ct : Value) (us : List Value) (hl : us.length = (["_law_source_here", "_law_many"] : List Str).length) : bindArgs (PySem.W.fnOf "_law_below" "_law_below" (defArgs sx_below) (defBody sx_below) (defScope sx_below) .none kV doc pm an cdv ct) ⟨us, []⟩ = pure ((["_law_source_here", "_law_many"] : List Str).zip us) := match us, hl with | [_, _], _ => rfl
theorem bd_pick (kV doc pm : Value) (an : Option Addr) (cdv ct : Value) (us : List Value) (hl : us.length = (["_law_source_here", "_law_items"] : List Str).length) : bindArgs (PySem.W.fnOf "_law_pick" "_law_pick" (defArgs sx_pick) (defBody sx_pick) (defScope sx_pick) .none kV doc pm an cdv ct) ⟨us, []⟩ = pure ((["_law_source_here", "_law_items"] : List Str).zip us) := match us, hl with | [_, _], _ => rfl
theorem bd_area (kV doc pm : Value) (an : Option Addr) (cdv ct : Value) (us : List Value) (hl : us.length = (["_law_source_here", "_law_exps"] : List Str).length) : bindArgs (PySem.W.fnOf "_law_area" "_law_area" (defArgs sx_area) (defBody sx_area) (defScope sx_area) .none kV doc pm an cdv ct) ⟨us, []⟩ = pure ((["_law_source_here", "_law_exps"] : List Str).zip us) := match us, hl with | [_, _], _ => rfl
theorem bd_part (kV doc pm : Value) (an : Option Addr) (cdv ct : Value) (us : List Value) (hl : us.length = (["_law_source_here", "_law_numbers", "_law_above", "_law_exps"] : List Str).length) : bindArgs (PySem.W.fnOf "_law_part" "_law_part" (defArgs sx_part) (defBody sx_part) (defScope sx_part) .none kV doc pm an cdv ct) ⟨us, []⟩ = pure ((["_law_source_here", "_law_numbers", "_law_above", "_law_exps"] : List Str).zip us) := match us, hl with | [_, _, _, _], _ => rfl
theorem bd_tree (kV doc pm : Value) (an : Option Addr) (cdv ct : Value) (us : List Value) (hl : us.length = (["_law_source_here", "_law_devices", "_law_bridges", "_law_exps"] : List Str).length) : bindArgs (PySem.W.fnOf "_law_tree" "_law_tree" (defArgs sx_tree) (defBody sx_tree) (defScope sx_tree) .none kV doc pm an cdv ct) ⟨us, []⟩ = pure ((["_law_source_here", "_law_devices", "_law_bridges", "_law_exps"] : List Str).zip us) := match us, hl with | [_, _, _, _], _ => rfl
theorem bd_deep (kV doc pm : Value) (an : Option Addr) (cdv ct : Value) (us : List Value) (hl : us.length = (["_law_source_here", "_law_exps"] : List Str).length) : bindArgs (PySem.W.fnOf "_law_deep" "_law_deep" (defArgs sx_deep) (defBody sx_deep) (defScope sx_deep) .none kV doc pm an cdv ct) ⟨us, []⟩ = pure ((["_law_source_here", "_law_exps"] : List Str).zip us) := match us, hl with | [_, _], _ => rfl
theorem bd_lplaced (kV doc pm : Value) (an : Option Addr) (cdv ct : Value) (us : List Value) (hl : us.length = (["_law_parts", "_law_path"] : List Str).length) : bindArgs (PySem.W.fnOf "_law_placed" "_law_placed" (defArgs sx_lplaced) (defBody sx_lplaced) (defScope sx_lplaced) .none kV doc pm an cdv ct) ⟨us, []⟩ = pure ((["_law_parts", "_law_path"] : List Str).zip us) := match us, hl with | [_, _], _ => rfl
theorem bd_sizes (kV doc pm : Value) (an : Option Addr) (cdv ct : Value) (us : List Value) (hl : us.length = (["_law_parts", "_law_kind"] : List Str).length) : bindArgs (PySem.W.fnOf "_law_sizes" "_law_sizes" (defArgs sx_sizes) (defBody sx_sizes) (defScope sx_sizes) .none kV doc pm an cdv ct) ⟨us, []⟩ = pure ((["_law_parts", "_law_kind"] : List Str).zip us) := match us, hl with | [_, _], _ => rfl
theorem bd_least (kV doc pm : Value) (an : Option Addr) (cdv ct : Value) (us : List Value) (hl : us.length = (["_law_bridge", "_law_kind"] : List Str).length) : bindArgs (PySem.W.fnOf "_law_least" "_law_least" (defArgs sx_least) (defBody sx_least) (defScope sx_least) .none kV doc pm an cdv ct) ⟨us, []⟩ = pure ((["_law_bridge", "_law_kind"] : List Str).zip us) := match us, hl with | [_, _], _ => rfl
theorem bd_units (kV doc pm : Value) (an : Option Addr) (cdv ct : Value) (us : List Value) (hl : us.length = (["_law_source_here", "_law_many"] : List Str).length) : bindArgs (PySem.W.fnOf "_law_units" "_law_units" (defArgs sx_units) (defBody sx_units) (defScope sx_units) .none kV doc pm an cdv ct) ⟨us, []⟩ = pure ((["_law_source_here", "_law_many"] : List Str).zip us) := match us, hl with | [_, _], _ => rfl
theorem bd_room (kV doc pm : Value) (an : Option Addr) (cdv ct : Value) (us : List Value) (hl : us.length = (["_law_units_here", "_law_unit", "_law_first"] : List Str).length) : bindArgs (PySem.W.fnOf "_law_room" "_law_room" (defArgs sx_room) (defBody sx_room) (defScope sx_room) .none kV doc pm an cdv ct) ⟨us, []⟩ = pure ((["_law_units_here", "_law_unit", "_law_first"] : List Str).zip us) := match us, hl with | [_, _, _], _ => rfl
theorem bd_rooms (kV doc pm : Value) (an : Option Addr) (cdv ct : Value) (us : List Value) (hl : us.length = (["_law_source_here"] : List Str).length) : bindArgs (PySem.W.fnOf "_law_rooms" "_law_rooms" (defArgs sx_rooms) (defBody sx_rooms) (defScope sx_rooms) .none kV doc pm an cdv ct) ⟨us, []⟩ = pure ((["_law_source_here"] : List Str).zip us) := match us, hl with | [_], _ => rfl
theorem bd_halves (kV doc pm : Value) (an : Option Addr) (cdv ct : Value) (us : List Value) (hl : us.length = (["_law_one", "_law_other"] : List Str).length) : bindArgs (PySem.W.fnOf "_law_halves" "_law_halves" (defArgs sx_halves) (defBody sx_halves) (defScope sx_halves) .none kV doc pm an cdv ct) ⟨us, []⟩ = pure ((["_law_one", "_law_other"] : List Str).zip us) := match us, hl with | [_, _], _ => rfl
theorem bd_both (kV doc pm : Value) (an : Option Addr) (cdv ct : Value) (us : List Value) (hl : us.length = (["_law_room_here", "_law_block"] : List Str).length) : bindArgs (PySem.W.fnOf "_law_both" "_law_both" (defArgs sx_both) (defBody sx_both) (defScope sx_both) .none kV doc pm an cdv ct) ⟨us, []⟩ = pure ((["_law_room_here", "_law_block"] : List Str).zip us) := match us, hl with | [_, _], _ => rfl
theorem bd_fitting (kV doc pm : Value) (an : Option Addr) (cdv ct : Value) (us : List Value) (hl : us.length = (["_law_source_here", "_law_sizes_here", "_law_room_here", "_law_first"] : List Str).length) : bindArgs (PySem.W.fnOf "_law_fitting" "_law_fitting" (defArgs sx_fitting) (defBody sx_fitting) (defScope sx_fitting) .none kV doc pm an cdv ct) ⟨us, []⟩ = pure ((["_law_source_here", "_law_sizes_here", "_law_room_here", "_law_first"] : List Str).zip us) := match us, hl with | [_, _, _, _], _ => rfl
theorem bd_free (kV doc pm : Value) (an : Option Addr) (cdv ct : Value) (us : List Value) (hl : us.length = (["_law_spans", "_law_size"] : List Str).length) : bindArgs (PySem.W.fnOf "_law_free" "_law_free" (defArgs sx_free) (defBody sx_free) (defScope sx_free) .none kV doc pm an cdv ct) ⟨us, []⟩ = pure ((["_law_spans", "_law_size"] : List Str).zip us) := match us, hl with | [_, _], _ => rfl
theorem bd_cut (kV doc pm : Value) (an : Option Addr) (cdv ct : Value) (us : List Value) (hl : us.length = (["_law_spans", "_law_start", "_law_size"] : List Str).length) : bindArgs (PySem.W.fnOf "_law_cut" "_law_cut" (defArgs sx_cut) (defBody sx_cut) (defScope sx_cut) .none kV doc pm an cdv ct) ⟨us, []⟩ = pure ((["_law_spans", "_law_start", "_law_size"] : List Str).zip us) := match us, hl with | [_, _, _], _ => rfl
theorem bd_turns (kV doc pm : Value) (an : Option Addr) (cdv ct : Value) (us : List Value) (hl : us.length = (["_law_sizes_here"] : List Str).length) : bindArgs (PySem.W.fnOf "_law_turns" "_law_turns" (defArgs sx_turns) (defBody sx_turns) (defScope sx_turns) .none kV doc pm an cdv ct) ⟨us, []⟩ = pure ((["_law_sizes_here"] : List Str).zip us) := match us, hl with | [_], _ => rfl
theorem bd_put (kV doc pm : Value) (an : Option Addr) (cdv ct : Value) (us : List Value) (hl : us.length = (["_law_source_here", "_law_room_here", "_law_sizes_here"] : List Str).length) : bindArgs (PySem.W.fnOf "_law_put" "_law_put" (defArgs sx_put) (defBody sx_put) (defScope sx_put) .none kV doc pm an cdv ct) ⟨us, []⟩ = pure ((["_law_source_here", "_law_room_here", "_law_sizes_here"] : List Str).zip us) := match us, hl with | [_, _, _], _ => rfl
theorem bd_grown (kV doc pm : Value) (an : Option Addr) (cdv ct : Value) (us : List Value) (hl : us.length = (["_law_source_here", "_law_parts", "_law_kind", "_law_room_here"] : List Str).length) : bindArgs (PySem.W.fnOf "_law_grown" "_law_grown" (defArgs sx_grown) (defBody sx_grown) (defScope sx_grown) .none kV doc pm an cdv ct) ⟨us, []⟩ = pure ((["_law_source_here", "_law_parts", "_law_kind", "_law_room_here"] : List Str).zip us) := match us, hl with | [_, _, _, _], _ => rfl
theorem bd_drawn (kV doc pm : Value) (an : Option Addr) (cdv ct : Value) (us : List Value) (hl : us.length = (["_law_source_here", "_law_parts", "_law_rooms_here"] : List Str).length) : bindArgs (PySem.W.fnOf "_law_drawn" "_law_drawn" (defArgs sx_drawn) (defBody sx_drawn) (defScope sx_drawn) .none kV doc pm an cdv ct) ⟨us, []⟩ = pure ((["_law_source_here", "_law_parts", "_law_rooms_here"] : List Str).zip us) := match us, hl with | [_, _, _], _ => rfl
theorem bd_without (kV doc pm : Value) (an : Option Addr) (cdv ct : Value) (us : List Value) (hl : us.length = (["_law_parts", "_law_name"] : List Str).length) : bindArgs (PySem.W.fnOf "_law_without" "_law_without" (defArgs sx_without) (defBody sx_without) (defScope sx_without) .none kV doc pm an cdv ct) ⟨us, []⟩ = pure ((["_law_parts", "_law_name"] : List Str).zip us) := match us, hl with | [_, _], _ => rfl
theorem bd_halved (kV doc pm : Value) (an : Option Addr) (cdv ct : Value) (us : List Value) (hl : us.length = (["_law_parts", "_law_kind", "_law_size"] : List Str).length) : bindArgs (PySem.W.fnOf "_law_halved" "_law_halved" (defArgs sx_halved) (defBody sx_halved) (defScope sx_halved) .none kV doc pm an cdv ct) ⟨us, []⟩ = pure ((["_law_parts", "_law_kind", "_law_size"] : List Str).zip us) := match us, hl with | [_, _, _], _ => rfl
theorem bd_left (kV doc pm : Value) (an : Option Addr) (cdv ct : Value) (us : List Value) (hl : us.length = (["_law_tree_here", "_law_rows"] : List Str).length) : bindArgs (PySem.W.fnOf "_law_left" "_law_left" (defArgs sx_left) (defBody sx_left) (defScope sx_left) .none kV doc pm an cdv ct) ⟨us, []⟩ = pure ((["_law_tree_here", "_law_rows"] : List Str).zip us) := match us, hl with | [_, _], _ => rfl
theorem bd_no_more (kV doc pm : Value) (an : Option Addr) (cdv ct : Value) (us : List Value) (hl : us.length = (["_law_tree_here", "_law_rooms_here", "_law_less", "_law_rows"] : List Str).length) : bindArgs (PySem.W.fnOf "_law_no_more" "_law_no_more" (defArgs sx_no_more) (defBody sx_no_more) (defScope sx_no_more) .none kV doc pm an cdv ct) ⟨us, []⟩ = pure ((["_law_tree_here", "_law_rooms_here", "_law_less", "_law_rows"] : List Str).zip us) := match us, hl with | [_, _, _, _], _ => rfl
theorem bd_windows_right (kV doc pm : Value) (an : Option Addr) (cdv ct : Value) (us : List Value) (hl : us.length = (["_law_tree_here", "_law_rows"] : List Str).length) : bindArgs (PySem.W.fnOf "_law_windows_right" "_law_windows_right" (defArgs sx_windows_right) (defBody sx_windows_right) (defScope sx_windows_right) .none kV doc pm an cdv ct) ⟨us, []⟩ = pure ((["_law_tree_here", "_law_rows"] : List Str).zip us) := match us, hl with | [_, _], _ => rfl
section
variable {w : World} {K : PySem.W.Frag} {mg : Str → Option Value}
theorem all_mk {l : PySem.W.OpenLaw} {h : Heap} {fa kd : Addr} (X : K.In h) (G : h.Ns mainGlobals mg) (hfa : mg "law" = some (.ref fa))
    (d_is_integer : DefAt K "is_integer" sx_is_integer)
    (d_is_size : DefAt K "is_size" sx_is_size)
    (d_is_block : DefAt K "is_block" sx_is_block)
    (d_capacity : DefAt K "capacity" sx_capacity)
    (d_wanted_from : DefAt K "wanted_from" sx_wanted_from)
    (d_reason : DefAt K "reason" sx_reason)
    (d_has_form : DefAt K "has_form" sx_has_form)
    (d_is_device : DefAt K "is_device" sx_is_device)
    (d_is_bridge : DefAt K "is_bridge" sx_is_bridge)
    (d_parts_of : DefAt K "parts_of" sx_parts_of)
    (d_placed_in : DefAt K "placed_in" sx_placed_in)
    (d_placed : DefAt K "placed" sx_placed)
    (d_with_parts : DefAt K "with_parts" sx_with_parts)
    (d_part_only : DefAt K "part_only" sx_part_only)
    (d_only : DefAt K "only" sx_only)
    (d_power_from : DefAt K "power_from" sx_power_from)
    (d_area_sizes : DefAt K "area_sizes" sx_area_sizes)
    (d_least_size : DefAt K "least_size" sx_least_size)
    (d_sizes_on : DefAt K "sizes_on" sx_sizes_on)
    (d_bridges_of : DefAt K "bridges_of" sx_bridges_of)
    (d_least_windows : DefAt K "least_windows" sx_least_windows)
    (d_wanted : DefAt K "wanted" sx_wanted)
    (d_refusal : DefAt K "refusal" sx_refusal)
    (d_is_window : DefAt K "is_window" sx_is_window)
    (d_is_row : DefAt K "is_row" sx_is_row)
    (d_blocks_of : DefAt K "blocks_of" sx_blocks_of)
    (d_blocks_on : DefAt K "blocks_on" sx_blocks_on)
    (d_lies_within : DefAt K "lies_within" sx_lies_within)
    (d_are_apart : DefAt K "are_apart" sx_are_apart)
    (d_are_placed : DefAt K "are_placed" sx_are_placed)
    (d_room_below : DefAt K "room_below" sx_room_below)
    (d_assignment_holds : DefAt K "assignment_holds" sx_assignment_holds)
    (d_source : DefAt K "_law_source" sx_source)
    (d_below : DefAt K "_law_below" sx_below)
    (d_pick : DefAt K "_law_pick" sx_pick)
    (d_area : DefAt K "_law_area" sx_area)
    (d_part : DefAt K "_law_part" sx_part)
    (d_tree : DefAt K "_law_tree" sx_tree)
    (d_deep : DefAt K "_law_deep" sx_deep)
    (d_lplaced : DefAt K "_law_placed" sx_lplaced)
    (d_sizes : DefAt K "_law_sizes" sx_sizes)
    (d_least : DefAt K "_law_least" sx_least)
    (d_units : DefAt K "_law_units" sx_units)
    (d_room : DefAt K "_law_room" sx_room)
    (d_rooms : DefAt K "_law_rooms" sx_rooms)
    (d_halves : DefAt K "_law_halves" sx_halves)
    (d_both : DefAt K "_law_both" sx_both)
    (d_fitting : DefAt K "_law_fitting" sx_fitting)
    (d_free : DefAt K "_law_free" sx_free)
    (d_cut : DefAt K "_law_cut" sx_cut)
    (d_turns : DefAt K "_law_turns" sx_turns)
    (d_put : DefAt K "_law_put" sx_put)
    (d_grown : DefAt K "_law_grown" sx_grown)
    (d_drawn : DefAt K "_law_drawn" sx_drawn)
    (d_without : DefAt K "_law_without" sx_without)
    (d_halved : DefAt K "_law_halved" sx_halved)
    (d_left : DefAt K "_law_left" sx_left)
    (d_no_more : DefAt K "_law_no_more" sx_no_more)
    (d_windows_right : DefAt K "_law_windows_right" sx_windows_right)
    {fl : Addr} {oc : Value} {od : Option Addr} {kV dc pm : Value} {an : Option Addr} {cd ct : Value} {sl : Array (Option Value)} (a1 : PySem.W.nsIn K mainGlobals "law" = some (some (.ref fl))) (l1 : K.lookup fl = some ⟨oc, od, .func (PySem.W.fnOf "law" "law" (defArgs sx_law) (defBody sx_law) (defScope sx_law) .none kV dc pm an cd ct), sl⟩) (c1 : PySem.W.codeIn K cd "law" = true) (k1 : PySem.W.keepIn K (.ref fl) = true)
    (z_len : PySem.W.nsIn K mainGlobals "len" = some none)
    (z_tuple : PySem.W.nsIn K mainGlobals "tuple" = some none)
    (z_list : PySem.W.nsIn K mainGlobals "list" = some none)
    (z_sum : PySem.W.nsIn K mainGlobals "sum" = some none)
    (z_sorted : PySem.W.nsIn K mainGlobals "sorted" = some none)
    (z_set : PySem.W.nsIn K mainGlobals "set" = some none)
    (z_all : PySem.W.nsIn K mainGlobals "all" = some none)
    (z_any : PySem.W.nsIn K mainGlobals "any" = some none)
    (z_isinstance : PySem.W.nsIn K mainGlobals "isinstance" = some none)
    (z_int : PySem.W.nsIn K mainGlobals "int" = some none)
    (z_bool : PySem.W.nsIn K mainGlobals "bool" = some none)
    (z_str : PySem.W.nsIn K mainGlobals "str" = some none)
    (z_min : PySem.W.nsIn K mainGlobals "min" = some none)
    (z_max : PySem.W.nsIn K mainGlobals "max" = some none)
    (z_abs : PySem.W.nsIn K mainGlobals "abs" = some none)
    (z_range : PySem.W.nsIn K mainGlobals "range" = some none)
    (z_zip : PySem.W.nsIn K mainGlobals "zip" = some none)
    (z_enumerate : PySem.W.nsIn K mainGlobals "enumerate" = some none)
    {t_SPACE : Nat} (g_SPACE : PySem.W.nsIn K mainGlobals "SPACE" = some (some (.int 281474976710656 t_SPACE)))
    {t_LEAST : Nat} (g_LEAST : PySem.W.nsIn K mainGlobals "LEAST" = some (some (.int 16 t_LEAST)))
    {t_GRAIN : Nat} (g_GRAIN : PySem.W.nsIn K mainGlobals "GRAIN" = some (some (.int 4096 t_GRAIN)))
    (g_KINDS : PySem.W.nsIn K mainGlobals "KINDS" = some (some (.ref kd))) {its : Array Value} {n : Nat} {sl2 : Array (Option Value)} (kl : K.lookup kd = some ⟨.type "tuple", none, .seq its n, sl2⟩) (kv : Vals [.str kF, .str kN] its.toList) (kz : its.size ≤ sizeLine) :
    ∃ fd : FuncData, (∀ (s : Shared) (v : Value), BindsTo s fd ⟨[v], []⟩ [("_law_script", v)]) ∧ ∀ base : Heap, K.In base → base.Ns mainGlobals mg → FnOk l.prog w K mg base CX0 100 fa fd ["_law_script"] (spLaw K) := by
  have e := hfa.symm.trans (PySem.W.mg_of X G a1)
  cases e
  have F := fun_mk (st := sx_law) l1 c1 k1
  have bi : Bi mg kd := ⟨PySem.W.mg_none_of X G z_len, PySem.W.mg_none_of X G z_tuple, PySem.W.mg_none_of X G z_list, PySem.W.mg_none_of X G z_sum, PySem.W.mg_none_of X G z_sorted, PySem.W.mg_none_of X G z_set, PySem.W.mg_none_of X G z_all, PySem.W.mg_none_of X G z_any, PySem.W.mg_none_of X G z_isinstance, PySem.W.mg_none_of X G z_int, PySem.W.mg_none_of X G z_bool, PySem.W.mg_none_of X G z_str, PySem.W.mg_none_of X G z_min, PySem.W.mg_none_of X G z_max, PySem.W.mg_none_of X G z_abs, PySem.W.mg_none_of X G z_range, PySem.W.mg_none_of X G z_zip, PySem.W.mg_none_of X G z_enumerate, ⟨_, PySem.W.mg_of X G g_SPACE, ⟨_, rfl⟩⟩, ⟨_, PySem.W.mg_of X G g_LEAST, ⟨_, rfl⟩⟩, ⟨_, PySem.W.mg_of X G g_GRAIN, ⟨_, rfl⟩⟩, ⟨_, PySem.W.mg_of X G g_KINDS, rfl⟩⟩
  have hK : Kd K kd := ⟨fun H => .inr ⟨_, its, n, kl, rfl, rfl, kz, kv⟩, fun H => .inr (.inl ⟨rfl, _, kl, rfl, rfl⟩)⟩
  refine ⟨_, fun s v => .of_eq rfl, fun base _ _ => law_all bi hK (at_of X G d_is_integer bd_is_integer) (at_of X G d_is_size bd_is_size) (at_of X G d_is_block bd_is_block) (at_of X G d_capacity bd_capacity) (at_of X G d_wanted_from bd_wanted_from) (at_of X G d_reason bd_reason) (at_of X G d_has_form bd_has_form) (at_of X G d_is_device bd_is_device) (at_of X G d_is_bridge bd_is_bridge) (at_of X G d_parts_of bd_parts_of) (at_of X G d_placed_in bd_placed_in) (at_of X G d_placed bd_placed) (at_of X G d_with_parts bd_with_parts) (at_of X G d_part_only bd_part_only) (at_of X G d_only bd_only) (at_of X G d_power_from bd_power_from) (at_of X G d_area_sizes bd_area_sizes) (at_of X G d_least_size bd_least_size) (at_of X G d_sizes_on bd_sizes_on) (at_of X G d_bridges_of bd_bridges_of) (at_of X G d_least_windows bd_least_windows) (at_of X G d_wanted bd_wanted) (at_of X G d_refusal bd_refusal) (at_of X G d_is_window bd_is_window) (at_of X G d_is_row bd_is_row) (at_of X G d_blocks_of bd_blocks_of) (at_of X G d_blocks_on bd_blocks_on) (at_of X G d_lies_within bd_lies_within) (at_of X G d_are_apart bd_are_apart) (at_of X G d_are_placed bd_are_placed) (at_of X G d_room_below bd_room_below) (at_of X G d_assignment_holds bd_assignment_holds) (at_of X G d_source bd_source) (at_of X G d_below bd_below) (at_of X G d_pick bd_pick) (at_of X G d_area bd_area) (at_of X G d_part bd_part) (at_of X G d_tree bd_tree) (at_of X G d_deep bd_deep) (at_of X G d_lplaced bd_lplaced) (at_of X G d_sizes bd_sizes) (at_of X G d_least bd_least) (at_of X G d_units bd_units) (at_of X G d_room bd_room) (at_of X G d_rooms bd_rooms) (at_of X G d_halves bd_halves) (at_of X G d_both bd_both) (at_of X G d_fitting bd_fitting) (at_of X G d_free bd_free) (at_of X G d_cut bd_cut) (at_of X G d_turns bd_turns) (at_of X G d_put bd_put) (at_of X G d_grown bd_grown) (at_of X G d_drawn bd_drawn) (at_of X G d_without bd_without) (at_of X G d_halved bd_halved) (at_of X G d_left bd_left) (at_of X G d_no_more bd_no_more) (at_of X G d_windows_right bd_windows_right) F⟩
end
end Bw

open PySem PySem.W PyProof.Rows
set_option maxHeartbeats 0 in
theorem PySem.Challenge.cw_buswindows_k31_whole_fewer_and_smaller_holds : PySem.Challenge.rw_buswindows_k31_whole_fewer_and_smaller.Holds := by
  w_on; o_law; k_head; (case hw => w_witness2)
  k_fill
  refine L2.walk_of (l := PySem.Challenge.rw_buswindows_k31_whole_fewer_and_smaller) (n := 63) (k := 100) (x := "_law_script") (CX := fun _ => L2.CX0) (sp := fun w => Bw.spLaw _) rfl (by decide) rfl ⟨rfl, by decide, by decide⟩ (fun w h Y => PySem.W.kIn_of Y) ?F (fun _ _ a ns hl _ hS => ⟨a, ns, rfl, hS, hl, fun _ => rfl⟩) (fun _ _ _ _ _ h => h)
  case F =>
    intro w mg fa h KX G hmg
    refine' Bw.all_mk KX G hmg ?d_is_integer ?d_is_size ?d_is_block ?d_capacity ?d_wanted_from ?d_reason ?d_has_form ?d_is_device ?d_is_bridge ?d_parts_of ?d_placed_in ?d_placed ?d_with_parts ?d_part_only ?d_only ?d_power_from ?d_area_sizes ?d_least_size ?d_sizes_on ?d_bridges_of ?d_least_windows ?d_wanted ?d_refusal ?d_is_window ?d_is_row ?d_blocks_of ?d_blocks_on ?d_lies_within ?d_are_apart ?d_are_placed ?d_room_below ?d_assignment_holds ?d_source ?d_below ?d_pick ?d_area ?d_part ?d_tree ?d_deep ?d_lplaced ?d_sizes ?d_least ?d_units ?d_room ?d_rooms ?d_halves ?d_both ?d_fitting ?d_free ?d_cut ?d_turns ?d_put ?d_grown ?d_drawn ?d_without ?d_halved ?d_left ?d_no_more ?d_windows_right ?a1 ?l1 ?c1 ?k1 ?z_len ?z_tuple ?z_list ?z_sum ?z_sorted ?z_set ?z_all ?z_any ?z_isinstance ?z_int ?z_bool ?z_str ?z_min ?z_max ?z_abs ?z_range ?z_zip ?z_enumerate ?g_SPACE ?g_LEAST ?g_GRAIN ?g_KINDS ?kl ?kv ?kz
    (case d_is_integer => refine' Bw.DefAt.mk ?a ?l ?c ?k; (case a => k_is); (case l => k_is); (case c => k_is); (case k => k_is))
    (case d_is_size => refine' Bw.DefAt.mk ?a ?l ?c ?k; (case a => k_is); (case l => k_is); (case c => k_is); (case k => k_is))
    (case d_is_block => refine' Bw.DefAt.mk ?a ?l ?c ?k; (case a => k_is); (case l => k_is); (case c => k_is); (case k => k_is))
    (case d_capacity => refine' Bw.DefAt.mk ?a ?l ?c ?k; (case a => k_is); (case l => k_is); (case c => k_is); (case k => k_is))
    (case d_wanted_from => refine' Bw.DefAt.mk ?a ?l ?c ?k; (case a => k_is); (case l => k_is); (case c => k_is); (case k => k_is))
    (case d_reason => refine' Bw.DefAt.mk ?a ?l ?c ?k; (case a => k_is); (case l => k_is); (case c => k_is); (case k => k_is))
    (case d_has_form => refine' Bw.DefAt.mk ?a ?l ?c ?k; (case a => k_is); (case l => k_is); (case c => k_is); (case k => k_is))
    (case d_is_device => refine' Bw.DefAt.mk ?a ?l ?c ?k; (case a => k_is); (case l => k_is); (case c => k_is); (case k => k_is))
    (case d_is_bridge => refine' Bw.DefAt.mk ?a ?l ?c ?k; (case a => k_is); (case l => k_is); (case c => k_is); (case k => k_is))
    (case d_parts_of => refine' Bw.DefAt.mk ?a ?l ?c ?k; (case a => k_is); (case l => k_is); (case c => k_is); (case k => k_is))
    (case d_placed_in => refine' Bw.DefAt.mk ?a ?l ?c ?k; (case a => k_is); (case l => k_is); (case c => k_is); (case k => k_is))
    (case d_placed => refine' Bw.DefAt.mk ?a ?l ?c ?k; (case a => k_is); (case l => k_is); (case c => k_is); (case k => k_is))
    (case d_with_parts => refine' Bw.DefAt.mk ?a ?l ?c ?k; (case a => k_is); (case l => k_is); (case c => k_is); (case k => k_is))
    (case d_part_only => refine' Bw.DefAt.mk ?a ?l ?c ?k; (case a => k_is); (case l => k_is); (case c => k_is); (case k => k_is))
    (case d_only => refine' Bw.DefAt.mk ?a ?l ?c ?k; (case a => k_is); (case l => k_is); (case c => k_is); (case k => k_is))
    (case d_power_from => refine' Bw.DefAt.mk ?a ?l ?c ?k; (case a => k_is); (case l => k_is); (case c => k_is); (case k => k_is))
    (case d_area_sizes => refine' Bw.DefAt.mk ?a ?l ?c ?k; (case a => k_is); (case l => k_is); (case c => k_is); (case k => k_is))
    (case d_least_size => refine' Bw.DefAt.mk ?a ?l ?c ?k; (case a => k_is); (case l => k_is); (case c => k_is); (case k => k_is))
    (case d_sizes_on => refine' Bw.DefAt.mk ?a ?l ?c ?k; (case a => k_is); (case l => k_is); (case c => k_is); (case k => k_is))
    (case d_bridges_of => refine' Bw.DefAt.mk ?a ?l ?c ?k; (case a => k_is); (case l => k_is); (case c => k_is); (case k => k_is))
    (case d_least_windows => refine' Bw.DefAt.mk ?a ?l ?c ?k; (case a => k_is); (case l => k_is); (case c => k_is); (case k => k_is))
    (case d_wanted => refine' Bw.DefAt.mk ?a ?l ?c ?k; (case a => k_is); (case l => k_is); (case c => k_is); (case k => k_is))
    (case d_refusal => refine' Bw.DefAt.mk ?a ?l ?c ?k; (case a => k_is); (case l => k_is); (case c => k_is); (case k => k_is))
    (case d_is_window => refine' Bw.DefAt.mk ?a ?l ?c ?k; (case a => k_is); (case l => k_is); (case c => k_is); (case k => k_is))
    (case d_is_row => refine' Bw.DefAt.mk ?a ?l ?c ?k; (case a => k_is); (case l => k_is); (case c => k_is); (case k => k_is))
    (case d_blocks_of => refine' Bw.DefAt.mk ?a ?l ?c ?k; (case a => k_is); (case l => k_is); (case c => k_is); (case k => k_is))
    (case d_blocks_on => refine' Bw.DefAt.mk ?a ?l ?c ?k; (case a => k_is); (case l => k_is); (case c => k_is); (case k => k_is))
    (case d_lies_within => refine' Bw.DefAt.mk ?a ?l ?c ?k; (case a => k_is); (case l => k_is); (case c => k_is); (case k => k_is))
    (case d_are_apart => refine' Bw.DefAt.mk ?a ?l ?c ?k; (case a => k_is); (case l => k_is); (case c => k_is); (case k => k_is))
    (case d_are_placed => refine' Bw.DefAt.mk ?a ?l ?c ?k; (case a => k_is); (case l => k_is); (case c => k_is); (case k => k_is))
    (case d_room_below => refine' Bw.DefAt.mk ?a ?l ?c ?k; (case a => k_is); (case l => k_is); (case c => k_is); (case k => k_is))
    (case d_assignment_holds => refine' Bw.DefAt.mk ?a ?l ?c ?k; (case a => k_is); (case l => k_is); (case c => k_is); (case k => k_is))
    (case d_source => refine' Bw.DefAt.mk ?a ?l ?c ?k; (case a => k_is); (case l => k_is); (case c => k_is); (case k => k_is))
    (case d_below => refine' Bw.DefAt.mk ?a ?l ?c ?k; (case a => k_is); (case l => k_is); (case c => k_is); (case k => k_is))
    (case d_pick => refine' Bw.DefAt.mk ?a ?l ?c ?k; (case a => k_is); (case l => k_is); (case c => k_is); (case k => k_is))
    (case d_area => refine' Bw.DefAt.mk ?a ?l ?c ?k; (case a => k_is); (case l => k_is); (case c => k_is); (case k => k_is))
    (case d_part => refine' Bw.DefAt.mk ?a ?l ?c ?k; (case a => k_is); (case l => k_is); (case c => k_is); (case k => k_is))
    (case d_tree => refine' Bw.DefAt.mk ?a ?l ?c ?k; (case a => k_is); (case l => k_is); (case c => k_is); (case k => k_is))
    (case d_deep => refine' Bw.DefAt.mk ?a ?l ?c ?k; (case a => k_is); (case l => k_is); (case c => k_is); (case k => k_is))
    (case d_lplaced => refine' Bw.DefAt.mk ?a ?l ?c ?k; (case a => k_is); (case l => k_is); (case c => k_is); (case k => k_is))
    (case d_sizes => refine' Bw.DefAt.mk ?a ?l ?c ?k; (case a => k_is); (case l => k_is); (case c => k_is); (case k => k_is))
    (case d_least => refine' Bw.DefAt.mk ?a ?l ?c ?k; (case a => k_is); (case l => k_is); (case c => k_is); (case k => k_is))
    (case d_units => refine' Bw.DefAt.mk ?a ?l ?c ?k; (case a => k_is); (case l => k_is); (case c => k_is); (case k => k_is))
    (case d_room => refine' Bw.DefAt.mk ?a ?l ?c ?k; (case a => k_is); (case l => k_is); (case c => k_is); (case k => k_is))
    (case d_rooms => refine' Bw.DefAt.mk ?a ?l ?c ?k; (case a => k_is); (case l => k_is); (case c => k_is); (case k => k_is))
    (case d_halves => refine' Bw.DefAt.mk ?a ?l ?c ?k; (case a => k_is); (case l => k_is); (case c => k_is); (case k => k_is))
    (case d_both => refine' Bw.DefAt.mk ?a ?l ?c ?k; (case a => k_is); (case l => k_is); (case c => k_is); (case k => k_is))
    (case d_fitting => refine' Bw.DefAt.mk ?a ?l ?c ?k; (case a => k_is); (case l => k_is); (case c => k_is); (case k => k_is))
    (case d_free => refine' Bw.DefAt.mk ?a ?l ?c ?k; (case a => k_is); (case l => k_is); (case c => k_is); (case k => k_is))
    (case d_cut => refine' Bw.DefAt.mk ?a ?l ?c ?k; (case a => k_is); (case l => k_is); (case c => k_is); (case k => k_is))
    (case d_turns => refine' Bw.DefAt.mk ?a ?l ?c ?k; (case a => k_is); (case l => k_is); (case c => k_is); (case k => k_is))
    (case d_put => refine' Bw.DefAt.mk ?a ?l ?c ?k; (case a => k_is); (case l => k_is); (case c => k_is); (case k => k_is))
    (case d_grown => refine' Bw.DefAt.mk ?a ?l ?c ?k; (case a => k_is); (case l => k_is); (case c => k_is); (case k => k_is))
    (case d_drawn => refine' Bw.DefAt.mk ?a ?l ?c ?k; (case a => k_is); (case l => k_is); (case c => k_is); (case k => k_is))
    (case d_without => refine' Bw.DefAt.mk ?a ?l ?c ?k; (case a => k_is); (case l => k_is); (case c => k_is); (case k => k_is))
    (case d_halved => refine' Bw.DefAt.mk ?a ?l ?c ?k; (case a => k_is); (case l => k_is); (case c => k_is); (case k => k_is))
    (case d_left => refine' Bw.DefAt.mk ?a ?l ?c ?k; (case a => k_is); (case l => k_is); (case c => k_is); (case k => k_is))
    (case d_no_more => refine' Bw.DefAt.mk ?a ?l ?c ?k; (case a => k_is); (case l => k_is); (case c => k_is); (case k => k_is))
    (case d_windows_right => refine' Bw.DefAt.mk ?a ?l ?c ?k; (case a => k_is); (case l => k_is); (case c => k_is); (case k => k_is))
    (case a1 => k_is); (case l1 => k_is); (case c1 => k_is); (case k1 => k_is)
    (case z_len => k_is)
    (case z_tuple => k_is)
    (case z_list => k_is)
    (case z_sum => k_is)
    (case z_sorted => k_is)
    (case z_set => k_is)
    (case z_all => k_is)
    (case z_any => k_is)
    (case z_isinstance => k_is)
    (case z_int => k_is)
    (case z_bool => k_is)
    (case z_str => k_is)
    (case z_min => k_is)
    (case z_max => k_is)
    (case z_abs => k_is)
    (case z_range => k_is)
    (case z_zip => k_is)
    (case z_enumerate => k_is)
    (case g_SPACE => k_is)
    (case g_LEAST => k_is)
    (case g_GRAIN => k_is)
    (case g_KINDS => k_is)
    (case kl => k_is)
    (case kv => exact .cons ⟨_, rfl⟩ (.cons ⟨_, rfl⟩ .nil))
    (case kz => decide)
