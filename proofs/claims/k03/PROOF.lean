import PyProof.Rows.All
import Wide.All
import OpenK.AllK
import Wide.FinOn
import HandS.ForMost
import HandS.TryOnly
import HandS.IsInst
import HandS.Deep
import HandS.Steps
import HandS.Flow
import HandS.Style
import HandS.Zip
import HandS.TupAny
import HandS.More
import HandS.Walk
import HandS.Evl
import HandS.ForExc
import HandS.Lambda
import HandS.EndTab
import KE.SortKeyHeap
import PyProof.Draws
import PyProof.EnumMake
import HandS.DictComp
import KE.GoesComp
import KE.GoesMore
import KE.KDictCopyH
import PySem.Challenge.RW_textwhole_k03_whole_no_deed_moves_a_char
set_option Elab.async false
set_option linter.all false
set_option maxRecDepth 100000
set_option maxHeartbeats 4000000

/-! Zl: a small layer over HandS: what is owned (Own), data (Dp) over what stays, readings with names and their steps. -/
namespace Zl
open PySem PySem.Spec PyProof.Rows L2

/-! ### what is owned: cells cs apart from the frame B -/
structure Own (B : Hp) (cs : List (Addr × HO)) (H : Hp) : Prop where
  fr : Same B H
  out : ∀ c ∈ cs, B c.1 = none
  have_ : ∀ c ∈ cs, H c.1 = some c.2
  nd : (cs.map (·.1)).Nodup
theorem Own.start (H : Hp) : Own H [] H := ⟨Same.refl H, fun _ h => (nomatch h), fun _ h => (nomatch h), List.nodup_nil⟩
section
variable {B B' H H' : Hp} {cs cs' : List (Addr × HO)} {a p : Addr} {o o' : HO} {j : Nat} {K : PySem.W.Frag}
theorem Own.get (O : Own B cs H) (j : Nat) (h : cs[j]? = some (a, o) := by rfl) : H a = some o := O.have_ (a, o) (List.mem_of_getElem? h)
theorem Own.lst {xs : List V} (O : Own B cs H) (j : Nat) (h : cs[j]? = some (a, .lst xs) := by rfl) : SqL K H a xs := .inl (.inl (O.get j h))
theorem Own.tup {xs : List V} (O : Own B cs H) (j : Nat) (h : cs[j]? = some (a, .tup xs) := by rfl) : SqT K H a xs := .inl (.inl (O.get j h))
theorem Own.ex (O : Own B cs H) (e : Same H H') : Own B cs H' := ⟨O.fr.trans e, O.out, fun c hc => e _ _ (O.have_ c hc), O.nd⟩
theorem Own.fresh (O : Own B cs H) (np : H p = none) : B p = none ∧ ∀ c ∈ cs, c.1 ≠ p := by
  refine ⟨O.fr.free np, fun c hc e => ?_⟩
  have h := O.have_ c hc
  rw [e, np] at h
  cases h
theorem Own.new (O : Own B cs H) (e : Same H H') (np : H p = none) (hp : H' p = some o) : Own B ((p, o) :: cs) H' := by
  obtain ⟨h1, h2⟩ := O.fresh np
  refine ⟨O.fr.trans e, fun c hc => ?_, fun c hc => ?_, ?_⟩
  · rcases List.mem_cons.mp hc with rfl | hc
    · exact h1
    · exact O.out c hc
  · rcases List.mem_cons.mp hc with rfl | hc
    · exact hp
    · exact e _ _ (O.have_ c hc)
  · refine List.nodup_cons.mpr ⟨fun hm => ?_, O.nd⟩
    obtain ⟨c, hc, e'⟩ := List.mem_map.mp hm
    exact h2 c hc e'
theorem Same.upd (np : H p = none) : Same H (upd H p o) := fun b x e => by
  rw [upd_ne (ne_of_none e np)]
  exact e
theorem Own.alloc (O : Own B cs H) (np : H p = none) : Own B ((p, o) :: cs) (upd H p o) := O.new (Same.upd np) np upd_same
theorem mem_set {α : Type} {l : List α} {j : Nat} {x y : α} (h : y ∈ l.set j x) : y = x ∨ ∃ i, i ≠ j ∧ l[i]? = some y := by
  obtain ⟨i, hi, e⟩ := List.mem_iff_getElem.mp h
  rw [List.getElem_set] at e
  split at e
  · exact .inl e.symm
  · rename_i hne
    refine .inr ⟨i, fun q => hne q.symm, ?_⟩
    rw [List.length_set] at hi
    rw [List.getElem?_eq_getElem hi, e]
theorem Own.mut (O : Own B cs H) (j : Nat) (h : cs[j]? = some (a, o)) (e : ∀ b u, b ≠ a → H b = some u → H' b = some u) (ha : H' a = some o') : Own B (cs.set j (a, o')) H' := by
  have hm : (a, o) ∈ cs := List.mem_of_getElem? h
  have hB : B a = none := O.out _ hm
  have key : (cs.set j (a, o')).map (·.1) = cs.map (·.1) := by
    rw [List.map_set]
    apply List.ext_getElem?
    intro i
    rw [List.getElem?_set]
    split
    · rename_i hij
      subst hij
      rw [List.getElem?_map, h]
      split
      · rfl
      · rename_i hl
        have := (List.getElem?_eq_some_iff.mp h).1
        rw [List.length_map] at hl
        exact absurd this hl
    · rfl
  have apart : ∀ i c, i ≠ j → cs[i]? = some c → c.1 ≠ a := by
    intro i c hij hc e'
    have h1 : (cs.map (·.1))[i]? = some a := by rw [List.getElem?_map, hc, ← e'] <;> rfl
    have h2 : (cs.map (·.1))[j]? = some a := by rw [List.getElem?_map, h] <;> rfl
    exact hij (nd_ix O.nd h1 h2)
  refine ⟨fun b x hb => ?_, fun c hc => ?_, fun c hc => ?_, by rw [key]; exact O.nd⟩
  · refine e b x (fun q => ?_) (O.fr b x hb)
    rw [q, hB] at hb
    cases hb
  · rcases mem_set hc with rfl | ⟨i, hi, hg⟩
    · exact hB
    · exact O.out c (List.mem_of_getElem? hg)
  · rcases mem_set hc with rfl | ⟨i, hi, hg⟩
    · exact ha
    · exact e _ _ (apart i c hi hg) (O.have_ c (List.mem_of_getElem? hg))
theorem Own.ne {b : Addr} {o2 : HO} (O : Own B cs H) (i j : Nat) (hi : cs[i]? = some (a, o)) (hj : cs[j]? = some (b, o2)) (hij : i ≠ j) : a ≠ b := by
  intro e
  subst e
  have h1 : (cs.map (·.1))[i]? = some a := by rw [List.getElem?_map, hi] <;> rfl
  have h2 : (cs.map (·.1))[j]? = some a := by rw [List.getElem?_map, hj] <;> rfl
  exact hij (nd_ix O.nd h1 h2)
theorem Own.neB {b : Addr} {o2 : HO} (O : Own B cs H) (i : Nat) (hi : cs[i]? = some (a, o)) (hb : B b = some o2) : b ≠ a := by
  intro e
  subst e
  rw [O.out _ (List.mem_of_getElem? hi)] at hb
  cases hb
theorem Own.set (O : Own B cs H) (j : Nat) (h : cs[j]? = some (a, o)) : Own B (cs.set j (a, o')) (upd H a o') :=
  O.mut j h (fun b u hb hu => by rw [upd_ne hb]; exact hu) upd_same
theorem Own.sub (O : Own B cs H) (s : cs'.Sublist cs) : Own B cs' H :=
  ⟨O.fr, fun c hc => O.out c (s.subset hc), fun c hc => O.have_ c (s.subset hc), O.nd.sublist (s.map _)⟩
theorem Own.tail {c : Addr × HO} (O : Own B (c :: cs) H) : Own B cs H := O.sub (List.sublist_cons_self _ _)
theorem Own.swap {c d : Addr × HO} (O : Own B (c :: d :: cs) H) : Own B (d :: c :: cs) H :=
  ⟨O.fr, fun x hx => O.out x (by simp only [List.mem_cons] at hx ⊢; rcases hx with h | h | h <;> simp [h]), fun x hx => O.have_ x (by simp only [List.mem_cons] at hx ⊢; rcases hx with h | h | h <;> simp [h]), by
    have h := O.nd
    simp only [List.map_cons, List.nodup_cons, List.mem_cons, not_or] at h ⊢
    exact ⟨⟨fun e => h.1.1 e.symm, h.2.1⟩, h.1.2, h.2.2⟩⟩
/-- the cells that are kept, in any order -/
theorem Own.sel (O : Own B cs H) (h : ∀ c ∈ cs', c ∈ cs) (nd : (cs'.map (·.1)).Nodup) : Own B cs' H := ⟨O.fr, fun c hc => O.out c (h c hc), fun c hc => O.have_ c (h c hc), nd⟩
theorem Own.perm (O : Own B cs H) (s : cs'.Perm cs) : Own B cs' H :=
  ⟨O.fr, fun c hc => O.out c (s.subset hc), fun c hc => O.have_ c (s.subset hc), (s.map _).nodup_iff.mpr O.nd⟩
theorem Own.rot (O : Own B cs H) (k : Nat) : Own B (cs.drop k ++ cs.take k) H := O.perm (by
  have h := List.perm_append_comm (l₁ := cs.drop k) (l₂ := cs.take k)
  rwa [List.take_append_drop] at h)
theorem Own.rotT {c : Addr × HO} (O : Own B (c :: cs) H) (k : Nat) : Own B (c :: (cs.drop k ++ cs.take k)) H := O.perm ((by
  have h := List.perm_append_comm (l₁ := cs.drop k) (l₂ := cs.take k)
  rwa [List.take_append_drop] at h : (cs.drop k ++ cs.take k).Perm cs).cons c)
/-- the first cell stays from now on -/
theorem Own.freeze (O : Own B ((p, o) :: cs) H) : Own (L2.upd B p o) cs H := by
  have hnd := List.nodup_cons.mp (show (p :: cs.map (·.1)).Nodup from O.nd)
  refine ⟨fun b x hb => ?_, fun c hc => ?_, fun c hc => O.have_ c (.tail _ hc), hnd.2⟩
  · by_cases hbp : b = p
    · subst hbp
      rw [upd_same] at hb
      cases hb
      exact O.have_ _ (.head _)
    · rw [upd_ne hbp] at hb
      exact O.fr b x hb
  · rw [upd_ne (fun q => hnd.1 (by rw [← q]; exact List.mem_map.mpr ⟨c, hc, rfl⟩))]
    exact O.out c (.tail _ hc)
theorem Own.freezeB (O : Own B ((p, o) :: cs) H) : Same B (L2.upd B p o) := Same.upd (O.out _ (.head _))
/-- a callee's result: what stood stands, and is it a new thing -/
theorem Own.back (O : Own B cs H) (e : ∀ b u, B b = some u → H' b = some u) (k : ∀ c ∈ cs, H' c.1 = some c.2) : Own B cs H' := ⟨e, O.out, k, O.nd⟩
theorem own_new {Q : VK} (O : Own B cs H) (k : ∀ p H', H p = none → Own B ((p, o) :: cs) H' → Q (.ref p) H') : ∀ p, H p = none → Q (.ref p) (L2.upd H p o) :=
  fun p np => k p _ np (O.alloc np)
end

/-- the heap without some of its things: what a def may not touch -/
def dels (H : Hp) (as : List Addr) : Hp := fun b => if b ∈ as then none else H b
theorem dels_in {H : Hp} {as : List Addr} {b : Addr} (h : b ∈ as) : dels H as b = none := by unfold dels; rw [if_pos h]
theorem dels_out {H : Hp} {as : List Addr} {b : Addr} (h : b ∉ as) : dels H as b = H b := by unfold dels; rw [if_neg h]
theorem dels_same (H : Hp) (as : List Addr) : Same (dels H as) H := fun b o h => by
  unfold dels at h
  split at h
  · cases h
  · exact h
theorem Own.args {H : Hp} (cs : List (Addr × HO)) (h : ∀ c ∈ cs, H c.1 = some c.2) (nd : (cs.map (·.1)).Nodup) : Own (dels H (cs.map (·.1))) cs H :=
  ⟨dels_same _ _, fun c hc => dels_in (List.mem_map.mpr ⟨c, hc, rfl⟩), h, nd⟩
theorem Own.arg1 {H : Hp} {a : Addr} {o : HO} (h : H a = some o) : Own (dels H [a]) [(a, o)] H :=
  Own.args [(a, o)] (fun c hc => by rw [List.mem_singleton.mp hc]; exact h) (by simp)
/-- what a def that was handed some things leaves -/
theorem Own.give {H H' : Hp} {as : List Addr} {cs : List (Addr × HO)} (O : Own (dels H as) cs H') : ∀ b u, b ∉ as → H b = some u → H' b = some u :=
  fun b u hb h => O.fr b u (by rw [dels_out hb]; exact h)
theorem Own.give1 {H H' : Hp} {a : Addr} {cs : List (Addr × HO)} (O : Own (dels H [a]) cs H') : ∀ b u, b ≠ a → H b = some u → H' b = some u :=
  fun b u hb h => O.give b u (fun q => hb (List.mem_singleton.mp q)) h
theorem sq_dels {K : PySem.W.Frag} {H : Hp} {as : List Addr} {a : Addr} {xs : List V} (n : a ∉ as) (h : SqL K H a xs) : SqL K (dels H as) a xs := by
  rcases h with (h | ⟨o, h⟩) | h
  · exact .inl (.inl (by rw [dels_out n]; exact h))
  · exact .inl (.inr ⟨o, by rw [dels_out n]; exact h⟩)
  · exact .inr h

/-! ### data stays -/
theorem sq_t {K : PySem.W.Frag} {H H' : Hp} {a : Addr} {xs : List V} (e : Same H H') (h : SqT K H a xs) : SqT K H' a xs := by
  rcases h with (h | ⟨o, h⟩) | h
  · exact .inl (.inl (e _ _ h))
  · exact .inl (.inr ⟨o, e _ _ h⟩)
  · exact .inr h
mutual
theorem dp_ex {K : PySem.W.Frag} {H H' : Hp} (e : Same H H') : ∀ {v : V} {d : PyData}, Dp K H v d → Dp K H' v d
  | _, _, .non => .non
  | _, _, .bl b => .bl b
  | _, _, .int i => .int i
  | _, _, .str x => .str x
  | _, _, .lst h a => .lst (e.seq h) (dps_ex e a)
  | _, _, .tup h a => .tup (sq_t e h) (dps_ex e a)
theorem dps_ex {K : PySem.W.Frag} {H H' : Hp} (e : Same H H') : ∀ {vs : List V} {ds : List PyData}, DpAll K H vs ds → DpAll K H' vs ds
  | _, _, .nil => .nil
  | _, _, .cons h a => .cons (dp_ex e h) (dps_ex e a)
end
theorem dps_len {K : PySem.W.Frag} {H : Hp} : ∀ {vs : List V} {ds : List PyData}, DpAll K H vs ds → vs.length = ds.length
  | _, _, .nil => rfl
  | _, _, .cons _ a => congrArg (· + 1) (dps_len a)
theorem dps_get {K : PySem.W.Frag} {H : Hp} : ∀ {vs : List V} {ds : List PyData} {i : Nat} {v : V}, DpAll K H vs ds → vs[i]? = some v → ∃ d, ds[i]? = some d ∧ Dp K H v d
  | _, _, _, _, .nil, h => by simp at h
  | _, _, 0, _, .cons h _, e => by
    cases (show some _ = some _ from e)
    exact ⟨_, rfl, h⟩
  | _, _, i + 1, _, .cons _ a, e => dps_get (i := i) a (by simpa using e)
theorem dps_getD {K : PySem.W.Frag} {H : Hp} : ∀ {vs : List V} {ds : List PyData} {i : Nat} {d : PyData}, DpAll K H vs ds → ds[i]? = some d → ∃ v, vs[i]? = some v ∧ Dp K H v d
  | _, _, _, _, .nil, h => by simp at h
  | _, _, 0, _, .cons h _, e => by
    cases (show some _ = some _ from e)
    exact ⟨_, rfl, h⟩
  | _, _, i + 1, _, .cons _ a, e => dps_getD (i := i) a (by simpa using e)
theorem dps_app {K : PySem.W.Frag} {H : Hp} : ∀ {vs vs' : List V} {ds ds' : List PyData}, DpAll K H vs ds → DpAll K H vs' ds' → DpAll K H (vs ++ vs') (ds ++ ds')
  | _, _, _, _, .nil, b => b
  | _, _, _, _, .cons h a, b => .cons h (dps_app a b)
theorem dps_snoc {K : PySem.W.Frag} {H : Hp} {vs : List V} {ds : List PyData} {v : V} {d : PyData} (a : DpAll K H vs ds) (h : Dp K H v d) : DpAll K H (vs ++ [v]) (ds ++ [d]) := dps_app a (.cons h .nil)
theorem dps_take {K : PySem.W.Frag} {H : Hp} : ∀ {vs : List V} {ds : List PyData} (n : Nat), DpAll K H vs ds → DpAll K H (vs.take n) (ds.take n)
  | _, _, 0, _ => .nil
  | _, _, _ + 1, .nil => .nil
  | _, _, n + 1, .cons h a => .cons h (dps_take n a)
theorem dps_drop {K : PySem.W.Frag} {H : Hp} : ∀ {vs : List V} {ds : List PyData} (n : Nat), DpAll K H vs ds → DpAll K H (vs.drop n) (ds.drop n)
  | _, _, 0, a => a
  | _, _, _ + 1, .nil => .nil
  | _, _, n + 1, .cons _ a => dps_drop n a
theorem dps_int {K : PySem.W.Frag} {H : Hp} : ∀ ns : List Int, DpAll K H (ns.map V.int) (ns.map PyData.int)
  | [] => .nil
  | n :: ns => .cons (.int n) (dps_int ns)

/-! ### rules with names -/
section
variable {X : Cx}
def rAddU (K : PySem.W.Frag) : R2 := fun x y H Q => rI0 (fun i j => .int (i + j)) x y H Q ∨ ((∃ i j, x = .str i ∧ y = .str j ∧ i.length + j.length ≤ sizeLine ∧ Q (.str (i ++ j)) H) ∨ (rCat x y H Q ∨ rCatA K x y H Q))
theorem op_addU : OpR X (binaryOp .Add) (rAddU X.K) := OpR.or op_add (OpR.or op_add_str (OpR.or op_cat op_catA))
def rMulU : R2 := fun x y H Q => rI CMul (fun i j => .int (i * j)) x y H Q ∨ rRep x y H Q
theorem op_mulU : OpR X (binaryOp .Mult) rMulU := OpR.or op_mul op_rep
def rEqU (K : PySem.W.Frag) : R2 := fun x y H Q => rEq x y H Q ∨ rEqD K x y H Q
def rNeU (K : PySem.W.Frag) : R2 := fun x y H Q => rNe x y H Q ∨ rNeD K x y H Q
theorem op_eqU (hu : X.A.units + 64 < cLine) : OpR X (compareOp .Eq) (rEqU X.K) := OpR.or op_eq (op_eqD hu)
theorem op_neU (hu : X.A.units + 64 < cLine) : OpR X (compareOp .NotEq) (rNeU X.K) := OpR.or op_ne (op_neD hu)
def rInS : R2 := fun x y H Q => ∃ (c : Nat) (z : Str), x = .str ⟨#[c]⟩ ∧ y = .str z ∧ Q (.bl (decide (c ∈ z.cps.toList))) H
def rNotInS : R2 := fun x y H Q => ∃ (c : Nat) (z : Str), x = .str ⟨#[c]⟩ ∧ y = .str z ∧ Q (.bl (!decide (c ∈ z.cps.toList))) H
def rInU (K : PySem.W.Frag) : R2 := fun x y H Q => rIn K false x y H Q ∨ (rInS x y H Q ∨ rInD K x y H Q)
def rNotInU (K : PySem.W.Frag) : R2 := fun x y H Q => rIn K true x y H Q ∨ (rNotInS x y H Q ∨ rNotInD K x y H Q)
theorem op_inU (hu : X.A.units + 65 < cLine) : OpR X (compareOp .In) (rInU X.K) := OpR.or op_in_seq (OpR.or op_in_sign (op_inD hu))
theorem op_notInU (hu : X.A.units + 65 < cLine) : OpR X (compareOp .NotIn) (rNotInU X.K) := OpR.or op_notIn_seq (OpR.or op_notIn_sign (op_notInD hu))
def rIsN : R2 := fun x y H Q => y = .non ∧ Q (.bl (decide (x = .non))) H
def rNotN : R2 := fun x y H Q => y = .non ∧ Q (.bl (!decide (x = .non))) H
theorem op_isNU : OpR X (compareOp .Is) rIsN := op_isN
theorem op_notNU : OpR X (compareOp .IsNot) rNotN := op_notN
def rLenU (K : PySem.W.Frag) : List V → Hp → VK → Prop := fun xs H Q => ∃ x n, xs = [x] ∧ LenV K x H n ∧ Q (.int n) H
theorem call_lenU : CallR X (.builtin "len") (rLenU X.K) := call_len
def rLenDK : List V → Hp → VK → Prop := fun xs H Q => ∃ a kvs, xs = [V.ref a] ∧ H a = some (.dK kvs) ∧ Q (.int kvs.length) H
theorem call_lenDK : CallR X (.builtin "len") rLenDK := call_lenD
def rIntU : List V → Hp → VK → Prop := fun xs H Q => (∃ i, xs = [.int i] ∧ Q (.int i) H) ∨ ∃ k, xs = [.bl k] ∧ Q (.int (if k then 1 else 0)) H
theorem call_intU : CallR X (.type "int") rIntU := call_int1
def rMin2 : List V → Hp → VK → Prop := fun xs H Q => ∃ i j, xs = [.int i, .int j] ∧ Q (.int (if j < i then j else i)) H
theorem call_min2U (hc : X.calm = true) : CallR X (.builtin "min") rMin2 := call_min2 hc
def rMax2 : List V → Hp → VK → Prop := fun xs H Q => ∃ i j, xs = [.int i, .int j] ∧ Q (.int (if j > i then j else i)) H
theorem call_max2U (hc : X.calm = true) : CallR X (.builtin "max") rMax2 := call_max2 hc
def rListU (K : PySem.W.Frag) : List V → Hp → VK → Prop := fun xs H Q => ∃ p ys, xs = [.ref p] ∧ (SqL K H p ys ∨ SqT K H p ys) ∧ ∀ l, H l = none → Q (.ref l) (upd H l (.lst ys))
theorem call_listU : CallR X (.type "list") (rListU X.K) := call_list_of
def rTupleU (K : PySem.W.Frag) : List V → Hp → VK → Prop := fun xs H Q => ∃ p ys, xs = [.ref p] ∧ ((SqL K H p ys ∧ ∀ l, H l = none → Q (.ref l) (upd H l (.tup ys))) ∨ (SqT K H p ys ∧ Q (.ref p) H))
theorem call_tupleU : CallR X (.type "tuple") (rTupleU X.K) := call_tuple_of
def rIsiU (K : PySem.W.Frag) : List V → Hp → VK → Prop := fun xs H Q => rIsi K xs H Q ∨ rIsiT K xs H Q
theorem call_isiU : CallR X (.builtin "isinstance") (rIsiU X.K) := CallR.or call_isi call_isiT
def rInsert : V → List V → Hp → VK → Prop := fun x vs H Q => ∃ (l : Addr) (xs : List V) (i : Int) (y : V), x = .ref l ∧ vs = [.int i, y] ∧ H l = some (.lst xs) ∧ xs.length < sizeLine ∧ 0 ≤ i ∧ i < 2 ^ 63 ∧ Q .non (upd H l (.lst (xs.take i.toNat ++ [y] ++ xs.drop i.toNat)))
theorem mt_insertU : MtR X "list.insert" rInsert := mt_insert
def rSlU (K : PySem.W.Frag) : V → Option Int → Option Int → Hp → VK → Prop := fun x lo hi H Q => rSlL K x lo hi H Q ∨ (rSlS x lo hi H Q ∨ rSlA K x lo hi H Q)
theorem sl_U : SlR X (rSlU X.K) := SlR.or sl_list (SlR.or sl_str sl_tupA)
theorem PI.or {tg l : Expr} {w1 w2 : TI} (h1 : PI X tg l w1) (h2 : PI X tg l w2) : PI X tg l (fun σ H R => w1 σ H R ∨ w2 σ H R) := by
  refine ⟨fun pins s σ H R I h => ?_⟩
  rcases h with h | h
  · exact h1.run pins s σ H R I h
  · exact h2.run pins s σ H R I h
theorem get_list : PGet X (rIxL X.K) := by
  intro pins s σ H o i ov iv Q I ro ri h
  obtain ⟨p, xs, k, v, rfl, rfl, hq, he, q⟩ := h
  cases ro
  obtain ⟨t, rfl⟩ := ri
  obtain ⟨its, r, pl, hz⟩ := I.list hq
  obtain ⟨j, h1, h2, h3, h4, h5⟩ := atI_get he
  obtain ⟨w, ew, rw'⟩ := r.get h2
  have hl := r.length
  have hn := line63
  have fin : EP X pins σ Q w s := ⟨v, H, I, rw', q⟩
  by_cases h0 : 0 ≤ k
  · have hj : k.toNat = j := by
      rw [seqIndex_of h0 h5] at h1
      exact Option.some.inj h1
    exact wpAny_getItem_list pl.isList h0 (by omega) (by rw [hj]; simpa using ew) fin
  · have hj : (k + (its.toArray.size : Int)).toNat = j := by
      rw [seqIndex_neg (by omega) h4] at h1
      rw [List.size_toArray, ← hl]
      exact Option.some.inj h1
    exact wpAny_getItem_list_neg (Q := fun r s' => EP X pins σ Q r s') pl.isList (by omega) (by rw [List.size_toArray] <;> omega) (by omega) (by rw [hj]; simpa using ew) fin
end
end Zl

/-! Zg: the readings, step by step (what is to be shown of the values as they stand) -/
namespace Zl
open PySem PySem.Spec PyProof.Rows L2
section
variable {K : PySem.W.Frag} {σ : L2.St} {H : Hp} {Q : VK} {i : Nat} {v x y : V} {ta tb te tv : TE} {tt t u : TT} {as tr : TA} {D : Ends} {s1 s2 : TS} {g : TG} {tget : V → V → Hp → VK → Prop} {tip : TIp} {tset : TSet}
/-- a new thing -/
def newQ (o : HO) (Q : VK) (H : Hp) : Prop := ∀ p, H p = none → Q (.ref p) (upd H p o)
def newK (o : HO) (n : Nat) (Q : VK) (H : Hp) : Prop := n ≤ sizeLine ∧ newQ o Q H
def blK (Q : Bool → Hp → Prop) (x : V) (H : Hp) : Prop := ∃ k, x = .bl k ∧ Q k H
def andK (tb : TE) (σ : L2.St) (Q : VK) (x : V) (H1 : Hp) : Prop := ∃ c, x = .bl c ∧ if c = true then tb σ H1 Q else Q (.bl false) H1
def orK (tb : TE) (σ : L2.St) (Q : VK) (x : V) (H1 : Hp) : Prop := ∃ c, x = .bl c ∧ if c = true then Q (.bl true) H1 else tb σ H1 Q
def notK (Q : VK) (x : V) (H1 : Hp) : Prop := ∃ c, x = .bl c ∧ Q (.bl (!c)) H1
def partK (Q : Option Int → Hp → Prop) (x : V) (H1 : Hp) : Prop := ∃ i, x = .int i ∧ Q (some i) H1
def fldK (K : PySem.W.Frag) (f : Str) (Q : VK) (x : V) (H1 : Hp) : Prop := ∃ a C dx fs v, x = .ref a ∧ H1 a = some (.ins C dx fs) ∧ Cls K C ∧ NoAttr K C f ∧ fs.lookup f = some v ∧ Q v H1
def methK (m : Str) (C : Addr) (sp : Sp) (dvs : List V) (E : XK) (as : TA) (σ : L2.St) (Q : VK) (x : V) (H1 : Hp) : Prop := ∃ a dx fs, x = .ref a ∧ H1 a = some (.ins C dx fs) ∧ fs.lookup m = none ∧ as σ H1 fun vs H2 => sp (x :: (vs ++ dvs)) H2 Q E
def bmK (K : PySem.W.Frag) (T : String) (r : V → List V → Hp → VK → Prop) (as : TA) (σ : L2.St) (Q : VK) (x : V) (H1 : Hp) : Prop := tyV K T x H1 ∧ as σ H1 fun xs H2 => r x xs H2 Q
def bm0K (K : PySem.W.Frag) (T : String) (r : V → List V → Hp → VK → Prop) (Q : VK) (x : V) (H1 : Hp) : Prop := tyV K T x H1 ∧ r x [] H1 Q
theorem g_var (h : σ[i]? = some (some v)) (k : Q v H) : tVar i σ H Q := ⟨v, h, k⟩
theorem g_c (k : Q v H) : tC v σ H Q := k
theorem g_op {r : R2} (k : ta σ H fun x H1 => tb σ H1 fun y H2 => r x y H2 Q) : tOp r ta tb σ H Q := k
theorem g_un {r : V → Hp → VK → Prop} (k : ta σ H fun x H1 => r x H1 Q) : tUn r ta σ H Q := k
theorem g_test {Q : Bool → Hp → Prop} (k : te σ H (blK Q)) : tTest te σ H Q := k
theorem g_B {Q : Bool → Hp → Prop} (k : te σ H (blK Q)) : tB te σ H Q := k
theorem g_and {Q : Bool → Hp → Prop} (k : t σ H fun c H1 => if c = true then u σ H1 Q else Q false H1) : tAnd t u σ H Q := k
theorem g_or {Q : Bool → Hp → Prop} (k : t σ H fun c H1 => if c = true then Q true H1 else u σ H1 Q) : tOr t u σ H Q := k
theorem g_not {Q : Bool → Hp → Prop} (k : t σ H fun c H1 => Q (!c) H1) : tNot t σ H Q := k
theorem g_andV (k : ta σ H (andK tb σ Q)) : tAndV ta tb σ H Q := k
theorem g_orV (k : ta σ H (orK tb σ Q)) : tOrV ta tb σ H Q := k
theorem g_notV (k : ta σ H (notK Q)) : tNotV ta σ H Q := k
theorem g_if (k : t σ H fun c H1 => if c = true then ta σ H1 Q else tb σ H1 Q) : tIf t ta tb σ H Q := k
theorem g_nil {Q : List V → Hp → Prop} (k : Q [] H) : tNil σ H Q := k
theorem g_cons {Q : List V → Hp → Prop} (k : te σ H fun x H1 => tr σ H1 fun xs H2 => Q (x :: xs) H2) : tCons te tr σ H Q := k
theorem g_call {sp : Sp} {dvs : List V} {E : XK} (k : as σ H fun vs H1 => sp (vs ++ dvs) H1 Q E) : tCall sp dvs E as σ H Q := k
theorem g_cb {r : List V → Hp → VK → Prop} (k : as σ H fun vs H1 => r vs H1 Q) : tCB r as σ H Q := k
theorem g_tup (k : as σ H fun xs H1 => newK (.tup xs) xs.length Q H1) : tTup as σ H Q := k
theorem g_lst (k : as σ H fun xs H1 => newK (.lst xs) xs.length Q H1) : tLst as σ H Q := k
theorem g_sl {r : V → Option Int → Option Int → Hp → VK → Prop} {tl th : TO} (k : te σ H fun x H1 => tl σ H1 fun l H2 => th σ H2 fun u H3 => r x l u H3 Q) : tSl r te tl th σ H Q := k
theorem g_nopart {Q : Option Int → Hp → Prop} (k : Q none H) : tNoPart σ H Q := k
theorem g_part {Q : Option Int → Hp → Prop} (k : te σ H (partK Q)) : tPart te σ H Q := k
theorem g_bm {T : String} {r : V → List V → Hp → VK → Prop} (k : te σ H (bmK K T r as σ Q)) : tBM K T r te as σ H Q := k
theorem g_bm0 {T : String} {r : V → List V → Hp → VK → Prop} (k : te σ H (bm0K K T r Q)) : tBM0 K T r te σ H Q := k
theorem g_fld {f : Str} (k : te σ H (fldK K f Q)) : tFld K te f σ H Q := k
theorem g_meth {C : Addr} {m : Str} {sp : Sp} {dvs : List V} {E : XK} (k : te σ H (methK m C sp dvs E as σ Q)) : tMeth C m sp dvs E te as σ H Q := k
/-! statements -/
theorem g_seq (k : s1 { D with nx := s2 D } σ H) : tSeq s1 s2 D σ H := k
theorem g_next (k : D.nx σ H) : tNext D σ H := k
theorem g_brk (k : D.bk σ H) : tBreak D σ H := k
theorem g_cont (k : D.ct σ H) : tCont D σ H := k
theorem g_drop (k : te σ H fun _ H1 => D.nx σ H1) : tDrop te D σ H := k
theorem g_ret (k : te σ H D.rt) : tRet te D σ H := k
theorem g_retN (k : D.rt .non H) : tRetN D σ H := k
theorem g_asg (k : te σ H fun x H1 => g x σ H1 D.nx) : tAsg te g D σ H := k
theorem g_name {Q : L2.St → Hp → Prop} (k : Q (σ.set i (some v)) H) : gName i v σ H Q := k
theorem g_ifS (k : tt σ H fun b H1 => if b = true then s1 D σ H1 else s2 D σ H1) : tIfS tt s1 s2 D σ H := k
theorem g_aug (h : σ[i]? = some (some x)) (k : te σ H fun y H1 => tip x y H1 fun z H2 => D.nx (σ.set i (some z)) H2) : tAug i te tip D σ H := ⟨x, h, k⟩
theorem g_augS (k : ta σ H fun o H1 => tb σ H1 fun i H2 => tget o i H2 fun x H3 => te σ H3 fun y H4 => tip x y H4 fun z H5 => tset o i z H5 fun H6 => D.nx σ H6) : tAugS ta tb te tget tip tset D σ H := k
theorem g_gsub {Q : L2.St → Hp → Prop} (k : ta σ H fun o H1 => tb σ H1 fun i H2 => tset o i v H2 fun H3 => Q σ H3) : gSub ta tb tset v σ H Q := k
theorem g_gtup {n : Nat} {tg : TGs} {Q : L2.St → Hp → Prop} {a : Addr} {xs : List V} (h : SqT K H a xs) (hl : xs.length = n) (k : tg xs σ H Q) : gTup K n tg (.ref a) σ H Q := ⟨a, xs, rfl, h, hl, k⟩
theorem g_glst {n : Nat} {tg : TGs} {Q : L2.St → Hp → Prop} {a : Addr} {xs : List V} (h : SqL K H a xs) (hl : xs.length = n) (k : tg xs σ H Q) : gLst K n tg (.ref a) σ H Q := ⟨a, xs, rfl, h, hl, k⟩
theorem g_gcons {tg : TGs} {vs : List V} {Q : L2.St → Hp → Prop} (k : g v σ H fun σ' H' => tg vs σ' H' Q) : gCons g tg (v :: vs) σ H Q := ⟨v, vs, rfl, k⟩
theorem g_gnil {Q : L2.St → Hp → Prop} (k : Q σ H) : gNil [] σ H Q := ⟨rfl, k⟩
/-! values -/
theorem g_bl {b : Bool} {Q : Bool → Hp → Prop} (k : Q b H) : blK Q (.bl b) H := ⟨b, rfl, k⟩
theorem g_int {n : Int} {Q : Option Int → Hp → Prop} (k : Q (some n) H) : partK Q (.int n) H := ⟨n, rfl, k⟩
theorem g_andK {b : Bool} (k : if b = true then tb σ H Q else Q (.bl false) H) : andK tb σ Q (.bl b) H := ⟨b, rfl, k⟩
theorem g_orK {b : Bool} (k : if b = true then Q (.bl true) H else tb σ H Q) : orK tb σ Q (.bl b) H := ⟨b, rfl, k⟩
theorem g_notK {b : Bool} (k : Q (.bl (!b)) H) : notK Q (.bl b) H := ⟨b, rfl, k⟩
theorem g_fldK {a C dx : Addr} {fs : List (Str × V)} {f : Str} (h : H a = some (.ins C dx fs)) (cl : Cls K C) (na : NoAttr K C f) (hl : fs.lookup f = some v) (k : Q v H) : fldK K f Q (.ref a) H := ⟨a, C, dx, fs, v, rfl, h, cl, na, hl, k⟩
theorem g_methK {a C dx : Addr} {fs : List (Str × V)} {m : Str} {sp : Sp} {dvs : List V} {E : XK} (h : H a = some (.ins C dx fs)) (hl : fs.lookup m = none) (k : as σ H fun vs H2 => sp (.ref a :: (vs ++ dvs)) H2 Q E) : methK m C sp dvs E as σ Q (.ref a) H := ⟨a, dx, fs, rfl, h, hl, k⟩
variable {m n : Int} {z w : Str}
theorem g_addI (k : Q (.int (m + n)) H) : rAddU K (.int m) (.int n) H Q := .inl ⟨m, n, rfl, rfl, k⟩
theorem g_addS (h : z.length + w.length ≤ sizeLine) (k : Q (.str (z ++ w)) H) : rAddU K (.str z) (.str w) H Q := .inr (.inl ⟨z, w, rfl, rfl, h, k⟩)
theorem g_addL {a b : Addr} {xs ys : List V} (h1 : H a = some (.lst xs)) (h2 : H b = some (.lst ys)) (h : xs.length + ys.length ≤ sizeLine) (k : newQ (.lst (xs ++ ys)) Q H) : rAddU K (.ref a) (.ref b) H Q :=
  .inr (.inr (.inl ⟨a, b, xs, ys, rfl, rfl, h1, h2, h, k⟩))
theorem g_subI (k : Q (.int (m - n)) H) : rI0 (fun i j => .int (i - j)) (.int m) (.int n) H Q := ⟨m, n, rfl, rfl, k⟩
theorem g_mulI (h : CMul m n) (k : Q (.int (m * n)) H) : rMulU (.int m) (.int n) H Q := .inl ⟨m, n, rfl, rfl, h, k⟩
theorem g_modI (h : 0 < n) (k : Q (.int (m % n)) H) : rI (fun _ j => 0 < j) (fun i j => .int (i % j)) (.int m) (.int n) H Q := ⟨m, n, rfl, rfl, h, k⟩
theorem g_divI (h : CDiv m n) (k : Q (.int (m / n)) H) : rI CDiv (fun i j => .int (i / j)) (.int m) (.int n) H Q := ⟨m, n, rfl, rfl, h, k⟩
theorem g_powI (h : CPow m n) (k : Q (.int (m ^ n.toNat)) H) : rI CPow (fun i j => .int (i ^ j.toNat)) (.int m) (.int n) H Q := ⟨m, n, rfl, rfl, h, k⟩
theorem g_ltI (k : Q (.bl (decide (m < n))) H) : rI0 (fun i j => .bl (decide (i < j))) (.int m) (.int n) H Q := ⟨m, n, rfl, rfl, k⟩
theorem g_leI (k : Q (.bl (decide (m ≤ n))) H) : rI0 (fun i j => .bl (decide (i ≤ j))) (.int m) (.int n) H Q := ⟨m, n, rfl, rfl, k⟩
theorem g_gtI (k : Q (.bl (decide (n < m))) H) : rI0 (fun i j => .bl (decide (j < i))) (.int m) (.int n) H Q := ⟨m, n, rfl, rfl, k⟩
theorem g_geI (k : Q (.bl (decide (n ≤ m))) H) : rI0 (fun i j => .bl (decide (j ≤ i))) (.int m) (.int n) H Q := ⟨m, n, rfl, rfl, k⟩
theorem g_neg (k : Q (.int (-m)) H) : rU (fun i => .int (-i)) (.int m) H Q := ⟨m, rfl, k⟩
theorem g_ipadd (k : Q (.int (m + n)) H) : ipI (fun i j => i + j) (.int m) (.int n) H Q := ⟨m, n, rfl, rfl, k⟩
theorem g_ipsub (k : Q (.int (m - n)) H) : ipI (fun i j => i - j) (.int m) (.int n) H Q := ⟨m, n, rfl, rfl, k⟩
/-- equal, by the values themselves -/
theorem g_eqI (k : Q (.bl (decide (m = n))) H) : rEqU K (.int m) (.int n) H Q := .inl ⟨rfl, by
  have e : decide (V.int m = V.int n) = decide (m = n) := by
    by_cases h : m = n
    · rw [h]; simp
    · rw [decide_eq_false h, decide_eq_false fun q => h (V.int.inj q)]
  rw [e]; exact k⟩
theorem g_neI (k : Q (.bl (!decide (m = n))) H) : rNeU K (.int m) (.int n) H Q := .inl ⟨rfl, by
  have e : decide (V.int m = V.int n) = decide (m = n) := by
    by_cases h : m = n
    · rw [h]; simp
    · rw [decide_eq_false h, decide_eq_false fun q => h (V.int.inj q)]
  rw [e]; exact k⟩
theorem g_eqS (k : Q (.bl (decide (z = w))) H) : rEqU K (.str z) (.str w) H Q := .inl ⟨rfl, by
  have e : decide (V.str z = V.str w) = decide (z = w) := by
    by_cases h : z = w
    · rw [h]; simp
    · rw [decide_eq_false h, decide_eq_false fun q => h (V.str.inj q)]
  rw [e]; exact k⟩
theorem g_neS (k : Q (.bl (!decide (z = w))) H) : rNeU K (.str z) (.str w) H Q := .inl ⟨rfl, by
  have e : decide (V.str z = V.str w) = decide (z = w) := by
    by_cases h : z = w
    · rw [h]; simp
    · rw [decide_eq_false h, decide_eq_false fun q => h (V.str.inj q)]
  rw [e]; exact k⟩
theorem g_eqB {a b : Bool} (k : Q (.bl (a == b)) H) : rEqU K (.bl a) (.bl b) H Q := .inl ⟨rfl, by
  have e : decide (V.bl a = V.bl b) = (a == b) := by cases a <;> cases b <;> rfl
  rw [e]; exact k⟩
theorem g_neB {a b : Bool} (k : Q (.bl (a != b)) H) : rNeU K (.bl a) (.bl b) H Q := .inl ⟨rfl, by
  have e : (!decide (V.bl a = V.bl b)) = (a != b) := by cases a <;> cases b <;> rfl
  rw [e]; exact k⟩
theorem g_eqD {d e : PyData} (h1 : Dp K H x d) (h2 : Dp K H y e) (s1 : SeqAt.shaped d = true) (s2 : SeqAt.shaped e = true) (k : Q (.bl (PyData.eqv d e)) H) : rEqU K x y H Q := .inr ⟨d, e, h1, h2, s1, s2, k⟩
theorem g_neD {d e : PyData} (h1 : Dp K H x d) (h2 : Dp K H y e) (s1 : SeqAt.shaped d = true) (s2 : SeqAt.shaped e = true) (k : Q (.bl (!PyData.eqv d e)) H) : rNeU K x y H Q := .inr ⟨d, e, h1, h2, s1, s2, k⟩
theorem g_isN (k : Q (.bl (decide (x = .non))) H) : rIsN x .non H Q := ⟨rfl, k⟩
theorem g_notN (k : Q (.bl (!decide (x = .non))) H) : rNotN x .non H Q := ⟨rfl, k⟩
theorem g_lenL {a : Addr} {xs : List V} (h : SqL K H a xs) (k : Q (.int xs.length) H) : rLenU K [.ref a] H Q := ⟨.ref a, xs.length, rfl, .inl ⟨xs, h, rfl⟩, k⟩
theorem g_lenT {a : Addr} {xs : List V} (h : SqT K H a xs) (k : Q (.int xs.length) H) : rLenU K [.ref a] H Q := ⟨.ref a, xs.length, rfl, .inr ⟨xs, h, rfl⟩, k⟩
theorem g_lenS (h : z.length ≤ sizeLine) (k : Q (.int z.length) H) : rLenU K [.str z] H Q := ⟨.str z, z.length, rfl, ⟨h, rfl⟩, k⟩
theorem g_intI (k : Q (.int m) H) : rIntU [.int m] H Q := .inl ⟨m, rfl, k⟩
theorem g_intB {b : Bool} (k : Q (.int (if b then 1 else 0)) H) : rIntU [.bl b] H Q := .inr ⟨b, rfl, k⟩
theorem g_min2 (k : Q (.int (min m n)) H) : rMin2 [.int m, .int n] H Q := ⟨m, n, rfl, by
  have e : (if n < m then n else m) = min m n := by
    rw [Int.min_def]; split <;> split <;> omega
  rw [e]; exact k⟩
theorem g_max2 (k : Q (.int (max m n)) H) : rMax2 [.int m, .int n] H Q := ⟨m, n, rfl, by
  have e : (if n > m then n else m) = max m n := by
    rw [Int.max_def]; split <;> split <;> omega
  rw [e]; exact k⟩
theorem g_listL {a : Addr} {xs : List V} (h : SqL K H a xs) (k : newQ (.lst xs) Q H) : rListU K [.ref a] H Q := ⟨a, xs, rfl, .inl h, k⟩
theorem g_listT {a : Addr} {xs : List V} (h : SqT K H a xs) (k : newQ (.lst xs) Q H) : rListU K [.ref a] H Q := ⟨a, xs, rfl, .inr h, k⟩
theorem g_tupleL {a : Addr} {xs : List V} (h : SqL K H a xs) (k : newQ (.tup xs) Q H) : rTupleU K [.ref a] H Q := ⟨a, xs, rfl, .inl ⟨h, k⟩⟩
theorem g_ixL {a : Addr} {xs : List V} (h : SqL K H a xs) (hi : atI xs m = some v) (k : Q v H) : rIx K (.ref a) (.int m) H Q := .inl ⟨a, xs, m, v, rfl, rfl, h, hi, k⟩
theorem g_ixT {a : Addr} {xs : List V} (h : SqT K H a xs) (hi : atI xs m = some v) (k : Q v H) : rIx K (.ref a) (.int m) H Q := .inr (.inl ⟨a, xs, m, v, rfl, rfl, h, hi, k⟩)
theorem g_ixS {c : Nat} (h : z.length ≤ sizeLine) (hi : atI z.cps.toList m = some c) (k : Q (.str ⟨#[c]⟩) H) : rIx K (.str z) (.int m) H Q := .inr (.inr ⟨z, m, c, rfl, rfl, h, hi, k⟩)
theorem g_ixLL {a : Addr} {xs : List V} (h : SqL K H a xs) (hi : atI xs m = some v) (k : Q v H) : rIxL K (.ref a) (.int m) H Q := ⟨a, xs, m, v, rfl, rfl, h, hi, k⟩
theorem g_slL {a : Addr} {xs : List V} {lo hi : Option Int} (h : SqL K H a xs) (k : newQ (.lst (cutV xs lo hi)) Q H) : rSlU K (.ref a) lo hi H Q := .inl ⟨a, xs, rfl, h, k⟩
theorem g_slS {lo hi : Option Int} (h : z.length ≤ sizeLine) (k : Q (.str (cutS z lo hi)) H) : rSlU K (.str z) lo hi H Q := .inr (.inl ⟨z, rfl, h, k⟩)
end
/-! tests whose outcome is open -/
theorem ite_d {p A B : Prop} {_ : Decidable p} (h1 : p → A) (h2 : ¬ p → B) : if decide p = true then A else B := by
  by_cases h : p
  · rw [decide_eq_true h, if_pos rfl]; exact h1 h
  · rw [decide_eq_false h, if_neg Bool.false_ne_true]; exact h2 h
theorem ite_nd {p A B : Prop} {_ : Decidable p} (h1 : ¬ p → A) (h2 : p → B) : if (!decide p) = true then A else B := by
  by_cases h : p
  · rw [decide_eq_true h]; exact h2 h
  · rw [decide_eq_false h]; exact h1 h
theorem ite_b {b : Bool} {A B : Prop} (h1 : b = true → A) (h2 : b = false → B) : if b = true then A else B := by
  cases b
  · exact h2 rfl
  · exact h1 rfl
theorem ite_nb {b : Bool} {A B : Prop} (h1 : b = false → A) (h2 : b = true → B) : if (!b) = true then A else B := by
  cases b
  · exact h1 rfl
  · exact h2 rfl
theorem atI_of {α : Type} {xs : List α} {m : Int} {v : α} (h0 : 0 ≤ m) (h : xs[m.toNat]? = some v) : atI xs m = some v := by
  have e : ((m.toNat : Nat) : Int) = m := Int.toNat_of_nonneg h0
  have q := atI_nat h
  rw [e] at q
  exact q
theorem atI_int {ns : List Int} {m : Int} (h0 : 0 ≤ m) (h : m < ns.length) : atI (ns.map V.int) m = some (.int (ns.getD m.toNat 0)) := by
  refine atI_of h0 ?_
  have hl : m.toNat < ns.length := by omega
  rw [List.getElem?_map, List.getElem?_eq_getElem hl, List.getD_eq_getElem?_getD, List.getElem?_eq_getElem hl] <;> rfl
end Zl

/-! Zd: data of tuples, what is an instance of what, room -/
namespace Zl
open PySem PySem.Spec PyProof.Rows L2

theorem small_of {n : Nat} (h : n < 16777216) : n < sizeLine := by rw [sizeLine_eq]; exact h
theorem small_le {n : Nat} (h : n ≤ 16777216) : n ≤ sizeLine := by rw [sizeLine_eq]; exact h
theorem hu64 {A : Around} {k : Nat} (hr : Room k A) : A.units + 64 < cLine := hr.units
theorem hu65 {A : Around} {k : Nat} (hr : Room k A) : A.units + 65 < cLine := by have := hr.un; omega
def tTr (K : PySem.W.Frag) (ta : TE) : TT := fun σ H Q => ta σ H fun x H' => ∃ k, TruV K x H' k ∧ Q k H'
theorem pt_tr {X : Cx} {a : Expr} {ta : TE} (he : ∀ whole, isTrue a X.env whole = (do let v ← whole; standAt a.pos; holding [v] (truthy v))) (h : PE X a ta) : PT X a (tTr X.K ta) := pt_truth h he
def trK (K : PySem.W.Frag) (Q : Bool → Hp → Prop) (x : V) (H : Hp) : Prop := ∃ k, TruV K x H k ∧ Q k H
theorem g_tr {K : PySem.W.Frag} {ta : TE} {σ : L2.St} {H : Hp} {Q : Bool → Hp → Prop} (k : ta σ H (trK K Q)) : tTr K ta σ H Q := k
theorem g_trB {K : PySem.W.Frag} {H : Hp} {b : Bool} {Q : Bool → Hp → Prop} (k : Q b H) : trK K Q (.bl b) H := ⟨b, rfl, k⟩

/-! ### data that is made of tuples alone: it stays whatever is written -/
mutual
inductive Td (H : Hp) : V → PyData → Prop
  | non : Td H .non .none
  | bl (b : Bool) : Td H (.bl b) (.bool b)
  | int (i : Int) : Td H (.int i) (.int i)
  | str (x : Str) : Td H (.str x) (.str x)
  | tup {a : Addr} {xs : List V} {ds : List PyData} : H a = some (.tup xs) → TdAll H xs ds → Td H (.ref a) (.tuple ds)
inductive TdAll (H : Hp) : List V → List PyData → Prop
  | nil : TdAll H [] []
  | cons {v : V} {vs : List V} {d : PyData} {ds : List PyData} : Td H v d → TdAll H vs ds → TdAll H (v :: vs) (d :: ds)
end
/-- the tuples stay -/
def Tup (H H' : Hp) : Prop := ∀ a xs, H a = some (.tup xs) → H' a = some (.tup xs)
theorem Tup.refl (H : Hp) : Tup H H := fun _ _ h => h
theorem Tup.trans {H H1 H2 : Hp} (a : Tup H H1) (b : Tup H1 H2) : Tup H H2 := fun x o h => b x o (a x o h)
theorem Tup.of {H H' : Hp} (e : Same H H') : Tup H H' := fun a xs h => e a _ h
theorem Tup.mut {H H' : Hp} {l : Addr} (hl : ∀ xs, H l ≠ some (.tup xs)) (e : ∀ b u, b ≠ l → H b = some u → H' b = some u) : Tup H H' := fun a xs h => e a _ (fun q => hl xs (by rw [← q]; exact h)) h
mutual
theorem td_tup {H H' : Hp} (e : Tup H H') : ∀ {v : V} {d : PyData}, Td H v d → Td H' v d
  | _, _, .non => .non
  | _, _, .bl b => .bl b
  | _, _, .int i => .int i
  | _, _, .str x => .str x
  | _, _, .tup h a => .tup (e _ _ h) (tds_tup e a)
theorem tds_tup {H H' : Hp} (e : Tup H H') : ∀ {vs : List V} {ds : List PyData}, TdAll H vs ds → TdAll H' vs ds
  | _, _, .nil => .nil
  | _, _, .cons h a => .cons (td_tup e h) (tds_tup e a)
end
mutual
theorem td_dp {K : PySem.W.Frag} {H : Hp} : ∀ {v : V} {d : PyData}, Td H v d → Dp K H v d
  | _, _, .non => .non
  | _, _, .bl b => .bl b
  | _, _, .int i => .int i
  | _, _, .str x => .str x
  | _, _, .tup h a => .tup (.inl (.inl h)) (tds_dp a)
theorem tds_dp {K : PySem.W.Frag} {H : Hp} : ∀ {vs : List V} {ds : List PyData}, TdAll H vs ds → DpAll K H vs ds
  | _, _, .nil => .nil
  | _, _, .cons h a => .cons (td_dp h) (tds_dp a)
end
theorem td_ex {H H' : Hp} (e : Same H H') {v : V} {d : PyData} (h : Td H v d) : Td H' v d := td_tup (Tup.of e) h
theorem tds_ex {H H' : Hp} (e : Same H H') {vs : List V} {ds : List PyData} (h : TdAll H vs ds) : TdAll H' vs ds := tds_tup (Tup.of e) h
theorem tds_len {H : Hp} : ∀ {vs : List V} {ds : List PyData}, TdAll H vs ds → vs.length = ds.length
  | _, _, .nil => rfl
  | _, _, .cons _ a => congrArg (· + 1) (tds_len a)
theorem tds_get {H : Hp} : ∀ {vs : List V} {ds : List PyData} {i : Nat} {v : V}, TdAll H vs ds → vs[i]? = some v → ∃ d, ds[i]? = some d ∧ Td H v d
  | _, _, _, _, .nil, h => by simp at h
  | _, _, 0, _, .cons h _, e => by
    cases (show some _ = some _ from e)
    exact ⟨_, rfl, h⟩
  | _, _, i + 1, _, .cons _ a, e => tds_get (i := i) a (by simpa using e)
theorem tds_getD {H : Hp} : ∀ {vs : List V} {ds : List PyData} {i : Nat} {d : PyData}, TdAll H vs ds → ds[i]? = some d → ∃ v, vs[i]? = some v ∧ Td H v d
  | _, _, _, _, .nil, h => by simp at h
  | _, _, 0, _, .cons h _, e => by
    cases (show some _ = some _ from e)
    exact ⟨_, rfl, h⟩
  | _, _, i + 1, _, .cons _ a, e => tds_getD (i := i) a (by simpa using e)
theorem tds_app {H : Hp} : ∀ {vs vs' : List V} {ds ds' : List PyData}, TdAll H vs ds → TdAll H vs' ds' → TdAll H (vs ++ vs') (ds ++ ds')
  | _, _, _, _, .nil, b => b
  | _, _, _, _, .cons h a, b => .cons h (tds_app a b)
theorem tds_snoc {H : Hp} {vs : List V} {ds : List PyData} {v : V} {d : PyData} (a : TdAll H vs ds) (h : Td H v d) : TdAll H (vs ++ [v]) (ds ++ [d]) := tds_app a (.cons h .nil)
theorem tds_take {H : Hp} : ∀ {vs : List V} {ds : List PyData} (n : Nat), TdAll H vs ds → TdAll H (vs.take n) (ds.take n)
  | _, _, 0, _ => .nil
  | _, _, _ + 1, .nil => .nil
  | _, _, n + 1, .cons h a => .cons h (tds_take n a)
theorem tds_drop {H : Hp} : ∀ {vs : List V} {ds : List PyData} (n : Nat), TdAll H vs ds → TdAll H (vs.drop n) (ds.drop n)
  | _, _, 0, a => a
  | _, _, _ + 1, .nil => .nil
  | _, _, n + 1, .cons _ a => tds_drop n a
theorem tds_int {H : Hp} : ∀ ns : List Int, TdAll H (ns.map V.int) (ns.map PyData.int)
  | [] => .nil
  | n :: ns => .cons (.int n) (tds_int ns)
/-- the frame with all tuples of the heap -/
def tupsOf (H B : Hp) : Hp := fun a => match H a with
  | some (.tup xs) => some (.tup xs)
  | _ => B a
theorem tupsOf_same {B H : Hp} (e : Same B H) : Same B (tupsOf H B) := fun a o h => by
  have h' := e a o h
  unfold tupsOf
  rw [h']
  cases o <;> first | rfl | exact h
theorem tupsOf_tup {B H : Hp} : Tup H (tupsOf H B) := fun a xs h => by
  unfold tupsOf
  rw [h]
theorem tupsOf_sub {B H : Hp} (e : Same B H) : Same (tupsOf H B) H := fun a o h => by
  unfold tupsOf at h
  split at h
  · rename_i xs hx
    rw [hx]
    exact h
  · exact e a o h
theorem Own.tups {B H : Hp} {cs : List (Addr × HO)} (O : Own B cs H) (h : ∀ c ∈ cs, ∀ xs, c.2 ≠ .tup xs) : Own (tupsOf H B) cs H := by
  refine ⟨tupsOf_sub O.fr, fun c hc => ?_, O.have_, O.nd⟩
  have h1 := O.have_ c hc
  have h2 := h c hc
  unfold tupsOf
  rw [h1]
  split
  · rename_i xs hx
    exact absurd (Option.some.inj hx) (h2 xs)
  · exact O.out c hc

/-! ### loops, lists that are owned -/
section
variable {K : PySem.W.Frag} {B : Hp} {cs : List (Addr × HO)} {σ : L2.St} {H : Hp} {a : Addr} {xs : List V} {v : V} {Q : VK} {D : Ends} {tb : TS} {g : TG} {ta : TA} {te : TE}
theorem g_tyL {r : V → List V → Hp → VK → Prop} {as : TA} (h : SqL K H a xs) (k : as σ H fun xs H2 => r (.ref a) xs H2 Q) : bmK K "list" r as σ Q (.ref a) H := ⟨.inl ⟨rfl, xs, h⟩, k⟩
theorem g_tyL0 {r : V → List V → Hp → VK → Prop} (h : SqL K H a xs) (k : r (.ref a) [] H Q) : bm0K K "list" r Q (.ref a) H := ⟨.inl ⟨rfl, xs, h⟩, k⟩
theorem g_append (O : Own B cs H) (j : Nat) (h : cs[j]? = some (a, .lst xs)) (hz : xs.length < sizeLine) (k : ∀ H', Own B (cs.set j (a, .lst (xs ++ [v]))) H' → Q .non H') : rAppend (.ref a) [v] H Q :=
  ⟨a, xs, v, rfl, rfl, O.get j h, hz, k _ (O.set j h)⟩
theorem g_extend {b : Addr} {zs : List V} (O : Own B cs H) (j : Nat) (h : cs[j]? = some (a, .lst xs)) (hb : H b = some (.lst zs)) (hz : xs.length + zs.length ≤ sizeLine) (k : ∀ H', Own B (cs.set j (a, .lst (xs ++ zs))) H' → Q .non H') : rExtend (.ref a) [.ref b] H Q :=
  ⟨a, b, xs, zs, rfl, rfl, O.get j h, hb, hz, k _ (O.set j h)⟩
theorem g_insert {i : Int} (O : Own B cs H) (j : Nat) (h : cs[j]? = some (a, .lst xs)) (hz : xs.length < sizeLine) (h0 : 0 ≤ i) (h1 : i < 2 ^ 63) (k : ∀ H', Own B (cs.set j (a, .lst (xs.take i.toNat ++ [v] ++ xs.drop i.toNat))) H' → Q .non H') : rInsert (.ref a) [.int i, v] H Q :=
  ⟨a, xs, i, v, rfl, rfl, O.get j h, hz, h0, h1, k _ (O.set j h)⟩
theorem ixN_nat {n : Nat} {i : Int} (h0 : 0 ≤ i) (h : i < n) : ixN n i = some i.toNat := by
  unfold ixN
  rw [if_pos h0, if_pos h]
theorem g_setL {i : Int} {Q : Hp → Prop} (O : Own B cs H) (j : Nat) (h : cs[j]? = some (a, .lst xs)) (h0 : 0 ≤ i) (h1 : i < xs.length) (k : ∀ H', Own B (cs.set j (a, .lst (xs.set i.toNat v))) H' → Q H') : rSetL (.ref a) (.int i) v H Q :=
  ⟨a, xs, i, i.toNat, rfl, rfl, O.get j h, ixN_nat h0 h1, k _ (O.set j h)⟩
theorem g_new {n : Nat} {o : HO} (hz : n ≤ sizeLine) (O : Own B cs H) (k : ∀ p H', H p = none → Own B ((p, o) :: cs) H' → Q (.ref p) H') : newK o n Q H := ⟨hz, own_new O k⟩
theorem g_newQ {o : HO} (O : Own B cs H) (k : ∀ p H', H p = none → Own B ((p, o) :: cs) H' → Q (.ref p) H') : newQ o Q H := own_new O k
/-- what a for is to keep, whatever it walks -/
def forB (g : TG) (tb : TS) (D : Ends) (σ : L2.St) (J : It) (H1 : Hp) : Prop := ∃ W : Nat → Nat → L2.St → Hp → Prop, (∃ m, W 0 m σ H1) ∧ ∀ i m σ H, W i m σ H →
  (J.stop i H ∧ D.nx σ H) ∨ (J.go i H ∧ ∃ N : L2.St → Hp → Prop, (∀ σ' H', N σ' H' → ∃ m', m' < m ∧ W (i + 1) m' σ' H') ∧ ∀ x H', J.yld i H x H' → g x σ H' fun σ2 H2 => tb { D with nx := N, ct := N, bk := D.nx } σ2 H2)
theorem g_for {wi : TI} (k : wi σ H (forB g tb D σ)) : tFor wi g tb D σ H := k
def rng1K (R : It → Hp → Prop) (vs : List V) (H1 : Hp) : Prop := ∃ j : Int, vs = [.int j] ∧ -(2 ^ 62) ≤ j ∧ j < 2 ^ 62 ∧ R (Itr 0 j.toNat) H1
def rng2K (R : It → Hp → Prop) (vs : List V) (H1 : Hp) : Prop := ∃ i j : Int, vs = [.int i, .int j] ∧ (-(2 ^ 62) ≤ i ∧ i < 2 ^ 62 ∧ -(2 ^ 62) ≤ j ∧ j < 2 ^ 62) ∧ R (Itr i (j - i).toNat) H1
def rng3K (R : It → Hp → Prop) (vs : List V) (H1 : Hp) : Prop := ∃ (i j c : Int) (n : Nat), vs = [.int i, .int j, .int c] ∧ RgC i j c n ∧ R (Itc i c n) H1
def iLK (K : PySem.W.Frag) (R : It → Hp → Prop) (x : V) (H1 : Hp) : Prop := ∃ a, x = .ref a ∧ (∃ xs, SqL K H1 a xs) ∧ R (Itl K a) H1
def iTK (K : PySem.W.Frag) (R : It → Hp → Prop) (x : V) (H1 : Hp) : Prop := ∃ a, x = .ref a ∧ (∃ xs, SqT K H1 a xs) ∧ R (Itt K a) H1
def iSK (R : It → Hp → Prop) (v : V) (H1 : Hp) : Prop := ∃ x, v = .str x ∧ R (Its x) H1
def iZK (K : PySem.W.Frag) (R : It → Hp → Prop) (vs : List V) (H1 : Hp) : Prop := ∃ a b xs ys, vs = [.ref a, .ref b] ∧ SqL K H1 a xs ∧ SqL K H1 b ys ∧ R (Itz K a b) H1
def iEK (K : PySem.W.Frag) (R : It → Hp → Prop) (vs : List V) (H1 : Hp) : Prop := ∃ a xs, vs = [.ref a] ∧ SqL K H1 a xs ∧ R (Ite K a) H1
theorem g_rng1 {R : It → Hp → Prop} (k : ta σ H (rng1K R)) : iRng1 ta σ H R := k
theorem g_rng2 {R : It → Hp → Prop} (k : ta σ H (rng2K R)) : iRng2 ta σ H R := k
theorem g_rng3 {R : It → Hp → Prop} (k : ta σ H (rng3K R)) : iRng3 ta σ H R := k
theorem g_iList {R : It → Hp → Prop} (k : te σ H (iLK K R)) : iList K te σ H R := k
theorem g_iTup {R : It → Hp → Prop} (k : te σ H (iTK K R)) : iTup K te σ H R := k
theorem g_iStr {R : It → Hp → Prop} (k : te σ H (iSK R)) : iStr te σ H R := k
theorem g_iZip {R : It → Hp → Prop} (k : ta σ H (iZK K R)) : iZip K ta σ H R := k
theorem g_iEnum {R : It → Hp → Prop} (k : ta σ H (iEK K R)) : iEnum K ta σ H R := k
theorem g_rng1v {n : Int} {R : It → Hp → Prop} (h : -(2 ^ 62) ≤ n ∧ n < 2 ^ 62) (k : R (Itr 0 n.toNat) H) : rng1K R [V.int n] H := ⟨n, rfl, h.1, h.2, k⟩
theorem g_rng2v {m n : Int} {R : It → Hp → Prop} (h : -(2 ^ 62) ≤ m ∧ m < 2 ^ 62 ∧ -(2 ^ 62) ≤ n ∧ n < 2 ^ 62) (k : R (Itr m (n - m).toNat) H) : rng2K R [V.int m, V.int n] H := ⟨m, n, rfl, h, k⟩
theorem g_rng3v {m n c : Int} {N : Nat} {R : It → Hp → Prop} (h : RgC m n c N) (k : R (Itc m c N) H) : rng3K R [V.int m, V.int n, V.int c] H := ⟨m, n, c, N, rfl, h, k⟩
theorem g_iListv {R : It → Hp → Prop} (h : SqL K H a xs) (k : R (Itl K a) H) : iLK K R (.ref a) H := ⟨a, rfl, ⟨xs, h⟩, k⟩
theorem g_iTupv {R : It → Hp → Prop} (h : SqT K H a xs) (k : R (Itt K a) H) : iTK K R (.ref a) H := ⟨a, rfl, ⟨xs, h⟩, k⟩
theorem g_iStrv {z : Str} {R : It → Hp → Prop} (k : R (Its z) H) : iSK R (.str z) H := ⟨z, rfl, k⟩
theorem g_iZipv {b : Addr} {ys : List V} {R : It → Hp → Prop} (h : SqL K H a xs) (h2 : SqL K H b ys) (k : R (Itz K a b) H) : iZK K R [.ref a, .ref b] H := ⟨a, b, xs, ys, rfl, h, h2, k⟩
theorem g_iEnumv {R : It → Hp → Prop} (h : SqL K H a xs) (k : R (Ite K a) H) : iEK K R [.ref a] H := ⟨a, xs, rfl, h, k⟩
theorem forB_rng {lo : Int} {n : Nat} (Pv : Nat → L2.St → Hp → Prop) (h0 : Pv 0 σ H) (hs : ∀ (i : Nat) σ' H', i < n → Pv i σ' H' → g (.int (lo + (i : Int))) σ' H' fun σ2 H2 => tb { D with nx := Pv (i + 1), ct := Pv (i + 1), bk := D.nx } σ2 H2) (hd : ∀ σ' H', Pv n σ' H' → D.nx σ' H') : forB g tb D σ (Itr lo n) H :=
  for_it walk_range Pv h0 (fun _ _ _ _ _ => trivial) (fun i x σ' H1 H' hi p y => by obtain ⟨rfl, rfl⟩ := y; exact hs i σ' _ hi p) hd
theorem forB_rng0 {n : Int} (Pv : Nat → L2.St → Hp → Prop) (h0 : Pv 0 σ H) (hs : ∀ (i : Nat) σ' H', (i : Int) < n → Pv i σ' H' → g (.int (i : Int)) σ' H' fun σ2 H2 => tb { D with nx := Pv (i + 1), ct := Pv (i + 1), bk := D.nx } σ2 H2) (hd : ∀ σ' H', Pv n.toNat σ' H' → D.nx σ' H') : forB g tb D σ (Itr 0 n.toNat) H :=
  forB_rng Pv h0 (fun i σ' H' hi p => by rw [Int.zero_add]; exact hs i σ' H' (by omega) p) hd
theorem forB_list (xs : List V) (Pv : Nat → L2.St → Hp → Prop) (h0 : Pv 0 σ H) (hl : ∀ i σ' H', i ≤ xs.length → Pv i σ' H' → SqL K H' a xs) (hs : ∀ i x σ' H', xs[i]? = some x → Pv i σ' H' → g x σ' H' fun σ2 H2 => tb { D with nx := Pv (i + 1), ct := Pv (i + 1), bk := D.nx } σ2 H2) (hd : ∀ σ' H', Pv xs.length σ' H' → D.nx σ' H') : forB g tb D σ (Itl K a) H :=
  for_it walk_list Pv h0 hl (fun i x σ' H1 H' hi p y => by obtain ⟨rfl, e⟩ := y; exact hs i x σ' _ e p) hd
theorem forB_tup (xs : List V) (Pv : Nat → L2.St → Hp → Prop) (h0 : Pv 0 σ H) (hl : ∀ i σ' H', i ≤ xs.length → Pv i σ' H' → SqT K H' a xs) (hs : ∀ i x σ' H', xs[i]? = some x → Pv i σ' H' → g x σ' H' fun σ2 H2 => tb { D with nx := Pv (i + 1), ct := Pv (i + 1), bk := D.nx } σ2 H2) (hd : ∀ σ' H', Pv xs.length σ' H' → D.nx σ' H') : forB g tb D σ (Itt K a) H :=
  for_it walk_tup Pv h0 hl (fun i x σ' H1 H' hi p y => by obtain ⟨rfl, e⟩ := y; exact hs i x σ' _ e p) hd
theorem forB_str {z : Str} (Pv : Nat → L2.St → Hp → Prop) (h0 : Pv 0 σ H) (hs : ∀ i c σ' H', z.cps[i]? = some c → Pv i σ' H' → g (.str ⟨#[c]⟩) σ' H' fun σ2 H2 => tb { D with nx := Pv (i + 1), ct := Pv (i + 1), bk := D.nx } σ2 H2) (hd : ∀ σ' H', Pv z.cps.size σ' H' → D.nx σ' H') : forB g tb D σ (Its z) H :=
  for_it walk_str Pv h0 (fun _ _ _ _ _ => trivial) (fun i x σ' H1 H' hi p y => by obtain ⟨rfl, c, e, rfl⟩ := y; exact hs i c σ' _ e p) hd
/-- a comprehension, whatever it walks -/
def lcB (g : TG) (tt : TT) (te : TE) (vs : List Nat) (σ : L2.St) (Q : VK) (J : It) (H1 : Hp) : Prop := ∀ D, H1 D = none → ∃ W : Nat → Nat → Hp → Prop, (∃ m, W 0 m (upd H1 D (.lst []))) ∧ ∀ i m H, W i m H →
  (J.stop i H ∧ Q (.ref D) H) ∨ (J.go i H ∧ ∃ Nx : Hp → Prop, (∀ H', Nx H' → ∃ m', m' < m ∧ W (i + 1) m' H') ∧ ∀ x H', J.yld i H x H' → g x (wipe σ vs) H' fun σ2 H2 => wipe σ2 vs = wipe σ vs ∧ tt σ2 H2 fun b H3 =>
    if b = true then te σ2 H3 fun y H4 => ∃ acc, H4 D = some (.lst acc) ∧ acc.length < sizeLine ∧ Nx (upd H4 D (.lst (acc ++ [y]))) else Nx H3)
theorem g_lc {wi : TI} {tt : TT} {vs : List Nat} (k : wi σ H (lcB g tt te vs σ Q)) : tLc wi g tt te vs σ H Q := k
/-- the turn's end of a comprehension -/
def lcPut (D : Addr) (P : Hp → Prop) (y : V) (H4 : Hp) : Prop := ∃ acc, H4 D = some (.lst acc) ∧ acc.length < sizeLine ∧ P (upd H4 D (.lst (acc ++ [y])))
def lcT (D : Addr) (tt : TT) (te : TE) (vs : List Nat) (σ : L2.St) (P : Hp → Prop) (σ2 : L2.St) (H2 : Hp) : Prop := wipe σ2 vs = wipe σ vs ∧ tt σ2 H2 fun b H3 =>
    if b = true then te σ2 H3 (lcPut D P) else P H3
theorem lcB_rng {lo : Int} {n : Nat} {tt : TT} {vs : List Nat} (Pv : Addr → Nat → Hp → Prop) (h0 : ∀ D, H D = none → Pv D 0 (upd H D (.lst []))) (hs : ∀ D (i : Nat) H', i < n → Pv D i H' → g (.int (lo + (i : Int))) (wipe σ vs) H' (lcT D tt te vs σ (Pv D (i + 1)))) (hd : ∀ D H', H D = none → Pv D n H' → Q (.ref D) H') : lcB g tt te vs σ Q (Itr lo n) H :=
  fun D hD => lc_it walk_range (Pv D) (h0 D hD) (fun _ _ _ _ => trivial) (fun i x H1 H' hi p y => by obtain ⟨rfl, rfl⟩ := y; exact hs D i _ hi p) (fun H' p => hd D H' hD p)
theorem lcB_rng0 {n : Int} {tt : TT} {vs : List Nat} (Pv : Addr → Nat → Hp → Prop) (h0 : ∀ D, H D = none → Pv D 0 (upd H D (.lst []))) (hs : ∀ D (i : Nat) H', (i : Int) < n → Pv D i H' → g (.int (i : Int)) (wipe σ vs) H' (lcT D tt te vs σ (Pv D (i + 1)))) (hd : ∀ D H', H D = none → Pv D n.toNat H' → Q (.ref D) H') : lcB g tt te vs σ Q (Itr 0 n.toNat) H :=
  lcB_rng Pv h0 (fun D i H' hi p => by rw [Int.zero_add]; exact hs D i H' (by omega) p) hd
theorem lcB_list (xs : List V) {tt : TT} {vs : List Nat} (Pv : Addr → Nat → Hp → Prop) (h0 : ∀ D, H D = none → Pv D 0 (upd H D (.lst []))) (hl : ∀ D i H', i ≤ xs.length → Pv D i H' → SqL K H' a xs) (hs : ∀ D (i : Nat) x H', xs[i]? = some x → Pv D i H' → g x (wipe σ vs) H' (lcT D tt te vs σ (Pv D (i + 1)))) (hd : ∀ D H', H D = none → Pv D xs.length H' → Q (.ref D) H') : lcB g tt te vs σ Q (Itl K a) H :=
  fun D hD => lc_it walk_list (Pv D) (h0 D hD) (hl D) (fun i x H1 H' hi p y => by obtain ⟨rfl, e⟩ := y; exact hs D i x _ e p) (fun H' p => hd D H' hD p)
theorem lcB_tup (xs : List V) {tt : TT} {vs : List Nat} (Pv : Addr → Nat → Hp → Prop) (h0 : ∀ D, H D = none → Pv D 0 (upd H D (.lst []))) (hl : ∀ D i H', i ≤ xs.length → Pv D i H' → SqT K H' a xs) (hs : ∀ D (i : Nat) x H', xs[i]? = some x → Pv D i H' → g x (wipe σ vs) H' (lcT D tt te vs σ (Pv D (i + 1)))) (hd : ∀ D H', H D = none → Pv D xs.length H' → Q (.ref D) H') : lcB g tt te vs σ Q (Itt K a) H :=
  fun D hD => lc_it walk_tup (Pv D) (h0 D hD) (hl D) (fun i x H1 H' hi p y => by obtain ⟨rfl, e⟩ := y; exact hs D i x _ e p) (fun H' p => hd D H' hD p)
theorem forB_zip {b : Addr} (xs ys : List V) (hl : xs.length ≤ ys.length) (Pv : Nat → L2.St → Hp → Prop) (h0 : Pv 0 σ H) (hL : ∀ i σ' H', Pv i σ' H' → SqL K H' a xs ∧ SqL K H' b ys)
    (hs : ∀ i x y T σ' H', xs[i]? = some x → ys[i]? = some y → H' T = none → Pv i σ' H' → g (.ref T) σ' (upd H' T (.tup [x, y])) fun σ2 H2 => tb { D with nx := Pv (i + 1), ct := Pv (i + 1), bk := D.nx } σ2 H2) (hd : ∀ σ' H', Pv xs.length σ' H' → D.nx σ' H') : forB g tb D σ (Itz K a b) H :=
  for_it (walk_zip (xs := xs) (ys := ys) (n := xs.length) (by omega)) Pv h0 (fun i σ' H' _ p => hL i σ' H' p) (fun i v σ' H1 H' hi p y => by obtain ⟨T, x, z, rfl, hT, rfl, e1, e2⟩ := y; exact hs i x z T σ' H1 e1 e2 hT p) hd
theorem lcB_zip {b : Addr} (xs ys : List V) (hl : xs.length ≤ ys.length) {tt : TT} {vs : List Nat} (Pv : Addr → Nat → Hp → Prop) (h0 : ∀ D, H D = none → Pv D 0 (upd H D (.lst []))) (hL : ∀ D i H', Pv D i H' → SqL K H' a xs ∧ SqL K H' b ys)
    (hs : ∀ D (i : Nat) x y T H', xs[i]? = some x → ys[i]? = some y → H' T = none → Pv D i H' → g (.ref T) (wipe σ vs) (upd H' T (.tup [x, y])) (lcT D tt te vs σ (Pv D (i + 1)))) (hd : ∀ D H', H D = none → Pv D xs.length H' → Q (.ref D) H') : lcB g tt te vs σ Q (Itz K a b) H :=
  fun D hD => lc_it (walk_zip (xs := xs) (ys := ys) (n := xs.length) (by omega)) (Pv D) (h0 D hD) (fun i H' _ p => hL D i H' p) (fun i v H1 H' hi p y => by obtain ⟨T, x, z, rfl, hT, rfl, e1, e2⟩ := y; exact hs D i x z T H1 e1 e2 hT p) (fun H' p => hd D H' hD p)
theorem forB_enum (xs : List V) (Pv : Nat → L2.St → Hp → Prop) (h0 : Pv 0 σ H) (hL : ∀ i σ' H', Pv i σ' H' → SqL K H' a xs)
    (hs : ∀ (i : Nat) x T σ' H', xs[i]? = some x → H' T = none → Pv i σ' H' → g (.ref T) σ' (upd H' T (.tup [.int (i : Nat), x])) fun σ2 H2 => tb { D with nx := Pv (i + 1), ct := Pv (i + 1), bk := D.nx } σ2 H2) (hd : ∀ σ' H', Pv xs.length σ' H' → D.nx σ' H') : forB g tb D σ (Ite K a) H :=
  for_it walk_enum Pv h0 (fun i σ' H' _ p => hL i σ' H' p) (fun i v σ' H1 H' hi p y => by obtain ⟨T, x, z, rfl, hT, rfl, e1, e2⟩ := y; cases e1; exact hs i z T σ' H1 e2 hT p) hd
theorem g_lcT {Dl : Addr} {tt : TT} {vs : List Nat} {σ2 : L2.St} {P : Hp → Prop} (hw : wipe σ2 vs = wipe σ vs) (k : tt σ2 H fun b H3 => if b = true then te σ2 H3 (lcPut Dl P) else P H3) : lcT Dl tt te vs σ P σ2 H := ⟨hw, k⟩
theorem g_yes {Q : Bool → Hp → Prop} (k : Q true H) : tYes σ H Q := k
/-- the item goes onto the list at D, which is the first cell -/
theorem g_lcPut {Dl : Addr} {acc : List V} {P : Hp → Prop} (O : Own B cs H) (j : Nat) (h : cs[j]? = some (Dl, .lst acc)) (hz : acc.length < sizeLine) (k : ∀ H', Own B (cs.set j (Dl, .lst (acc ++ [v]))) H' → P H') : lcPut Dl P v H :=
  ⟨acc, O.get j h, hz, k _ (O.set j h)⟩
end
/-! ### texts as lists of codes -/
def S (l : List Nat) : Str := ⟨l.toArray⟩
theorem S_tl (l : List Nat) : (S l).cps.toList = l := by unfold S; simp
theorem S_len (l : List Nat) : (S l).length = l.length := by show (S l).cps.size = _; unfold S; simp
theorem S_app (a b : List Nat) : S a ++ S b = S (a ++ b) := by
  show Str.append (S a) (S b) = _
  unfold Str.append S
  simp
theorem S_of (z : Str) : S z.cps.toList = z := by cases z; unfold S; simp
theorem S_inj {a b : List Nat} (h : S a = S b) : a = b := by
  have := congrArg (fun z : Str => z.cps.toList) h
  simpa [S_tl] using this
theorem cutS_SS (l : List Nat) (a b : Nat) : cutS (S l) (some (a : Int)) (some (b : Int)) = S ((l.drop a).take (b - a)) := by
  unfold cutS
  rw [S_tl, S_len, HT.sIx_nat, HT.sIx_nat]
  show S _ = S _
  congr 1
  by_cases ha : a ≤ l.length
  · rw [Nat.min_eq_left ha]
    by_cases hb : b ≤ l.length
    · rw [Nat.min_eq_left hb]
    · rw [Nat.min_eq_right (by omega), List.take_of_length_le (by rw [List.length_drop]; omega), List.take_of_length_le (by rw [List.length_drop]; omega)]
  · rw [List.drop_of_length_le (by omega), List.drop_of_length_le (by omega)]
    simp
theorem cutS_take (l : List Nat) (b : Nat) : cutS (S l) none (some (b : Int)) = S (l.take b) := by
  have h := cutS_SS l 0 b
  rw [List.drop_zero, Nat.sub_zero] at h
  rw [← h]
  rfl
theorem cutS_drop (l : List Nat) (a : Nat) : cutS (S l) (some (a : Int)) none = S (l.drop a) := by
  unfold cutS
  rw [S_tl, S_len, HT.sIx_nat, HT.sIx_none]
  show S _ = S _
  congr 1
  by_cases ha : a ≤ l.length
  · rw [Nat.min_eq_left ha, List.take_of_length_le (by rw [List.length_drop]; omega)]
  · rw [List.drop_of_length_le (by omega), List.drop_of_length_le (by omega)]
    simp
section
variable {K : PySem.W.Frag} {H : Hp} {x : V} {Q : VK} {p : Addr} {xs : List V}
theorem g_addSS {a b : List Nat} (h : a.length + b.length ≤ 16777216) (k : Q (.str (S (a ++ b))) H) : rAddU K (.str (S a)) (.str (S b)) H Q :=
  g_addS (by rw [S_len, S_len]; exact small_le h) (by rw [S_app]; exact k)
theorem g_lenSS {a : List Nat} (h : a.length ≤ 16777216) (k : Q (.int (a.length : Nat)) H) : rLenU K [.str (S a)] H Q :=
  g_lenS (by rw [S_len]; exact small_le h) (by rw [S_len]; exact k)
theorem g_ixSS {a : List Nat} {i : Int} {c : Nat} (h : a.length ≤ 16777216) (h0 : 0 ≤ i) (hc : a[i.toNat]? = some c) (k : Q (.str (S [c])) H) : rIx K (.str (S a)) (.int i) H Q :=
  g_ixS (by rw [S_len]; exact small_le h) (by rw [S_tl]; exact atI_of h0 hc) k
theorem g_eqSS {a b : List Nat} (k : Q (.bl (decide (a = b))) H) : rEqU K (.str (S a)) (.str (S b)) H Q := g_eqS (by
  have e : decide (S a = S b) = decide (a = b) := by
    by_cases h : a = b
    · rw [h]; simp
    · rw [decide_eq_false h, decide_eq_false fun q => h (S_inj q)]
  rw [e]; exact k)
theorem g_inT (h : SqT K H p xs) (hx : flatV x = true) (hs : xs.all flatV = true) (k : Q (.bl (inV x xs)) H) : rInU K x (.ref p) H Q := .inl ⟨p, xs, rfl, .inr h, hx, hs, k⟩
theorem g_notInT (h : SqT K H p xs) (hx : flatV x = true) (hs : xs.all flatV = true) (k : Q (.bl (!inV x xs)) H) : rNotInU K x (.ref p) H Q := .inl ⟨p, xs, rfl, .inr h, hx, hs, k⟩
theorem g_inL (h : SqL K H p xs) (hx : flatV x = true) (hs : xs.all flatV = true) (k : Q (.bl (inV x xs)) H) : rInU K x (.ref p) H Q := .inl ⟨p, xs, rfl, .inl h, hx, hs, k⟩
theorem g_notInL (h : SqL K H p xs) (hx : flatV x = true) (hs : xs.all flatV = true) (k : Q (.bl (!inV x xs)) H) : rNotInU K x (.ref p) H Q := .inl ⟨p, xs, rfl, .inl h, hx, hs, k⟩
end
/-! ### join -/
def rJoin (K : PySem.W.Frag) : V → List V → Hp → VK → Prop := fun x xs H Q => ∃ a p, ∃ ys : List Str, x = .str a ∧ xs = [.ref p] ∧ (SqL K H p (ys.map V.str) ∨ SqT K H p (ys.map V.str)) ∧ (ys.map (·.length)).sum + ys.length * a.length ≤ 16777216 ∧ Q (.str (Txt.join a ys)) H
theorem pe_joinU {X : Cx} {o e : Expr} {to te : TE} {apos pos : Pos} (ho : PE X o to) (he : PE X e te) (hs : starEach [e] X.env = [(false, eval e X.env)] := by rfl) (hbase : attributeBase o "join" X.env (eval o X.env) = eval o X.env := by rfl) (hline : (apos.endLine == pos.line) = true := by rfl) :
    PE X (.Call (.Attribute o "join" apos) [e] [] pos) (tM1 (rJoin X.K) to te) := pe_join ho he hs hbase hline
def m1K (r : V → List V → Hp → VK → Prop) (te : TE) (σ : L2.St) (Q : VK) (x : V) (H1 : Hp) : Prop := (∃ a, x = .str a) ∧ te σ H1 fun y H2 => r x [y] H2 Q
section
variable {K : PySem.W.Frag} {H : Hp} {Q : VK} {p : Addr} {σ : L2.St} {to te : TE}
theorem g_M1 {r : V → List V → Hp → VK → Prop} (k : to σ H (m1K r te σ Q)) : tM1 r to te σ H Q := k
theorem g_m1K {r : V → List V → Hp → VK → Prop} {z : Str} (k : te σ H fun y H2 => r (.str z) [y] H2 Q) : m1K r te σ Q (.str z) H := ⟨⟨z, rfl⟩, k⟩
theorem g_joinL {a : Str} {ys : List Str} (h : SqL K H p (ys.map V.str)) (hz : (ys.map (·.length)).sum + ys.length * a.length ≤ 16777216) (k : Q (.str (Txt.join a ys)) H) : rJoin K (.str a) [.ref p] H Q := ⟨a, p, ys, rfl, rfl, .inl h, hz, k⟩
end
theorem join_SS : ∀ cs : List (List Nat), Txt.join (S []) (cs.map S) = S cs.flatten := by
  intro cs
  rw [TL.join_eq]
  induction cs with
  | nil => rfl
  | cons c r ih =>
    cases r with
    | nil =>
      show S c = S ([c].flatten)
      rw [List.flatten_cons, List.flatten_nil, List.append_nil]
    | cons c2 r =>
      show S c ++ S [] ++ Str.join (S []) ((c2 :: r).map S) = _
      rw [ih, S_app, S_app, List.append_nil]
      rfl
theorem sum_SS (cs : List (List Nat)) : ((cs.map S).map (·.length)).sum = cs.flatten.length := by
  induction cs with
  | nil => rfl
  | cons c r ih =>
    rw [List.map_cons, List.map_cons, List.sum_cons, ih, List.flatten_cons, List.length_append]
    show (S c).length + _ = _
    rw [S_len]

/-! ### objects -/
section
variable {K : PySem.W.Frag} {B : Hp} {cs : List (Addr × HO)} {σ : L2.St} {H : Hp} {a C dx : Addr} {fs : List (Str × V)} {f : Str} {v x : V} {Q : VK} {D : Ends} {ta tv : TE} {as : TA}
def sFldK (K : PySem.W.Frag) (y : V) (f : Str) (D : Ends) (σ : L2.St) (x : V) (H2 : Hp) : Prop := ∃ a C dx fs, x = .ref a ∧ H2 a = some (.ins C dx fs) ∧ Cls K C ∧ NoAttr K C f ∧ fs.length < 1000 ∧ D.nx σ (upd H2 a (.ins C dx (putF f y fs)))
theorem g_sFld (k : tv σ H fun y H1 => ta σ H1 (sFldK K y f D σ)) : sFld K ta tv f D σ H := k
theorem g_sFldK (O : Own B cs H) (j : Nat) (h : cs[j]? = some (a, .ins C dx fs)) (cl : Cls K C) (na : NoAttr K C f) (hl : fs.length < 1000) (k : ∀ H', Own B (cs.set j (a, .ins C dx (putF f v fs))) H' → D.nx σ H') : sFldK K v f D σ (.ref a) H :=
  ⟨a, C, dx, fs, rfl, O.get j h, cl, na, hl, k _ (O.set j h)⟩
def makeK (C : Addr) (sp : Sp) (dvs : List V) (E : XK) (Q : VK) (vs : List V) (H1 : Hp) : Prop := ∀ x dx, H1 x = none → H1 dx = none → dx ≠ x → sp (.ref x :: (vs ++ dvs)) (upd (upd H1 dx (.own x)) x (.ins C dx [])) (fun v H2 => v = .non ∧ Q (.ref x) H2) E
theorem g_make {sp : Sp} {dvs : List V} {E : XK} (k : as σ H (makeK C sp dvs E Q)) : tMake C sp dvs E as σ H Q := k
theorem g_makeK {sp : Sp} {dvs vs : List V} {E : XK} (O : Own B cs H) (k : ∀ x dx H', H x = none → Own B ((x, .ins C dx []) :: cs) H' → sp (.ref x :: (vs ++ dvs)) H' (fun v H2 => v = .non ∧ Q (.ref x) H2) E) : makeK C sp dvs E Q vs H := by
  intro x dx hx hdx hne
  have O1 : Own B ((dx, .own x) :: cs) (upd H dx (.own x)) := O.alloc hdx
  have hx1 : (upd H dx (.own x)) x = none := by rw [upd_ne hne.symm]; exact hx
  have O2 : Own B ((x, .ins C dx []) :: (dx, .own x) :: cs) (upd (upd H dx (.own x)) x (.ins C dx [])) := O1.alloc hx1
  exact k x dx _ hx (O2.sub ((List.sublist_cons_self _ _).cons_cons _))
theorem g_eqNon {n : Int} (k : Q (.bl false) H) : rEqU K .non (.int n) H Q := .inl ⟨rfl, k⟩
/-- a call that changes one cell, and makes tuples -/
theorem Own.mutT {H' : Hp} {o o' : HO} (O : Own B cs H) (j : Nat) (h : cs[j]? = some (a, o)) (e : ∀ b u, b ≠ a → H b = some u → H' b = some u) (ha : H' a = some o') (nt : ∀ c ∈ cs.set j (a, o'), ∀ xs, c.2 ≠ .tup xs) :
    ∃ B', Same B B' ∧ Own B' (cs.set j (a, o')) H' ∧ Tup H' B' := by
  have O' := O.mut j h e ha
  exact ⟨tupsOf H' B, tupsOf_same O'.fr, O'.tups nt, tupsOf_tup⟩
/-- a call that makes tuples -/
theorem Own.exT {H' : Hp} (O : Own B cs H) (e : Same H H') (nt : ∀ c ∈ cs, ∀ xs, c.2 ≠ .tup xs) : ∃ B', Same B B' ∧ Own B' cs H' ∧ Tup H' B' := by
  have O' := O.ex e
  exact ⟨tupsOf H' B, tupsOf_same O'.fr, O'.tups nt, tupsOf_tup⟩
end
theorem canLay_ints : ∀ ns : List Int, PyData.canLayAll0 (ns.map PyData.int) = true
  | [] => rfl
  | n :: ns => by
    show (PyData.canLay0 (.int n) && PyData.canLayAll0 (ns.map PyData.int)) = true
    rw [canLay_ints ns]
    rfl
theorem depth_ints : ∀ ns : List Int, PyData.depthAll (ns.map PyData.int) ≤ 1
  | [] => by simp [PyData.depthAll]
  | n :: ns => by
    have h := depth_ints ns
    simp only [List.map_cons, PyData.depthAll, PyData.depth]
    omega
theorem shaped_ints (ns : List Int) : SeqAt.shaped (.list (ns.map PyData.int)) = true := by
  have h := depth_ints ns
  have h2 := canLay_ints ns
  show (PyData.canLay0 (.list (ns.map PyData.int)) && decide (PyData.depth (.list (ns.map PyData.int)) ≤ 64)) = true
  rw [show PyData.canLay0 (.list (ns.map PyData.int)) = true from by simp only [PyData.canLay0]; exact h2, Bool.true_and]
  refine decide_eq_true ?_
  simp only [PyData.depth]
  omega
theorem lay_ints (ns : List Int) : PyData.canLay0 (.list (ns.map PyData.int)) = true := by simp only [PyData.canLay0]; exact canLay_ints ns
theorem eqv_ints (ns : List Int) : PyData.eqv (.list (ns.map PyData.int)) (.list (ns.map PyData.int)) = true := by
  rw [SeqAt.eqv_refl]
  exact lay_ints ns
theorem cut_take {xs : List V} {n : Int} (h : 0 ≤ n) : cutV xs none (some n) = xs.take n.toNat := by
  unfold cutV
  have e : ((n.toNat : Nat) : Int) = n := Int.toNat_of_nonneg h
  rw [← e, HT.sIx_nat, HT.sIx_none, List.drop_zero, Nat.sub_zero, Int.toNat_natCast]
  by_cases hl : n.toNat ≤ xs.length
  · rw [Nat.min_eq_left hl]
  · rw [Nat.min_eq_right (by omega), List.take_of_length_le (Nat.le_refl _), List.take_of_length_le (by omega)]
theorem cut_drop {xs : List V} {n : Int} (h : 0 ≤ n) : cutV xs (some n) none = xs.drop n.toNat := by
  unfold cutV
  have e : ((n.toNat : Nat) : Int) = n := Int.toNat_of_nonneg h
  rw [← e, HT.sIx_nat, HT.sIx_none, Int.toNat_natCast]
  by_cases hl : n.toNat ≤ xs.length
  · rw [Nat.min_eq_left hl, List.take_of_length_le (by rw [List.length_drop]; exact Nat.le_refl _)]
  · rw [Nat.min_eq_right (by omega), List.drop_length, List.drop_of_length_le (by omega)] <;> simp
/-! ### isinstance -/
def tyName : PyData → String
  | .none => "NoneType"
  | .bool _ => "bool"
  | .int _ => "int"
  | .str _ => "str"
  | .list _ => "list"
  | .tuple _ => "tuple"
  | .dict _ => "dict"
theorem tyx_dp {K : PySem.W.Frag} {H : Hp} {x : V} {d : PyData} (h : Dp K H x d) : TyX K H x (.type (tyName d)) := by
  cases h with
  | non => exact .base .non
  | bl b => exact .base (.bl b)
  | int i => exact .base (.int i)
  | str s => exact .base (.str s)
  | lst h _ =>
    rcases h with (h | ⟨o, h⟩) | ⟨o, its, n, h, hc, _⟩
    · exact .base (.lst h)
    · exact .base (.frz h)
    · exact .kList h hc
  | tup h _ =>
    rcases h with (h | ⟨o, h⟩) | ⟨o, its, n, h, hc, _⟩
    · exact .base (.tup h)
    · exact .fTuple h
    · exact .kTuple h hc
theorem g_isi {K : PySem.W.Frag} {H : Hp} {x : V} {d : PyData} {T : String} {Q : VK} {b : Bool} (h : Dp K H x d) (hb : kitB (tyName d) T = some b) (k : Q (.bl b) H) : rIsiU K [x, .ty T] H Q :=
  .inl ⟨x, .ty T, .type (tyName d), .type T, b, rfl, .ty T, tyx_dp h, kit_ty hb, k⟩
theorem g_isi2 {K : PySem.W.Frag} {H : Hp} {x : V} {d : PyData} {T U : String} {t : Addr} {Q : VK} {b c : Bool} (ht : H t = some (.tup [.ty T, .ty U])) (h : Dp K H x d) (hb : kitB (tyName d) T = some b) (hc : kitB (tyName d) U = some c) (k : Q (.bl (b || c)) H) : rIsiU K [x, .ref t] H Q := by
  refine .inr ⟨x, t, [.ty T, .ty U], .type (tyName d), [.type T, .type U], b || c, rfl, ht, .cons (.ty T) (.cons (.ty U) .nil), tyx_dp h, ?_, k⟩
  refine kitAny_cons (kit_ty hb) (fun e => ?_) (fun e => by rw [e] <;> rfl)
  refine kitAny_cons (kit_ty hc) (fun e2 => ?_) (fun e2 => by rw [e2, e] <;> rfl)
  rw [e, e2]
  exact kitAny_nil
/-- nothing is promised -/
theorem fn_none {P : Program} {w : World} {K : PySem.W.Frag} {mg : Str → Option Value} {base : Heap} {CX : CXT} {k : Nat} {f : Addr} {fd : FuncData} {ps : List Str} {sp : Sp} (h : ∀ vs H Q E, ¬ sp vs H Q E) : FnOk P w K mg base CX k f fd ps sp :=
  ⟨fun vs H Q E q => absurd q (h vs H Q E), fun _ _ _ H _ _ vs Q E _ _ _ _ q => absurd q (h vs H Q E)⟩
/-- not deeper than -/
inductive Dl : Nat → PyData → Prop
  | non {n : Nat} : Dl (n + 1) .none
  | bl {n : Nat} {b : Bool} : Dl (n + 1) (.bool b)
  | int {n : Nat} {i : Int} : Dl (n + 1) (.int i)
  | str {n : Nat} {s : Str} : Dl (n + 1) (.str s)
  | lst {n : Nat} {ds : List PyData} : ds.length ≤ 16777216 → (∀ d ∈ ds, Dl n d) → Dl (n + 1) (.list ds)
  | tup {n : Nat} {ds : List PyData} : ds.length ≤ 16777216 → (∀ d ∈ ds, Dl n d) → Dl (n + 1) (.tuple ds)
theorem dl_ints {n : Nat} (ns : List Int) (h : ns.length ≤ 16777216) : Dl (n + 2) (.list (ns.map PyData.int)) := .lst (by rw [List.length_map]; exact h) (fun d hd => by
  obtain ⟨i, _, rfl⟩ := List.mem_map.mp hd
  exact .int)
theorem iff_false_of {p : Prop} (h : ¬ p) : (false = true ↔ p) := ⟨(fun e => nomatch e), fun e => absurd e h⟩
theorem iff_true_of {p : Prop} (h : p) : (true = true ↔ p) := ⟨fun _ => h, fun _ => rfl⟩
/-- the two answers for the five kinds -/
def isK : PyData → String → Bool
  | .bool _, "int" => true
  | d, T => tyName d == T
end Zl

/-! Ze: calls of methods that may raise; an own error is of its own class -/
namespace Zl
open PySem PySem.Spec PyProof.Rows L2
def tMethX (C : Addr) (m : Str) (sp : Sp) (E : L2.St → XK) (ta : TE) (t : TA) : TE := fun σ H Q => ta σ H fun x H1 => ∃ a dx fs, x = .ref a ∧ H1 a = some (.ins C dx fs) ∧ fs.lookup m = none ∧ t σ H1 fun vs H2 => sp (x :: vs) H2 Q (E σ)
section
variable {X : Cx} {CX : CXT} {k : Nat} {f C : Addr} {fd : FuncData} {ps : List Str} {sp : Sp} {E : L2.St → XK} {x m : Str} {p pos apos : Pos} {e o : Expr} {es : List Expr} {ta : TE} {t : TA}
/-- o.m(e, ..), m may raise -/
theorem pe_methX {pl : Sem Bool} (he : PE X o ta) (c : Cls X.K C) (hm : Meth X.K C m f) (F : FnOk X.prog X.w X.K X.mg X.base CX k f fd ps sp) (hr : Room k X.A) (hb : Binds X.K fd ps []) (hx : ∀ σ, PassesAt CX X σ (E σ)) (ha : PA X (e :: es) t)
    (hst : starEach (e :: es) X.env = (false, eval e X.env) :: starEach es X.env := by rfl) (hpl : (backTo pos (starEach es X.env)).any (·.1) = false := by rfl)
    (ht : eval (.Call (.Attribute o m apos) (e :: es) [] pos) X.env = (do
      let ov ← eval o X.env
      standAt apos.atName
      let (f, first) ← holding [ov] (getMethod ov m pl)
      callWith pos f first (backTo pos (starEach (e :: es) X.env)) (backToKw pos (keywordEach [] X.env))) := by rfl) :
    PE X (.Call (.Attribute o m apos) (e :: es) [] pos) (tMethX C m sp E ta t) := by
  refine ⟨fun pins s σ H Q I h => ?_⟩
  refine PySem.W.methodCall_KW (pl := pl) (thn (he.run pins s σ H _ I h) fun u s1 ⟨x, H1, I1, rx, a, dx, fs, ex, ea, l, q⟩ => ?_) ht
  subst ex
  obtain rfl : u = Value.ref a := rx
  refine getmeth_ok I1 ea c hm l ?_
  refine PySem.W.callWith_K (first := [.ref a]) (h₀ := X.base) I.ok.mod.kin hm.kp (thn (ha.run pos pins s1 σ H1 _ I1 q) fun us s2 ⟨vs, H2, I2, r, q2⟩ => ⟨I2.kIn, ?_⟩) hst hpl
  exact run_fnS (us := .ref a :: us) (vs := .ref a :: vs) F hr hb (hx σ) I2 (.cons rfl r) q2
/-- o.m(), m may raise -/
theorem pe_methX0 {pl : Sem Bool} (he : PE X o ta) (c : Cls X.K C) (hm : Meth X.K C m f) (F : FnOk X.prog X.w X.K X.mg X.base CX k f fd ps sp) (hr : Room k X.A) (hb : Binds X.K fd ps []) (hx : ∀ σ, PassesAt CX X σ (E σ))
    (ht : eval (.Call (.Attribute o m apos) [] [] pos) X.env = (do
      let ov ← eval o X.env
      standAt apos.atName
      let (f, first) ← holding [ov] (getMethod ov m pl)
      callWith pos f first (backTo pos (starEach [] X.env)) (backToKw pos (keywordEach [] X.env))) := by rfl) :
    PE X (.Call (.Attribute o m apos) [] [] pos) (tMethX C m sp E ta tNil) := by
  refine ⟨fun pins s σ H Q I h => ?_⟩
  refine PySem.W.methodCall_KW (pl := pl) (thn (he.run pins s σ H _ I h) fun u s1 ⟨x, H1, I1, rx, a, dx, fs, ex, ea, l, q⟩ => ?_) ht
  subst ex
  obtain rfl : u = Value.ref a := rx
  refine getmeth_ok I1 ea c hm l ?_
  exact PySem.W.callWith_K0 (first := [.ref a]) I1.kIn hm.kp (run_fnS (us := [.ref a]) (vs := [.ref a]) F hr hb (hx σ) I1 (.cons rfl .nil) q)
end
/-- an error of the class at S is what «except S» names -/
theorem exm_self {K : PySem.W.Frag} {S : Addr} (h1 : PySem.W.subIn K (.ref S) (.type "BaseException") = some true) (h2 : PySem.W.isClsIn K S = true) (h3 : PySem.W.typeIn K (.ref S) = some (.type "type")) (h4 : PySem.W.subIn K (.ref S) (.ref S) = some true) :
    PySem.W.exmOne K (.ref S) (.ref S) = some true := by
  have e1 : (PySem.W.subIn K (.ref S) (.type "BaseException") == some true) = true := by rw [h1] <;> rfl
  have e2 : ((PySem.W.clsIn K S).isSome && PySem.W.typeIn K (.ref S) == some (.type "type")) = true := by
    have h2' : (PySem.W.clsIn K S).isSome = true := h2
    rw [h2', h3] <;> rfl
  show (if (PySem.W.subIn K (.ref S) (.type "BaseException") == some true) = true then (if ((PySem.W.clsIn K S).isSome && PySem.W.typeIn K (.ref S) == some (.type "type")) = true then PySem.W.subIn K (.ref S) (.ref S) else none) else none) = some true
  rw [if_pos e1, if_pos e2]
  exact h4
/-- what a text has of an own error class without __init__, over ValueError -/
structure Err (K : PySem.W.Frag) (mg : Str → Option Value) (x : Str) (C : Addr) : Prop where
  xP : PySem.W.excIn K C [.type "ValueError", .type "Exception", .type "BaseException", .type "object"] "ValueError.__new__" = true
  gP : mg x = some (.ref C)
  kP : PySem.W.keepIn K (.ref C) = true
  bP : PySem.W.subIn K (.ref C) (.type "BaseException") = some true
  tP : PySem.W.typeIn K (.ref C) = some (.type "type")
  eP : PySem.W.exmOne K (.ref C) (.ref C) = some true
def methXK (m : Str) (C : Addr) (sp : Sp) (E : L2.St → XK) (as : TA) (σ : L2.St) (Q : VK) (x : V) (H1 : Hp) : Prop := ∃ a dx fs, x = .ref a ∧ H1 a = some (.ins C dx fs) ∧ fs.lookup m = none ∧ as σ H1 fun vs H2 => sp (x :: vs) H2 Q (E σ)
section
variable {σ : L2.St} {H : Hp} {Q : VK} {ta te : TE} {as : TA} {m : Str} {C : Addr} {sp : Sp} {E : L2.St → XK}
theorem g_methX (k : ta σ H (methXK m C sp E as σ Q)) : tMethX C m sp E ta as σ H Q := k
theorem g_methXK {a dx : Addr} {fs : List (Str × V)} (h : H a = some (.ins C dx fs)) (l : fs.lookup m = none) (k : as σ H fun vs H2 => sp (.ref a :: vs) H2 Q (E σ)) : methXK m C sp E as σ Q (.ref a) H := ⟨a, dx, fs, rfl, h, l, k⟩
/-- raise -/
def tRaise (W : WX) (C : Addr) : TS := fun _ σ H => W (.ref C) none σ H
theorem ps_raiseE {X : Cx} {W : WX} {x t : Str} {C : Addr} {j : Nat} {p p2 pos pos2 : Pos} (hc : X.calm = true) (tk : Takes X W) (T : Err X.K X.mg x C) (hg : Gl X x) (hd : (x == ("__debug__" : Str)) = false := by decide) : PS X (.Raise (some (.Call (.Name x p) [.Constant (.str t) j p2] [] pos)) none pos2) (tRaise W C) :=
  ps_raise hc tk (pmk_own PySem.F.excBase_ValueError T.xP T.gP T.kP (raises_own T.bP T.tP) hg hd)
theorem g_raise {W : WX} {D : Ends} (k : W (.ref C) none σ H) : tRaise W C D σ H := k
end
/-! ### a while loop, by a word and a measure -/
def whB (Pv : Nat → L2.St → Hp → Prop) (n : Nat) (tb : TS) (D : Ends) (σ : L2.St) (H : Hp) : Prop := ∃ N : L2.St → Hp → Prop, (∀ σ' H', N σ' H' → ∃ m', m' < n ∧ Pv m' σ' H') ∧ tb { D with nx := N, ct := N, bk := D.nx } σ H
section
variable {c : TT} {tb : TS} {D : Ends} {σ : L2.St} {H : Hp}
theorem g_while (Pv : Nat → L2.St → Hp → Prop) (n : Nat) (h0 : Pv n σ H) (hs : ∀ n σ H, Pv n σ H → c σ H fun b H1 => if b = true then whB Pv n tb D σ H1 else D.nx σ H1) : tWhile c tb D σ H := ⟨Pv, ⟨n, h0⟩, hs⟩
theorem g_whB {Pv : Nat → L2.St → Hp → Prop} {n : Nat} (k : tb { D with nx := fun σ' H' => ∃ m, m < n ∧ Pv m σ' H', ct := fun σ' H' => ∃ m, m < n ∧ Pv m σ' H', bk := D.nx } σ H) : whB Pv n tb D σ H := ⟨_, fun _ _ h => h, k⟩
end
/-! ### o.f += e -/
def fldAugP (C : Addr) (f : Str) (D : Ends) (σ : L2.St) (a : Addr) (z : V) (H3 : Hp) : Prop := ∃ dx' fs', H3 a = some (.ins C dx' fs') ∧ fs'.length < 1000 ∧ D.nx σ (upd H3 a (.ins C dx' (putF f z fs')))
def fldAugK (K : PySem.W.Frag) (tv : TE) (rd : V → V → Hp → VK → Prop) (f : Str) (D : Ends) (σ : L2.St) (x : V) (H1 : Hp) : Prop := ∃ a C dx fs v, x = .ref a ∧ H1 a = some (.ins C dx fs) ∧ Cls K C ∧ NoAttr K C f ∧ fs.lookup f = some v ∧ tv σ H1 fun y H2 => rd v y H2 (fldAugP C f D σ a)
section
variable {K : PySem.W.Frag} {ta tv : TE} {rd : V → V → Hp → VK → Prop} {f : Str} {D : Ends} {σ : L2.St} {H B : Hp} {cs : List (Addr × HO)} {a C dx : Addr} {fs : List (Str × V)} {v z : V}
theorem g_sFldAug (k : ta σ H (fldAugK K tv rd f D σ)) : sFldAug K ta tv rd f D σ H := k
theorem g_fldAugK (h : H a = some (.ins C dx fs)) (cl : Cls K C) (na : NoAttr K C f) (l : fs.lookup f = some v) (k : tv σ H fun y H2 => rd v y H2 (fldAugP C f D σ a)) : fldAugK K tv rd f D σ (.ref a) H := ⟨a, C, dx, fs, v, rfl, h, cl, na, l, k⟩
theorem g_fldAugP (O : Own B cs H) (j : Nat) (h : cs[j]? = some (a, .ins C dx fs)) (hl : fs.length < 1000) (k : ∀ H', Own B (cs.set j (a, .ins C dx (putF f z fs))) H' → D.nx σ H') : fldAugP C f D σ a z H := ⟨dx, fs, O.get j h, hl, k _ (O.set j h)⟩
theorem g_rAdd {m n : Int} {Q : VK} (k : Q (.int (m + n)) H) : rAdd (.int m) (.int n) H Q := ⟨m, n, rfl, rfl, k⟩
end
/-! ### slices, comparisons -/
theorem cut_mid (xs : List V) (a b : Nat) : cutV xs (some (a : Int)) (some (b : Int)) = (xs.drop a).take (b - a) := by
  unfold cutV
  rw [HT.sIx_nat, HT.sIx_nat]
  by_cases ha : a ≤ xs.length
  · rw [Nat.min_eq_left ha]
    by_cases hb : b ≤ xs.length
    · rw [Nat.min_eq_left hb]
    · rw [Nat.min_eq_right (by omega), List.take_of_length_le (by rw [List.length_drop]; omega), List.take_of_length_le (by rw [List.length_drop]; omega)]
  · rw [List.drop_of_length_le (by omega), List.drop_of_length_le (by omega)]
    simp
theorem eqvAll_intsD : ∀ a b : List Int, PyData.eqvAll (a.map PyData.int) (b.map PyData.int) = decide (a = b)
  | [], [] => rfl
  | [], _ :: _ => rfl
  | _ :: _, [] => rfl
  | x :: a, y :: b => by
    show (PyData.eqv (.int x) (.int y) && PyData.eqvAll (a.map PyData.int) (b.map PyData.int)) = _
    rw [eqvAll_intsD a b]
    have e : PyData.eqv (.int x) (.int y) = decide (x = y) := by
      show (x == y) = _
      by_cases h : x = y
      · rw [h]; simp
      · rw [decide_eq_false h, beq_eq_false_iff_ne.mpr h]
    rw [e]
    by_cases h1 : x = y
    · by_cases h2 : a = b
      · rw [h1, h2]; simp
      · rw [decide_eq_false h2, decide_eq_false (fun q => h2 (List.cons.inj q).2)]; simp
    · rw [decide_eq_false h1, decide_eq_false (fun q => h1 (List.cons.inj q).1)]; rfl
theorem eqv_intsD (a b : List Int) : PyData.eqv (.list (a.map PyData.int)) (.list (b.map PyData.int)) = decide (a = b) := eqvAll_intsD a b
end Zl

/-! Zs: sorted(xs, key=lambda each: each[0]); the table of code objects is an owned cell -/
namespace Zl
open PySem PySem.Spec PyProof.Rows L2 LamX
/-- the table ps tells only code objects of the name q that stand in B -/
def TabI (B : Hp) (q : Str) (ps : Array Value) : Prop := TriplesOk ps.toList ∧ ∀ (pos : Pos) (cv : Value), codeAmong pos ps.toList = some cv → ∃ c, cv = .ref c ∧ B c = some (CodeO c q)
theorem TabI.ex {B B' : Hp} {q : Str} {ps : Array Value} (e : Same B B') (t : TabI B q ps) : TabI B' q ps := ⟨t.1, fun pos cv h => by
  obtain ⟨c, e1, e2⟩ := t.2 pos cv h
  exact ⟨c, e1, e _ _ e2⟩⟩
theorem TabI.nil {B : Hp} {q : Str} : TabI B q #[] := ⟨True.intro, fun pos cv h => by
  have z : codeAmong pos [] = some cv := h
  simp [codeAmong] at z⟩
/-- the making of a lambda: nothing, or a code object and its place in the table -/
def LStep (P : Addr) (q : Str) (ps : Array Value) (H H1 : Hp) : Prop :=
  H1 = H ∨ ∃ (ps' : Array Value) (c' : Addr), H c' = none ∧ TriplesOk ps'.toList ∧ (∀ pos cv, codeAmong pos ps'.toList = some cv → codeAmong pos ps.toList = some cv ∨ cv = .ref c') ∧ H1 = upd (upd H P (.tbl ps')) c' (CodeO c' q)
section
variable {X : Cx} {pins : List (Addr × Obj)} {σ : L2.St} {H : Hp} {s : Shared}
theorem lam_mk {c P : Addr} {ps : Array Value} {params : Arguments} {body : Expr} {scope : Scope} {pos : Pos} {E : Value → Shared → Prop} {Q : Value → Shared → Prop} (I : Inv X pins σ H s) (TB : TabB X.base X.mg c P) (hcode : X.env.code = .ref c)
    (hP : H P = some (.tbl ps)) (TI : TabI H (X.env.qual ++ "<lambda>") ps) (hdef : defaultsOf params X.env = ([], [])) (hfree : ∀ y ∈ scope.names, y.2 = .free → ∃ c, X.env.cells.lookup y.1 = some c)
    (h : ∀ (f c' : Addr) (pm ctv : Value) (H1 : Hp) (s' : Shared), Inv X pins σ H1 s' → LStep P (X.env.qual ++ "<lambda>") ps H H1 →
      s'.heap.get? f = some (PySem.W.kla_obj "<lambda>" (X.env.qual ++ "<lambda>") params body scope (cloFrom X.env.cells scope.names []) pm c' ctv) → H1 c' = some (CodeO c' (X.env.qual ++ "<lambda>")) → Q (.ref f) s') :
    wpAny (model X.prog X.w) X.A (eval (.Lambda params body scope pos) X.env) Q E s := by
  obtain ⟨ht, ha⟩ := TI
  refine PySem.W.kla_eval hdef ?_
  have bP : s.heap.BuiltinsAt X.mg P := TB.bm.keeps I.bk
  have hP' : s.heap.get? P = some { cls := .none, data := .fields ps } := I.hok P _ hP
  cases hc : codeAmong pos ps.toList with
  | none =>
    refine PySem.W.kla_makeFunction (mg := X.mg) (c := c) (P := P) (ps := ps) (closure_ok hfree) I.ok.glob (I.mod.glob.keeps I.bk) hcode (TB.code.keeps I.bk) hP' ht hc TB.gP bP fun c' ctv h' tk hx hge hlt hrec htb => ?_
    obtain ⟨c2, oc, vs, t, e2, hoc, hd, hv⟩ := hrec
    cases e2
    have nC : H c' = none := I.hok.fresh hge
    have eL : (ps ++ #[rawInt pos.line, rawInt pos.col, .ref c']).toList = ps.toList ++ [rawInt pos.line, rawInt pos.col, .ref c'] := by simp
    have I1 := inv_table (q := X.env.qual ++ "<lambda>") (t' := tk) (more := #[rawInt pos.line, rawInt pos.col, .ref c']) (h' := h'.push (PySem.W.kla_obj "<lambda>" (X.env.qual ++ "<lambda>") params body scope (cloFrom X.env.cells scope.names []) ((X.mg "__name__").getD .none) c' ctv)) I hP
      (fun b o hb e => Heap.get?_push_of_some _ (hx b o hb e)) (Heap.get?_push_of_some _ htb) hge ⟨oc, vs, t, Heap.get?_push_of_some _ hoc, hd, hv⟩
    refine h h'.objs.size c' ((X.mg "__name__").getD .none) ctv _ _ I1 (.inr ⟨_, c', nC, by rw [eL]; exact PySem.TriplesOk_snoc _ _ _ _ ht, fun p' cv hcv => ?_, rfl⟩) (Heap.get?_push_size _ rfl) upd_same
    rw [eL] at hcv
    exact among_app _ ht hcv
  | some cv =>
    obtain ⟨c', rfl, hco⟩ := ha pos cv hc
    refine PySem.W.kla_makeFunctionHit (mg := X.mg) (c := c) (P := P) (ps := ps) (closure_ok hfree) I.ok.glob (I.mod.glob.keeps I.bk) hcode (TB.code.keeps I.bk) hP' ht hc bP fun ctv h' tk hx hsz => ?_
    have I1 : Inv X pins σ H { s with heap := h'.push (PySem.W.kla_obj "<lambda>" (X.env.qual ++ "<lambda>") params body scope (cloFrom X.env.cells scope.names []) ((X.mg "__name__").getD .none) c' ctv), toks := tk } := I.kept fun b o e => Heap.get?_push_of_some _ (hx b o e)
    exact h h'.objs.size c' ((X.mg "__name__").getD .none) ctv H _ I1 (.inl rfl) (Heap.get?_push_size _ rfl) hco
end
/-! ### lambda each: each[0] -/
abbrev eachArgs (p : Pos) : Arguments := { posonlyargs := [], args := [{ arg := "each", annotation := none, pos := p }], vararg := none, kwonlyargs := [], kw_defaults := [], kwarg := none, defaults := [] }
abbrev eachScope : Scope := { kind := .function, names := [(Str.ofString "each", .local)], isGenerator := false, isCoroutine := false, more := [] }
abbrev eachBody (p1 : Pos) (j : Nat) (p2 p3 : Pos) : Expr := .Subscript (.Name "each" p1) (.Constant (.int 0) j p2) p3
abbrev kzD (k : Int × Int) : PyData := .tuple [.int k.1, .int k.2]
theorem turn_ok {prog : Program} {w : World} {A : Around} {s : Shared} {f c' t m : Addr} {pm ctv : Value} {q : Str} {pa p1 p2 p3 : Pos} {j : Nat} {its : Array Value} {ks : Array Value} {a b : Int} {ta tb : Tok} (hroom : A.depth < recursionLimit) (hlim : s.heap.NoLimit)
    (hf : s.heap.get? f = some (PySem.W.kla_obj "<lambda>" q (eachArgs pa) (eachBody p1 j p2 p3) eachScope [] pm c' ctv)) (hc : ∃ (oc : Obj) (vs : Array Value) (t : Tok), s.heap.get? c' = some oc ∧ oc.data = .fields vs ∧ vs[1]? = some (.str q t))
    (ht : IsTup s.heap t its) (h0 : its[0]? = some (.ref m)) (hm : IsTup s.heap m ks) (hk : ks.toList = [.int a ta, .int b tb]) : wpAny (model prog w) A (call (.ref f) [.ref t]) (PySem.W.KeyPure (kzD (a, b)) s) (fun _ _ => False) s := by
  refine wpAny_call ?_
  obtain ⟨oc, vs, tk, e1, e2, e3⟩ := hc
  refine PySem.W.kla_callFunE hroom hf rfl rfl rfl rfl ⟨c', oc, vs, tk, rfl, e1, e2, e3⟩ ?_
  rw [show bindArgs (PySem.W.kla_fn "<lambda>" q (eachArgs pa) (eachBody p1 j p2 p3) eachScope [] pm (.ref c') ctv) ⟨[.ref t], []⟩ = pure [(("each" : Str), .ref t)] from rfl]
  refine wpAny_pure (wpAny_newFunctionEnv (by intro x hx; rw [List.mem_singleton.mp hx]; decide) (by intro x hx; rw [List.mem_singleton.mp hx]; rfl) (fun h₁ hns hsb => ⟨hlim.fresh _ hsb, ?_⟩) rfl)
  have kp : ∀ b o, s.heap.get? b = some o → h₁.get? b = some o := fun b o e => hsb.extBut b o (Nat.ne_of_lt (Heap.lt_size e)) (Heap.get?_push_of_some _ e)
  obtain ⟨ot, t1, t2, tn, t3⟩ := ht
  have ht' : IsTup h₁ t its := ⟨ot, kp _ _ t1, t2, tn, t3⟩
  obtain ⟨om, m1, m2, mn, m3⟩ := hm
  refine PySem.W.kla_codeExpr ?_
  refine Subscript_ (wpAny_Name (wpAny_loadName_local rfl rfl hns rfl ?_))
  refine wpAny_Constant_int ?_
  have hsz : 0 < its.size := (Array.getElem?_eq_some_iff.mp h0).1
  have line : its.size ≤ sizeLine ∨ True := .inr trivial
  refine subscriptTail_builtinR (x := .ref m) ht'.typeIs slot_tuple_getitem.lookup (getItem_tuple (j := 0) ht' (by decide) (by decide) ?_ h0 ⟨rfl, ?_⟩) rfl
  · show (if (decide ((0 : Int) ≤ 0) && decide ((0 : Int) < (its.size : Int))) = true then some (0 : Int).toNat else none) = some 0
    rw [if_pos (by simp; omega)]
    rfl
  · exact ⟨h₁, _, rfl, kp, Reads.tuple (kp _ _ m1) m2 m3 (by rw [hk]; exact .cons (.int _ _) (.cons (.int _ _) .nil))⟩
/-- sorted by the key kz, stable -/
def leK (kz : V → Int × Int) : V → V → Bool := PySem.W.dataLe false fun y => kzD (kz y)
theorem alike_kz (a b : Int × Int) : PySem.W.alike (kzD a) (kzD b) = true := by simp [PySem.W.alike, PySem.W.alikeAll]
theorem eachIs_of {xs : List V} {us : List Value} (r : Vals xs us) : PySem.W.EachIs (fun v x => RelV x v) us xs := by
  induction r with
  | nil => exact .nil
  | cons h _ ih => exact .cons h ih
theorem vals_of {xs : List V} {us : List Value} (r : PySem.W.EachIs (fun v x => RelV x v) us xs) : Vals xs us := by
  induction r with
  | nil => exact .nil
  | cons h _ ih => exact .cons h ih
section
variable {X : Cx} {pins : List (Addr × Obj)} {σ : L2.St} {H : Hp} {s : Shared}
/-- what is sorted: tuples, their first item a pair of ints -/
def KeyAt (H : Hp) (kz : V → Int × Int) (y : V) : Prop := ∃ (t m : Addr) (vs : List V), y = .ref t ∧ H t = some (.tup (.ref m :: vs)) ∧ H m = some (.tup [.int (kz y).1, .int (kz y).2])
theorem sortL_run {f c' a : Addr} {pm ctv : Value} {q : Str} {pa p1 p2 p3 : Pos} {j k : Nat} {xs : List V} {kz : V → Int × Int} {Q : VK} (I : Inv X pins σ H s) (hr : Room k X.A)
    (hf : s.heap.get? f = some (PySem.W.kla_obj "<lambda>" q (eachArgs pa) (eachBody p1 j p2 p3) eachScope [] pm c' ctv)) (hc : H c' = some (CodeO c' q)) (hs : SqL X.K H a xs) (hx : ∀ y ∈ xs, KeyAt H kz y)
    (h : ∀ p, H p = none → Q (.ref p) (upd H p (.lst (xs.mergeSort (leK kz))))) : wpAny (model X.prog X.w) X.A (call (.builtin "sorted") [.ref a] [(Str.ofString "key", .ref f)]) (EP X pins σ Q) X.xe s := by
  obtain ⟨its, rv, pl, hz⟩ := I.list hs
  have hlim := I.nolimit
  obtain ⟨⟨oc, vs, tk, c1, c2, c3⟩, _, _⟩ := I.hok c' _ hc
  refine PySem.W.sorted_key_data (β := V) (R := fun v x => RelV x v) (bs := xs) (vs := its) (b := false) (fun y => kzD (kz y)) pl.isList (eachIs_of rv) ?_ ?_ hz ?_ (ksk_s1 _ _) (fun _ => ksk_l1 _ _) (fun _ => ksk_t1 _ _) ?_ ?_
  · intro d hd d' hd'
    obtain ⟨y, _, rfl⟩ := List.mem_map.mp hd
    obtain ⟨y', _, rfl⟩ := List.mem_map.mp hd'
    exact alike_kz _ _
  · refine .inl fun d hd => ?_
    obtain ⟨y, _, rfl⟩ := List.mem_map.mp hd
    exact ⟨_, _, rfl⟩
  · intro y _
    have h1 := hr.units
    have h2 : (kzD (kz y)).depth ≤ 2 := by simp [kzD, PyData.depth, PyData.depthAll]
    omega
  · intro v y hv hy h' tk' keep
    obtain ⟨t, m, ws, rfl, ht, hm⟩ := hx y hy
    obtain rfl : v = Value.ref t := hv
    obtain ⟨i1, r1, q1, _⟩ := I.tuple (.inl (.inl ht))
    obtain ⟨i2, r2, q2, _⟩ := I.tuple (.inl (.inl hm))
    have up : ∀ {b : Addr} {is : Array Value}, IsTup s.heap b is → IsTup h' b is := fun ⟨o, e1, e2, n, e3⟩ => ⟨o, keep _ _ e1, e2, n, e3⟩
    cases r1 with
    | cons z1 r1 =>
      cases z1
      cases r2 with
      | cons z2 r2 =>
        cases r2 with
        | cons z3 r2 =>
          cases r2
          obtain ⟨ta, rfl⟩ := z2
          obtain ⟨tb, rfl⟩ := z3
          exact turn_ok (s := { s with heap := h', toks := tk' }) (A := X.A.in1.in1) (by have := hr.dp; show X.A.depth < _; omega) (hlim.keeps keep) (keep _ _ hf) ⟨oc, vs, tk, keep _ _ c1, c2, c3⟩ (up q1) rfl (up q2) rfl
  · intro out c h' tk' keep fresh hget hlen hE
    have rv' := vals_of hE
    exact ⟨.ref (s.heap.objs.size + 1), upd H (s.heap.objs.size + 1) (.lst (xs.mergeSort (leK kz))), I.laid (t' := tk') keep (Nat.le_succ _) ⟨by rw [List.length_mergeSort]; exact hz, out, c, rv', hget⟩, rfl, h _ (I.hok.fresh (Nat.le_succ _))⟩
/-- sorted(e, key=lambda each: each[0]); the def's code object is at c, its table at P -/
def sortLK (K : PySem.W.Frag) (P : Addr) (q : Str) (Q : VK) (x : V) (H1 : Hp) : Prop := ∃ (ps : Array Value) (a : Addr) (xs : List V) (kz : V → Int × Int), x = .ref a ∧ H1 P = some (.tbl ps) ∧ TabI H1 q ps ∧ SqL K H1 a xs ∧ (∀ y ∈ xs, KeyAt H1 kz y) ∧
  ∀ H2 p, LStep P q ps H1 H2 → H2 p = none → Q (.ref p) (upd H2 p (.lst (xs.mergeSort (leK kz))))
def sortLA (K : PySem.W.Frag) (P : Addr) (q : Str) (Q : VK) (vs : List V) (H1 : Hp) : Prop := match vs with
  | [x] => sortLK K P q Q x H1
  | _ => False
def tSortL (K : PySem.W.Frag) (P : Addr) (q : Str) (te : TE) : TE := fun σ H Q => te σ H (sortLK K P q Q)
theorem LStep.keep {P : Addr} {q : Str} {ps : Array Value} {H1 H2 : Hp} (hP : H1 P = some (.tbl ps)) (l : LStep P q ps H1 H2) : ∀ b o, H1 b = some o → b ≠ P → H2 b = some o := fun b o e n => by
  rcases l with rfl | ⟨ps', c', nC, _, _, rfl⟩
  · exact e
  · rw [upd_ne (ne_of_none e nC), upd_ne n]
    exact e
theorem pe_sortL {e : Expr} {te : TE} {c P : Addr} {k : Nat} {pa p1 p2 p3 p4 p5 p6 pos : Pos} {j : Nat} (ha : PA X [e] (tCons te tNil)) (hg : Gl X "sorted") (hm : X.mg "sorted" = none) (hr : Room k X.A) (TB : TabB X.base X.mg c P) (hcode : X.env.code = .ref c)
    (hs : backTo pos (starEach [e] X.env) = (false, eval e X.env) :: backTo pos (starEach [] X.env) := by rfl) (hpl : (backTo pos (starEach [e] X.env)).any (·.1) = false := by rfl) :
    PE X (.Call (.Name "sorted" p4) [e] [⟨some "key", .Lambda (eachArgs pa) (eachBody p1 j p2 p3) eachScope p5, p6⟩] pos) (tSortL X.K P (X.env.qual ++ "<lambda>") te) := by
  refine ⟨fun pins s σ H Q I h => ?_⟩
  refine wpAny_Call_Name_kw (ld_blt I hg hm (u := .builtin "sorted") (by decide +kernel) ?_ (by decide))
  refine PyProof.Rows.callWith_kw (thn (ha.run pos pins s σ H (sortLA X.K P (X.env.qual ++ "<lambda>") Q) I h) fun us s1 ⟨vs, H1, I1, r1, q1⟩ => ?_) hs hpl rfl rfl
  match vs, q1 with
  | [x], q1 =>
    obtain ⟨ps, a, xs, kz, rfl, hP, TI, hS, hK, q⟩ := q1
    obtain rfl := Vals.ref1 r1
    show wpAny _ _ (evalAll ((do let v ← eval (.Lambda (eachArgs pa) (eachBody p1 j p2 p3) eachScope p5) X.env; standAt pos; pure v) :: [])) _ _ s1
    refine wpAny_evalAll_cons (wpAny_bind (lam_mk I1 TB hcode hP TI rfl (by intro y hy e; rw [List.mem_singleton.mp hy] at e; exact nomatch e) fun f c' pm ctv H2 s2 I2 st hf hc => wpAny_bind (wpAny_standAt (wpAny_pure ?_))))
    refine wpAny_evalAll_nil ?_
    have kp := LStep.keep hP st
    have nK : ∀ {t : Addr} {vs : List V}, H1 t = some (.tup vs) → H2 t = some (.tup vs) := fun {t vs} e => kp _ _ e fun z => by rw [z, hP] at e; exact nomatch e
    have nS : SqL X.K H2 a xs := by
      rcases hS with (e | ⟨o, e⟩) | z
      · exact .inl (.inl (kp _ _ e fun z => by rw [z, hP] at e; exact nomatch e))
      · exact .inl (.inr ⟨o, kp _ _ e fun z => by rw [z, hP] at e; exact nomatch e⟩)
      · exact .inr z
    refine sortL_run I2 hr hf hc nS (fun y hy => ?_) fun p np => q H2 p st np
    obtain ⟨t, m, vs, e1, e2, e3⟩ := hK y hy
    exact ⟨t, m, vs, e1, nK e2, nK e3⟩
end
/-! ### .. over what is owned -/
theorem g_sortL {K : PySem.W.Frag} {P : Addr} {q : Str} {te : TE} {σ : L2.St} {H : Hp} {Q : VK} (k : te σ H (sortLK K P q Q)) : tSortL K P q te σ H Q := k
theorem g_sortLK {K : PySem.W.Frag} {B H : Hp} {cs : List (Addr × HO)} {P a : Addr} {q : Str} {ps : Array Value} {xs : List V} {kz : V → Int × Int} {Q : VK} (O : Own B cs H) (j : Nat) (hj : cs[j]? = some (P, .tbl ps)) (TI : TabI B q ps) (hS : SqL K H a xs) (hK : ∀ y ∈ xs, KeyAt H kz y)
    (k : ∀ B' ps' p H2, Same B B' → TabI B' q ps' → Own B' ((p, .lst (xs.mergeSort (leK kz))) :: cs.set j (P, .tbl ps')) H2 → Q (.ref p) H2) : sortLK K P q Q (.ref a) H := by
  refine ⟨ps, a, xs, kz, rfl, O.get j hj, TI.ex O.fr, hS, hK, fun H2 p st np => ?_⟩
  rcases st with rfl | ⟨ps', c', nC, tk, am, rfl⟩
  · have e : cs.set j (P, .tbl ps) = cs := by
      obtain ⟨hl, he⟩ := List.getElem?_eq_some_iff.mp hj
      rw [← he]
      exact List.set_getElem_self hl
    refine k B ps p _ (Same.refl _) TI ?_
    rw [e]
    exact O.alloc np
  · have hP := O.get j hj
    have nPc : c' ≠ P := fun z => by rw [z, hP] at nC; exact nomatch nC
    have O1 : Own B (cs.set j (P, .tbl ps')) (upd H P (.tbl ps')) := O.set j hj
    have O2 : Own B ((c', CodeO c' q) :: cs.set j (P, .tbl ps')) _ := O1.alloc (by rw [upd_ne nPc]; exact nC)
    refine k _ ps' p _ O2.freezeB ⟨tk, fun pos cv h => ?_⟩ (O2.freeze.alloc np)
    rcases am pos cv h with h | rfl
    · obtain ⟨c, e1, e2⟩ := TI.2 pos cv h
      exact ⟨c, e1, O2.freezeB _ _ e2⟩
    · exact ⟨c', rfl, upd_same⟩
/-- a def whose own code object is known -/
theorem okC {P : Program} {w : World} {K : PySem.W.Frag} {mg : Str → Option Value} {base : Heap} {x qual : Str} {st : Stmt} {f c : Addr} {N ps : List Str} {k : Nat} {sp : Sp} {oc : Value} {od an : Option Addr} {osl : Array (Option Value)} {kV doc pm ct : Value}
    (lk : K.lookup f = some ⟨oc, od, .func (PySem.W.fnOf x qual (defArgs st) (defBody st) (defScope st) .none kV doc pm an (.ref c) ct), osl⟩) (hcd : PySem.W.codeIn K (.ref c) qual = true) (S : FnScope N ps (defScope st)) (len : ∀ vs H Q E, sp vs H Q E → vs.length = ps.length)
    (hbody : ∀ (A : Around) (outer : List Env) (s : Shared) (H : Hp) (vs : List V) (Q : VK) (E : XK), Room k (A.deeper (envOfC qual (defScope st) s.heap.objs.size f (.ref c))) → sp vs H Q E →
      ∃ t, PSs (cxOf CX0 P w K mg base N qual (defScope st) f (.ref c) A outer s H E).nox (defBody st) t ∧ t { nx := fun _ H' => Q .non H', rt := Q } (L2.start N vs) H) :
    FnOk P w K mg base CX0 (k + 1) f (PySem.W.fnOf x qual (defArgs st) (defBody st) (defScope st) .none kV doc pm an (.ref c) ct) ps sp :=
  fn_of lk hcd S len fun A outer s H vs Q E hr hsp => by
    obtain ⟨t, h, q⟩ := hbody A outer s H vs Q E hr hsp
    exact ⟨t, h.nox, q⟩
/-- a def's own code object at c and its table at P, as the written part has them -/
structure Cod (K : PySem.W.Frag) (x qual : Str) (st : Stmt) (f : Addr) (fd : FuncData) (c : Addr) : Prop where
  ex : ∃ (oc : Value) (od : Option Addr) (kV doc pm : Value) (an : Option Addr) (ct : Value) (osl : Array (Option Value)),
    fd = PySem.W.fnOf x qual (defArgs st) (defBody st) (defScope st) .none kV doc pm an (.ref c) ct ∧ K.lookup f = some ⟨oc, od, .func fd, osl⟩ ∧ PySem.W.codeIn K (.ref c) qual = true
theorem Cod.ok {P : Program} {w : World} {K : PySem.W.Frag} {mg : Str → Option Value} {base : Heap} {x qual : Str} {st : Stmt} {f c : Addr} {fd : FuncData} {N ps : List Str} {k : Nat} {sp : Sp} (F : Cod K x qual st f fd c) (S : FnScope N ps (defScope st)) (len : ∀ vs H Q E, sp vs H Q E → vs.length = ps.length)
    (hbody : ∀ (A : Around) (outer : List Env) (s : Shared) (H : Hp) (vs : List V) (Q : VK) (E : XK), Room k (A.deeper (envOfC qual (defScope st) s.heap.objs.size f (.ref c))) → sp vs H Q E →
      ∃ t, PSs (cxOf CX0 P w K mg base N qual (defScope st) f (.ref c) A outer s H E).nox (defBody st) t ∧ t { nx := fun _ H' => Q .non H', rt := Q } (L2.start N vs) H) : FnOk P w K mg base CX0 (k + 1) f fd ps sp := by
  obtain ⟨oc, od, kV, doc, pm, an, ct, osl, rfl, lk, hcd⟩ := F.ex
  exact okC lk hcd S len hbody
end Zl

/-! Zq: enumerate(text) -/
namespace Zl
open PySem PySem.Spec PyProof.Rows L2
/-- enumerate(text): each sign in a new pair -/
def Itn (x : Str) : It :=
  ⟨fun i _ => i < x.cps.size, fun i H v H' => ∃ T c, v = .ref T ∧ H T = none ∧ H' = upd H T (.tup [.int (i : Nat), .str ⟨#[c]⟩]) ∧ x.cps[i]? = some c, fun i _ => i = x.cps.size⟩
theorem draws_str {prog : Program} {w : World} {A : Around} (hh : A.handled = none) (it : Addr) (x : Str) (t : Tok) :
    Draws prog w A it [it] x.cps.size (fun i v => ∃ c u, x.cps[i]? = some c ∧ v = .str ⟨#[c]⟩ u) (fun i h => h.IsStrIter it (strIterType x) x t i) := by
  unfold strIterType
  cases x.cps.all (· < 128)
  · exact Draws.strWide hh it x t
  · exact Draws.strAscii hh it x t
theorem turn_enumS {P : Program} {w : World} {K : PySem.W.Frag} {elts : List Expr} {kk : Nat} {tpos : Pos} (x : Str) (t : Tok) (e it : Addr) :
    Turn P w K (.Tuple elts kk tpos) (Itn x) [e, it] e (fun i h => (∃ old, IsEnum h e it ((i : Nat) : Int) old) ∧ h.IsStrIter it (strIterType x) x t i ∧ e ≠ it) where
  mem := by simp
  obj := fun i h st b hb => by
    obtain ⟨⟨old, he⟩, ⟨o, ho, hc, hd⟩, _⟩ := st
    have e' : b = e ∨ b = it := by simpa using hb
    rcases e' with z | z
    · rw [z]; exact ⟨_, he, fun v q => nomatch q⟩
    · rw [z]; exact ⟨o, ho, fun v q => by rw [hd] at q; cases q⟩
  keep := fun i h h' st k => let ⟨⟨old, he⟩, ⟨o, ho, r⟩, hne⟩ := st; ⟨⟨old, k e (by simp) _ he⟩, ⟨o, k it (by simp) o ho, r⟩, hne⟩
  item := by
    intro X hP hw hK hc i pins s σ H E I hf st hg
    subst hP hw hK
    obtain ⟨⟨old, he⟩, hit, hne⟩ := st
    have hel : e < s.heap.objs.size := Heap.lt_size he
    have hil : it < s.heap.objs.size := by obtain ⟨_, q, _⟩ := hit; exact Heap.lt_size q
    refine wpAny_pyNext_enum_itemD (draws_str (show X.A.in1.handled = none from I.ok.hd hc) it x t) he hit hg hne (by simp; exact hne) fun v h' tk hv ho hit' hT hsz hk => ?_
    obtain ⟨c, u, hcx, rfl⟩ := hv
    refine ⟨_, rfl, wpAny_letOwnedTupleGo_enum (s := { s with heap := h', toks := tk + 1 }) ho fun h'' he' sb => ?_⟩
    have hT2 : h''.get? s.heap.objs.size = some { cls := .type "tuple", data := .seq #[.int i tk, .str ⟨#[c]⟩ u] } := (sb.2 _ (Nat.ne_of_gt hel)).trans hT
    have new : ObjOk X.prog X.w (upd H s.heap.objs.size (.tup [.int (i : Nat), .str ⟨#[c]⟩])) h'' s.heap.objs.size (.tup [.int (i : Nat), .str ⟨#[c]⟩]) :=
      ⟨by show 2 ≤ sizeLine; decide, [.int i tk, .str ⟨#[c]⟩ u], .cons ⟨_, rfl⟩ (.cons ⟨_, rfl⟩ .nil), ⟨_, hT2, rfl, _, rfl⟩⟩
    have I1 : Inv X pins σ (upd H s.heap.objs.size (.tup [.int (i : Nat), .str ⟨#[c]⟩])) { s with heap := h'', toks := tk + 1 } :=
      I.turnedNew (ch := [e, it]) (fun b ob hb q => (sb.2 b (fun z => hb (by simp [z]))).trans (hk b ob (fun z => hb (by simp [z])) (fun z => hb (by simp [z])) q)) hf (Nat.le_refl _) new
    obtain ⟨oi, i1, i2⟩ := hit'
    refine ⟨.ref s.heap.objs.size, _, I1, rfl, ⟨_, c, rfl, I.hok.fresh (Nat.le_refl _), rfl, hcx⟩, ⟨⟨.str ⟨#[c]⟩ u, ?_⟩, ⟨oi, (sb.2 it (Ne.symm hne)).trans i1, i2⟩, hne⟩, fun b hb => ?_⟩
    · have e1 : ((i + 1 : Nat) : Int) = (i : Int) + 1 := by omega
      rw [e1]; exact he'
    · have hb' : b < s.heap.objs.size := by
        have e' : b = e ∨ b = it := by simpa using hb
        rcases e' with z | z
        · rw [z]; exact hel
        · rw [z]; exact hil
      rw [upd_ne (Nat.ne_of_lt hb')]
      exact (hf b hb).1
  done := by
    intro X hP hw hK hc i pins s σ H E I hf st hg
    subst hP hw hK
    obtain ⟨⟨old, he⟩, hit, hne⟩ := st
    obtain ⟨f0, f1, f2, f3, f4, f5⟩ := hf it (by simp)
    have hg : i = x.cps.size := hg
    subst hg
    exact wpAny_pyNext_enum_endD (draws_str (show X.A.in1.handled = none from I.ok.hd hc) it x t) he hit fun h' eb => ⟨rfl, I.turned (t' := s.toks) (fun b o hb q => eb b o hb q) f0 f1 f3 f4 f5⟩
  self := fun A i s Q E st h => let ⟨⟨_, he⟩, _⟩ := st; wpAny_pyIter_enum he h
def iEnumS (ta : TA) : TI := fun σ H R => ta σ H fun vs H1 => ∃ x, vs = [.str x] ∧ R (Itn x) H1
theorem pi_enumS {X : Cx} {e : Expr} {ta : TA} {p pos tpos : Pos} {elts : List Expr} {kk : Nat} (hg : Gl X "enumerate") (hm : X.mg "enumerate" = none) (ha : PA X [e] ta) (hs : starEach [e] X.env = [(false, eval e X.env)] := by rfl) :
    PI X (.Tuple elts kk tpos) (.Call (.Name "enumerate" p) [e] [] pos) (iEnumS ta) := by
  refine ⟨fun pins s σ H R I h => ?_⟩
  refine Call_ (ld_blt I hg hm boot_enumerate (PyProof.Rows.callWith_type1 (thn (ha.run pos pins s σ H _ I h) fun us s1 ⟨vs, H1, I1, r1, q1⟩ => ?_) hs rfl))
  obtain ⟨x, ex, q⟩ := q1
  subst ex
  cases r1 with
  | cons r rr =>
    cases rr
    obtain ⟨t, rfl⟩ := r
    refine call_enumerate_str fun h' he hit hsz hk => wpAny_pyIter_enum he ?_
    have I2 : Inv X pins σ H1 { s1 with heap := h' } := I1.kept (t' := s1.toks) hk
    refine ⟨s1.heap.objs.size + 1, [s1.heap.objs.size + 1, s1.heap.objs.size], _, _, H1, rfl, I2, turn_enumS x t (s1.heap.objs.size + 1) s1.heap.objs.size, ⟨⟨.none, he⟩, hit, Nat.succ_ne_self _⟩, fun b hb => ?_, q⟩
    have e' : b = s1.heap.objs.size + 1 ∨ b = s1.heap.objs.size := by simpa using hb
    have hle : s1.heap.objs.size ≤ b := by
      rcases e' with z | z
      · rw [z]; exact Nat.le_add_right _ _
      · rw [z]; exact Nat.le_refl _
    exact I1.fpOk hle (I1.hok.fresh hle)
theorem walk_enumS {z : Str} : Walk (Itn z) z.cps.size (fun _ => True) (fun i H v H' => ∃ T c, v = .ref T ∧ H T = none ∧ H' = upd H T (.tup [.int (i : Nat), .str ⟨#[c]⟩]) ∧ z.cps[i]? = some c) :=
  ⟨fun _ _ hi _ => hi, fun _ _ => rfl, fun _ _ _ _ _ _ y => y⟩
def iESK (R : It → Hp → Prop) (vs : List V) (H1 : Hp) : Prop := ∃ x, vs = [.str x] ∧ R (Itn x) H1
section
variable {K : PySem.W.Frag} {σ : L2.St} {H : Hp} {D : Ends} {g : TG} {tb : TS} {ta : TA}
theorem g_iEnumS {R : It → Hp → Prop} (k : ta σ H (iESK R)) : iEnumS ta σ H R := k
theorem g_iEnumSv {l : List Nat} {R : It → Hp → Prop} (k : R (Itn (S l)) H) : iESK R [.str (S l)] H := ⟨_, rfl, k⟩
theorem forB_enumS {l : List Nat} (Pv : Nat → L2.St → Hp → Prop) (h0 : Pv 0 σ H)
    (hs : ∀ (i c : Nat) T σ' H', l[i]? = some c → H' T = none → Pv i σ' H' → g (.ref T) σ' (upd H' T (.tup [.int (i : Nat), .str (S [c])])) fun σ2 H2 => tb { D with nx := Pv (i + 1), ct := Pv (i + 1), bk := D.nx } σ2 H2) (hd : ∀ σ' H', Pv l.length σ' H' → D.nx σ' H') : forB g tb D σ (Itn (S l)) H := by
  have hz : (S l).cps.size = l.length := by unfold S; simp
  refine for_it walk_enumS Pv h0 (fun i σ' H' _ p => trivial) (fun i v σ' H1 H' hi p y => ?_) (fun σ' H' p => hd σ' H' (by rw [hz] at p; exact p))
  obtain ⟨T, c, rfl, hT, rfl, e⟩ := y
  have e : l[i]? = some c := by
    have : (S l).cps[i]? = l[i]? := by unfold S; simp
    rw [← this]; exact e
  exact hs i c T σ' H1 e hT p
end
end Zl

/-! Zr: {x: True for x in e}, e a tuple of tuples -/
namespace Zl
open PySem PySem.Spec PyProof.Rows L2
/-- the keys of a tuple's items, each a tuple of flat keys -/
def KeysAt (H : Hp) (xs : List V) (ks : List (List Key)) : Prop := xs.length = ks.length ∧ ∀ (i : Nat) (x : V), xs[i]? = some x → ∃ b k, x = .ref b ∧ ks[i]? = some k ∧ H b = some (.tup (k.map kV))
def putAll (kvs : List (List Key × V)) (ks : List (List Key)) (v : V) : List (List Key × V) := ks.foldl (fun a k => putK a k v) kvs
theorem putAll_len (v : V) : ∀ (ks : List (List Key)) (kvs : List (List Key × V)), (putAll kvs ks v).length ≤ kvs.length + ks.length
  | [], kvs => Nat.le_refl _
  | k :: ks, kvs => by
    have h := putAll_len v ks (putK kvs k v)
    have h2 := length_putK kvs k v
    show (putAll (putK kvs k v) ks v).length ≤ _
    rw [List.length_cons]
    omega
def tDcT (K : PySem.W.Frag) (te : TE) : TE := fun σ H Q => te σ H fun x H1 => ∃ (a : Addr) (xs : List V) (ks : List (List Key)), x = .ref a ∧ SqT K H1 a xs ∧ KeysAt H1 xs ks ∧ xs.length < sizeLine ∧ ∀ p, H1 p = none → Q (.ref p) (upd H1 p (.dT (putAll [] ks (.bl true))))
/-- d[k] = v in a comprehension, k a tuple -/
theorem d_dictSetT {X : Cx} {pins : List (Addr × Obj)} {σ : L2.St} {H : Hp} {s : Shared} {A : Around} {E : Value → Shared → Prop} {D b : Addr} {kvs : List (List Key × V)} {k : List Key} {v : V} {r : Value} {Q : Unit → Shared → Prop} (hu : A.units < cLine) (I : Inv X pins σ H s) (hD : H D = some (.dT kvs)) (hb : H b = some (.tup (k.map kV)))
    (hz : kvs.length < sizeLine) (rv : RelV v r) (h : ∀ h' tk, Heap.SameBut D s.heap h' → Inv X pins σ (upd H D (.dT (putK kvs k v))) { s with heap := h', toks := tk } → Q () { s with heap := h', toks := tk }) : wpAny (model X.prog X.w) A (dictSet D (.ref b) r) Q E s := by
  obtain ⟨z, hd, xs, rel, dd⟩ := dt_of I.hok hD
  have hl0 : xs.length ≤ sizeLine := by rw [← Paired.length rel]; exact z
  have hl : (putK kvs k v).length ≤ sizeLine := by have := length_putK kvs k v; omega
  refine wpAny_dictSet_heap (hsz := hl0) hu (key_of I.hok hb) dd fun h' dd' hs => h h' _ hs ?_
  obtain ⟨q, es, ep, hq, h2, h3, h4, _, h5⟩ := dd'
  refine d_write I (by rw [hD]; exact True.intro) hs ⟨q, hq⟩ ⟨hl, hd, _, (rel.put k hb rv).keeps fun c ys ec => ?_, q, es, ep, hq, h2, h3, h4, h5⟩
  rw [upd_ne (ne_of ec hD (fun z => nomatch z))]
  exact ec
abbrev markScope : Scope := { kind := .function, names := [(Str.ofString ".0", .local), (Str.ofString "mark", .local)], isGenerator := false, isCoroutine := false, more := [] }
theorem keys_at {H : Hp} {xs : List V} {ks : List (List Key)} (h : KeysAt H xs ks) {i : Nat} {x : V} (hx : xs[i]? = some x) : ∃ b k, x = .ref b ∧ ks[i]? = some k ∧ H b = some (.tup (k.map kV)) := h.2 i x hx
theorem pe_dcT {X : Cx} {iter : Expr} {te : TE} {j k0 : Nat} {p1 p2 p3 pos : Pos} {n : Nat} (hc : X.calm = true) (hr : Room n X.A) (he : PE X iter te) (hs : ∀ x, foldedSetIterable iter X.env x = pure x := by intro _; rfl) :
    PE X (.DictComp (.Name "mark" p1) (.Constant (.bool true) j p2) [⟨.Name "mark" p3, iter, [], 0⟩] markScope pos) (tDcT X.K te) := by
  refine ⟨fun pins s σ H Q I h => ?_⟩
  refine DictComp_goes (cl := cloFrom X.env.cells markScope.names []) (closure_ok (by intro y hy e; simp [markScope] at hy; rcases hy with rfl | rfl <;> exact nomatch e)) (by decide) rfl (by decide) (thn (he.run pins s σ H _ I h) fun v s1 ⟨y, H1, I1, r1, a, xs, ks, ey, hS, hK, hz, q⟩ => ?_) hs
  subst ey
  obtain rfl : v = Value.ref a := r1
  obtain ⟨its, rv, hT, _⟩ := I1.tuple hS
  have hlen : its.length = xs.length := rv.length.symm
  have al : a < s1.heap.objs.size := by obtain ⟨o, e, _⟩ := hT; exact Heap.lt_size e
  refine wpAny_pyIter_tuple (show s1.heap.IsTuple a its.toArray from hT) ?_
  generalize hI : s1.heap.objs.size = it
  have hitN : H1 it = none := by rw [← hI]; exact I1.hok.fresh (Nat.le_refl _)
  have I2 : Inv X pins σ H1 { s1 with heap := s1.heap.push { cls := .type "tuple_iterator", data := .fields #[.ref a, .int 0 0] } } := I1.kept (t' := s1.toks) fun b o e => Heap.get?_push_of_some _ e
  have ne : a ≠ it := by rw [← hI]; exact Nat.ne_of_lt al
  refine ⟨it, [it, a], [it], its.toArray.size, _, _, rfl, Goes.tuple (I.ok.hd hc) it a ne its.toArray, ⟨⟨_, by rw [← hI]; exact Heap.get?_push_size _ rfl, rfl, rfl⟩, ?_⟩, fun D C s3 CB hD => ?_⟩
  · obtain ⟨o, e, r⟩ := hT
    exact ⟨o, Heap.get?_push_of_some _ e, r⟩
  · obtain ⟨h3, tk3, rfl⟩ := CB.only
    have hs2 : (s1.heap.push { cls := .type "tuple_iterator", data := .fields #[.ref a, .int 0 0] }).objs.size = it + 1 := by rw [Heap.size_push, hI]
    have nD : it + 1 ≤ D := by have := CB.newD; rw [← hs2]; exact this
    have nC : it + 1 ≤ C := by have := CB.newC; rw [← hs2]; exact this
    have hDC := CB.ne
    have itD : it ≠ D := Nat.ne_of_lt nD
    have itC : it ≠ C := Nat.ne_of_lt nC
    have H1D : H1 D = none := I1.hok.fresh (by omega)
    have H1C : H1 C = none := I1.hok.fresh (by omega)
    have big : (D == sysModules) = false := beq_eq_false_iff_ne.mpr (Ne.symm (Nat.ne_of_lt (Nat.lt_of_lt_of_le (by have h := I1.big; rw [hI] at h; exact h) (Nat.le_of_succ_le nD))))
    have I3 : Inv X pins σ (upd H1 D (.dT [])) { s1 with heap := h3, toks := tk3 } :=
      I2.laid (t' := tk3) CB.old CB.newD ⟨Nat.zero_le _, big, [], .nil, _, #[], 0, hD, ⟨rfl, rfl, rfl⟩, rfl, rfl, List.nodup_nil⟩
    have fC : ∀ kvs, FpOk X pins (upd H1 D (.dT kvs)) C := fun kvs => I1.fpOk (by omega) (by rw [upd_ne (Ne.symm hDC)]; exact H1C)
    have fI : ∀ kvs, FpOk X pins (upd H1 D (.dT kvs)) it := fun kvs => I1.fpOk (by omega) (by rw [upd_ne itD]; exact hitN)
    have tw : ∀ (o o' : HO), upd (upd H1 D o) D o' = upd H1 D o' := fun o o' => by
      funext b
      by_cases hb : b = D
      · rw [hb, upd_same, upd_same]
      · rw [upd_ne hb, upd_ne hb, upd_ne hb]
    have hk2 : ks.length = xs.length := hK.1.symm
    refine ⟨fun i s' => Inv X pins σ (upd H1 D (.dT (putAll [] (ks.take i) (.bl true)))) s' ∧ ∃ m, s'.heap.Ns C m, ⟨I3, _, CB.names⟩, ?_, ?_, ?_⟩
    · rintro i s4 h' tk ⟨I4, m, o, es, ep, e, r⟩ kp _
      obtain ⟨f0, f1, f2, f3, f4, f5⟩ := fI (putAll [] (ks.take i) (.bl true))
      refine ⟨I4.turned (t' := tk) (fun b o hb e => kp b o (by simp; exact hb) e) f0 f1 f3 f4 f5, m, o, es, ep, kp _ _ (by simp; exact Ne.symm itC) e, r⟩
    · rintro i v s4 hi hY st ⟨I4, m, hn⟩
      have hi2 : i < xs.length := by rw [List.size_toArray] at hi; omega
      obtain ⟨u, hu, ru⟩ := rv.get (List.getElem?_eq_getElem hi2)
      obtain ⟨b, k, eb, ek, hb⟩ := hK.2 i _ (List.getElem?_eq_getElem hi2)
      have ev : u = v := by
        have : its.toArray[i]? = some v := hY
        rw [List.getElem?_toArray, hu] at this
        exact Option.some.inj this
      subst ev
      rw [eb] at ru
      obtain rfl : u = Value.ref b := ru
      have H1b : b ≠ D := fun z => by rw [z, H1D] at hb; exact nomatch hb
      obtain ⟨f0, f1, f2, f3, f4, f5⟩ := fC (putAll [] (ks.take i) (.bl true))
      refine wpAny_assign_Name (wpAny_storeName_local rfl hn fun h5 hn5 sb5 => ?_)
      have I5 := I4.turned (t' := s4.toks + 1) (h' := h5) (fun b o hb e => (sb5.2 b hb).trans e) f0 f1 f3 f4 f5
      refine wpAny_pure ?_
      rw [if_pos rfl]
      refine wpAny_Name (wpAny_loadName_local rfl rfl hn5 (if_pos rfl) ?_)
      refine Constant_bool ?_
      have hl := putAll_len (.bl true) (ks.take i) []
      refine d_dictSetT (X := X) (v := .bl true) (by have := hr.un; omega) I5 upd_same (by rw [upd_ne H1b]; exact hb) (by rw [List.length_take] at hl; simp at hl; omega) rfl fun h6 tk6 sb6 I6 => ?_
      have ks1 : putAll [] (ks.take (i + 1)) (.bl true) = putK (putAll [] (ks.take i) (.bl true)) k (.bl true) := by
        unfold putAll
        rw [List.take_add_one, ek, List.foldl_append]
        rfl
      rw [tw, ← ks1] at I6
      obtain ⟨o, es, ep, e, r⟩ := hn5
      obtain ⟨⟨oi, e1, r1⟩, ⟨oa, e2, r2⟩⟩ := st
      have mv : ∀ {b : Addr} {o : Obj}, b ≠ C → b ≠ D → s4.heap.get? b = some o → h6.get? b = some o := fun {b o} n1 n2 e => (sb6.2 b n2).trans ((sb5.2 b n1).trans e)
      exact ⟨⟨I6, _, o, es, ep, (sb6.2 C (Ne.symm hDC)).trans e, r⟩, ⟨oi, mv itC itD e1, r1⟩, ⟨oa, mv (Nat.ne_of_lt (Nat.lt_of_lt_of_le (by rw [hI] at al; exact al) (Nat.le_of_succ_le nC))) (Nat.ne_of_lt (Nat.lt_of_lt_of_le (by rw [hI] at al; exact al) (Nat.le_of_succ_le nD))) e2, r2⟩⟩
    · rintro s4 ⟨I4, m, hn⟩
      obtain ⟨f0, f1, f2, f3, f4, f5⟩ := fC (putAll [] (ks.take its.toArray.size) (.bl true))
      refine ⟨m, hn, fun h' sb => ⟨.ref D, _, I4.turned (t' := s4.toks) (fun b o hb e => (sb.2 b hb).trans e) f0 f1 f3 f4 f5, rfl, ?_⟩⟩
      rw [List.take_of_length_le (by rw [List.size_toArray]; omega)]
      exact q D H1D
/-! ### d.update(e), both with tuple keys -/
def mergeK (kvs more : List (List Key × V)) : List (List Key × V) := more.foldl (fun a p => putK a p.1 p.2) kvs
theorem mergeK_len : ∀ (more kvs : List (List Key × V)), (mergeK kvs more).length ≤ kvs.length + more.length
  | [], kvs => Nat.le_refl _
  | p :: more, kvs => by
    have h := mergeK_len more (putK kvs p.1 p.2)
    have h2 := length_putK kvs p.1 p.2
    show (mergeK (putK kvs p.1 p.2) more).length ≤ _
    rw [List.length_cons]
    omega
theorem kt_merge {H : Hp} : ∀ {more : List (List Key × V)} {ys : List (List Key × Addr × Value)} {kvs : List (List Key × V)} {xs : List (List Key × Addr × Value)}, KT H more ys → KT H kvs xs → KT H (mergeK kvs more) (storedAllH xs ys)
  | _, _, kvs, xs, .nil, r => r
  | _, _, kvs, xs, .cons (a := p) (b := q) h m, r => by
    obtain ⟨h1, h2, h3⟩ := h
    show KT H (mergeK (putK kvs p.1 p.2) _) (storedAllH (storedH xs q.1 q.2.1 q.2.2) _)
    rw [← h1]
    exact kt_merge m (r.put p.1 h2 h3)
def rUpdT (X : Cx) : V → List V → Hp → VK → Prop := fun x vs H Q => ∃ (d o : Addr) (kvs more : List (List Key × V)), x = .ref d ∧ vs = [.ref o] ∧ H d = some (.dT kvs) ∧ H o = some (.dT more) ∧ d ≠ o ∧ (kvs ≠ [] ∨ (more.map fun p => (tupleKind (mixKind X.prog X.w)).hash p.1).Nodup) ∧ kvs.length + more.length ≤ sizeLine ∧ Q .non (upd H d (.dT (mergeK kvs more)))
theorem mt_updT {X : Cx} {n : Nat} (hr : Room n X.A) : MtR X "dict.update" (rUpdT X) := by
  intro pins s σ H x vs v us Q I rx rs h
  obtain ⟨d, o, kvs, more, rfl, rfl, hd, ho, hne, hap, hz, q⟩ := h
  obtain rfl : v = Value.ref d := rx
  obtain rfl := Vals.ref1 rs
  obtain ⟨z1, b1, xs, r1, d1⟩ := dt_of I.hok hd
  obtain ⟨z2, b2, ys, r2, d2⟩ := dt_of I.hok ho
  have l1 : kvs.length = xs.length := Paired.length r1
  have l2 : more.length = ys.length := Paired.length r2
  have km : ∀ {m : List (List Key × V)} {zs : List (List Key × Addr × Value)}, KT H m zs → (zs.map fun x => (tupleKind (mixKind X.prog X.w)).hash x.1) = m.map fun p => (tupleKind (mixKind X.prog X.w)).hash p.1 := fun {m zs} r => by
    induction r with
    | nil => rfl
    | cons h _ ih => rw [List.map_cons, List.map_cons, ih, h.1]
  refine call_update_dictH (tupleKind_room_in1 (by have := hr.un; omega)) hne b2 d1 d2 ?_ (by omega) fun h' dd' _ hs => ⟨.non, _, d_write (t' := s.toks) I (by rw [hd]; exact True.intro) hs ?_ ?_, rfl, q⟩
  · rcases hap with e | e
    · refine .inl fun z => e ?_
      rw [z] at l1
      exact List.length_eq_zero_iff.mp l1
    · refine .inr ⟨fun x hx => ?_, by rw [km r2]; exact e⟩
      obtain ⟨_, _, _, _, _, _, _, his, _⟩ := d2
      obtain ⟨o2, items, m, e1, e2, _⟩ := his x hx
      exact ⟨o2, e1, e2⟩
  · obtain ⟨q, es, ep, hq, _⟩ := dd'
    exact ⟨q, hq⟩
  · obtain ⟨q, es, ep, hq, h2, h3, h4, _, h5⟩ := dd'
    have hl := mergeK_len more kvs
    refine ⟨by omega, b1, _, (kt_merge r2 r1).keeps fun c ys ec => ?_, q, es, ep, hq, h2, h3, h4, h5⟩
    rw [upd_ne (ne_of ec hd (fun z => nomatch z))]
    exact ec
/-! ### range with a step -/
theorem forB_rngc {lo c : Int} {n : Nat} {σ : L2.St} {H : Hp} {D : Ends} {g : TG} {tb : TS} (Pv : Nat → L2.St → Hp → Prop) (h0 : Pv 0 σ H)
    (hs : ∀ (i : Nat) σ' H', i < n → Pv i σ' H' → g (.int (lo + (i : Nat) * c)) σ' H' fun σ2 H2 => tb { D with nx := Pv (i + 1), ct := Pv (i + 1), bk := D.nx } σ2 H2) (hd : ∀ σ' H', Pv n σ' H' → D.nx σ' H') : forB g tb D σ (Itc lo c n) H :=
  for_it walk_rangeC Pv h0 (fun _ _ _ _ _ => trivial) (fun i x σ' H1 H' hi p y => by obtain ⟨rfl, rfl⟩ := y; exact hs i σ' _ hi p) hd
/-! ### readings of dicts, step by step -/
def dGetK (Q : VK) (x y : V) (H2 : Hp) : Prop := ∃ a v, x = .ref a ∧ DGet H2 a y (some v) ∧ Q v H2
def dInK (Q : VK) (y x : V) (H2 : Hp) : Prop := ∃ a o, x = .ref a ∧ DGet H2 a y o ∧ Q (.bl o.isSome) H2
def dNotInK (Q : VK) (y x : V) (H2 : Hp) : Prop := ∃ a o, x = .ref a ∧ DGet H2 a y o ∧ Q (.bl (!o.isSome)) H2
def dPutK (D : Ends) (σ : L2.St) (v x y : V) (H3 : Hp) : Prop := ∃ a H4, x = .ref a ∧ DPut H3 a y v H4 ∧ D.nx σ H4
section
variable {σ : L2.St} {B H : Hp} {cs : List (Addr × HO)} {Q : VK} {td ty tv : TE} {D : Ends} {a b : Addr} {v : V} {x : V}
theorem g_dget (k : td σ H fun x H1 => ty σ H1 fun y H2 => dGetK Q x y H2) : tDGet td ty σ H Q := k
theorem g_din (k : ty σ H fun y H1 => td σ H1 fun x H2 => dInK Q y x H2) : tDIn ty td σ H Q := k
theorem g_dnotin (k : ty σ H fun y H1 => td σ H1 fun x H2 => dNotInK Q y x H2) : tDNotIn ty td σ H Q := k
theorem g_dput (k : tv σ H fun v H1 => td σ H1 fun x H2 => ty σ H2 fun y H3 => dPutK D σ v x y H3) : sDPut td ty tv D σ H := k
theorem g_dnewK (k : newQ (.dK []) Q H) : tDNewK σ H Q := k
theorem g_dnewT (k : newQ (.dT []) Q H) : tDNewT σ H Q := k
theorem g_dnotinI {kvs : List (Key × V)} {n : Int} (h : H a = some (.dK kvs)) (k : Q (.bl (!(valV kvs (.inl n)).isSome)) H) : dNotInK Q (.int n) (.ref a) H := ⟨a, _, rfl, DGet.k (k := .inl n) h, k⟩
theorem g_dputI {kvs : List (Key × V)} {n : Int} (O : Own B cs H) (j : Nat) (h : cs[j]? = some (a, .dK kvs)) (hz : kvs.length < sizeLine) (k : ∀ H', Own B (cs.set j (a, .dK (putK kvs (.inl n) v))) H' → D.nx σ H') : dPutK D σ v (.ref a) (.int n) H :=
  ⟨a, _, rfl, DPut.k (k := .inl n) (O.get j h) hz, k _ (O.set j h)⟩
theorem g_dnotinT {kvs : List (List Key × V)} {ks : List Key} (h : H a = some (.dT kvs)) (hb : H b = some (.tup (ks.map kV))) (k : Q (.bl (!(valV kvs ks).isSome)) H) : dNotInK Q (.ref b) (.ref a) H := ⟨a, _, rfl, DGet.t h hb, k⟩
theorem g_dgetT {kvs : List (List Key × V)} {ks : List Key} (h : H a = some (.dT kvs)) (hb : H b = some (.tup (ks.map kV))) (hv : valV kvs ks = some v) (k : Q v H) : dGetK Q (.ref a) (.ref b) H := ⟨a, v, rfl, by rw [← hv]; exact DGet.t h hb, k⟩
theorem g_dputT {kvs : List (List Key × V)} {ks : List Key} (O : Own B cs H) (j : Nat) (h : cs[j]? = some (a, .dT kvs)) (hb : H b = some (.tup (ks.map kV))) (hz : kvs.length < sizeLine) (k : ∀ H', Own B (cs.set j (a, .dT (putK kvs ks v))) H' → D.nx σ H') : dPutK D σ v (.ref a) (.ref b) H :=
  ⟨a, _, rfl, DPut.t (O.get j h) hb hz, k _ (O.set j h)⟩
end
end Zl

/-! Zh: marks (pairs of a number and a replica) hash apart -/
namespace Zl
/-! two marks hash apart -/
def hStep (acc h : Nat) : Nat :=
  let a := (acc + h * 14029467366897019727) % 18446744073709551616
  let b := (a * 2147483648) % 18446744073709551616 + a / 8589934592
  (b * 11400714785074694791) % 18446744073709551616
theorem hrot_ex {a : Nat} (h : a < 18446744073709551616) : ∃ hi lo, a = hi * 8589934592 + lo ∧ lo < 8589934592 ∧ hi < 2147483648 ∧ (a * 2147483648) % 18446744073709551616 + a / 8589934592 = lo * 2147483648 + hi := by
  refine ⟨a / 8589934592, a % 8589934592, by omega, by omega, by omega, ?_⟩
  have h3 : (a * 2147483648) % 18446744073709551616 = a % 8589934592 * 2147483648 := by omega
  rw [h3]
/-- a step, told without division -/
theorem hStep_ex (acc h : Nat) : ∃ hi lo k, acc + h * 14029467366897019727 = hi * 8589934592 + lo + k * 18446744073709551616 ∧ lo < 8589934592 ∧ hi < 2147483648 ∧ hStep acc h = ((lo * 2147483648 + hi) * 11400714785074694791) % 18446744073709551616 := by
  obtain ⟨hi, lo, e1, e2, e3, e4⟩ := hrot_ex (a := (acc + h * 14029467366897019727) % 18446744073709551616) (Nat.mod_lt _ (by decide))
  generalize hA : acc + h * 14029467366897019727 = A at *
  refine ⟨hi, lo, A / 18446744073709551616, ?_, e2, e3, ?_⟩
  · rw [← e1]
    have := Nat.div_add_mod A 18446744073709551616
    omega
  · unfold hStep
    simp only
    rw [hA, e4]
theorem hmul_inv {b y : Nat} (h : b < 18446744073709551616) (e : y = (b * 11400714785074694791) % 18446744073709551616) : b = (y * 614540362697595703) % 18446744073709551616 := by omega
theorem hlohi {lo hi lo' hi' : Nat} (h1 : hi < 2147483648) (h2 : hi' < 2147483648) (e : lo * 2147483648 + hi = lo' * 2147483648 + hi') : lo = lo' ∧ hi = hi' := by omega
theorem hw_lt {lo hi : Nat} (h1 : lo < 8589934592) (h2 : hi < 2147483648) : lo * 2147483648 + hi < 18446744073709551616 := by omega
/-- equal steps: equal sums -/
theorem hStep_inj {a b r s : Nat} (h : hStep a r = hStep b s) : ∃ k l : Nat, a + r * 14029467366897019727 + k * 18446744073709551616 = b + s * 14029467366897019727 + l * 18446744073709551616 := by
  obtain ⟨hi, lo, k, e1, e2, e3, e4⟩ := hStep_ex a r
  obtain ⟨hi', lo', k', f1, f2, f3, f4⟩ := hStep_ex b s
  have e := (hmul_inv (hw_lt e2 e3) e4).trans ((congrArg (fun y => (y * 614540362697595703) % 18446744073709551616) h).trans (hmul_inv (hw_lt f2 f3) f4).symm)
  obtain ⟨g1, g2⟩ := hlohi e3 f3 e
  subst g1 g2
  refine ⟨k', k, ?_⟩
  rw [e1, f1, Nat.add_right_comm]

theorem hlin {x z L : Int} (h : x * 14029467366897019727 = L + z * 18446744073709551616) : x = L * 839798700976720815 + 18446744073709551616 * (z * 839798700976720815 - 638699622168397319 * x) := by omega
theorem hcase {x z : Int} (L : Int) (h : x * 14029467366897019727 = L + z * 18446744073709551616) (h1 : -72057594037927936 < x) (h2 : x < 72057594037927936) (hK : 72057594037927936 ≤ (L * 839798700976720815) % 18446744073709551616 ∧ (L * 839798700976720815) % 18446744073709551616 ≤ 18374686479671623680) : False := by
  have e := hlin h
  have f := Int.emod_add_mul_ediv (L * 839798700976720815) 18446744073709551616
  generalize (L * 839798700976720815) % 18446744073709551616 = r at *
  generalize (L * 839798700976720815) / 18446744073709551616 = q at *
  generalize z * 839798700976720815 - 638699622168397319 * x = w at *
  rw [← f] at e
  clear f h
  omega
theorem hzero {x z : Int} (h : x * 14029467366897019727 = z * 18446744073709551616) (h1 : -72057594037927936 < x) (h2 : x < 72057594037927936) : x = 0 := by
  have e := hlin (L := 0) (h.trans (Int.zero_add _).symm)
  rw [Int.zero_mul, Int.zero_add] at e
  generalize z * 839798700976720815 - 638699622168397319 * x = w at *
  clear h
  omega
theorem hkey1 {q r W V k l a b x y : Int} (e : x + r * 14029467366897019727 + k * 18446744073709551616 = y + q * 14029467366897019727 + l * 18446744073709551616) (ex : x + a * 18446744073709551616 = W * 11400714785074694791) (ey : y + b * 18446744073709551616 = V * 11400714785074694791) : (W - V) * 11400714785074694791 = (q - r) * 14029467366897019727 + (a - b + l - k) * 18446744073709551616 := by
  rw [Int.sub_mul W V, Int.sub_mul q r, Int.sub_mul _ k, Int.add_mul _ l, Int.sub_mul a b, ← ex, ← ey]
  clear ex ey
  generalize r * 14029467366897019727 = R at *
  generalize q * 14029467366897019727 = Q at *
  generalize k * 18446744073709551616 = K at *
  generalize l * 18446744073709551616 = L at *
  generalize a * 18446744073709551616 = A at *
  generalize b * 18446744073709551616 = B at *
  omega
theorem hkey2 {d c D : Int} (e2 : D * 11400714785074694791 = d * 14029467366897019727 + c * 18446744073709551616) : D = d * 10856659086753211129 + (614540362697595703 * c - 379806830464837242 * D + 467381882117324797 * d) * 18446744073709551616 := by
  have e : c * 18446744073709551616 = D * 11400714785074694791 - d * 14029467366897019727 := by
    rw [e2]
    generalize d * 14029467366897019727 = A
    generalize c * 18446744073709551616 = B
    omega
  have e4 : (614540362697595703 * c - 379806830464837242 * D + 467381882117324797 * d) * 18446744073709551616 = 614540362697595703 * (c * 18446744073709551616) - 7006199399031644779097329962238083072 * D + 8621673964106977459421147492308221952 * d := by clear e e2; omega
  rw [e4, e]
  clear e e4 e2
  omega
/-- the turned words differ by a constant -/
theorem hkey {x y k l W V r q a b : Int} (e : x + r * 14029467366897019727 + k * 18446744073709551616 = y + q * 14029467366897019727 + l * 18446744073709551616) (ex : x + a * 18446744073709551616 = W * 11400714785074694791) (ey : y + b * 18446744073709551616 = V * 11400714785074694791) : ∃ t : Int, W - V = (q - r) * 10856659086753211129 + t * 18446744073709551616 := ⟨_, hkey2 (hkey1 e ex ey)⟩
/-- two words that differ by D: what they were turned from -/
theorem hturn {lo hi lo' hi' D : Int} (h1 : 0 ≤ hi ∧ hi < 2147483648) (h2 : 0 ≤ hi' ∧ hi' < 2147483648) (e : (lo * 2147483648 + hi) - (lo' * 2147483648 + hi') = D) : (lo - lo' = D / 2147483648 ∧ hi - hi' = D % 2147483648) ∨ (lo - lo' = D / 2147483648 + 1 ∧ hi - hi' = D % 2147483648 - 2147483648) := by omega
/-- one case: d = q - r, the words' distance D -/
theorem hone {n s k k' lo hi lo' hi' : Int} (D : Int) (h1 : 0 ≤ hi ∧ hi < 2147483648) (h2 : 0 ≤ hi' ∧ hi' < 2147483648) (e : (lo * 2147483648 + hi) - (lo' * 2147483648 + hi') = D) (en : 2870177450012600261 + n * 14029467366897019727 = hi * 8589934592 + lo + k * 18446744073709551616) (es : 2870177450012600261 + s * 14029467366897019727 = hi' * 8589934592 + lo' + k' * 18446744073709551616) (b1 : -72057594037927936 < n - s) (b2 : n - s < 72057594037927936)
    (c1 : 72057594037927936 ≤ ((D % 2147483648 * 8589934592 + D / 2147483648) * 839798700976720815) % 18446744073709551616 ∧ ((D % 2147483648 * 8589934592 + D / 2147483648) * 839798700976720815) % 18446744073709551616 ≤ 18374686479671623680) (c2 : 72057594037927936 ≤ (((D % 2147483648 - 2147483648) * 8589934592 + (D / 2147483648 + 1)) * 839798700976720815) % 18446744073709551616 ∧ (((D % 2147483648 - 2147483648) * 8589934592 + (D / 2147483648 + 1)) * 839798700976720815) % 18446744073709551616 ≤ 18374686479671623680) : False := by
  have em : ∀ u v : Int, hi - hi' = u → lo - lo' = v → (n - s) * 14029467366897019727 = (u * 8589934592 + v) + (k - k') * 18446744073709551616 := by
    intro u v eu ev
    rw [← eu, ← ev, Int.sub_mul n s, Int.sub_mul k k', Int.sub_mul hi hi']
    clear c1 c2 b1 b2 e
    generalize n * 14029467366897019727 = A at *
    generalize s * 14029467366897019727 = B at *
    generalize k * 18446744073709551616 = C at *
    generalize k' * 18446744073709551616 = E at *
    omega
  rcases hturn h1 h2 e with ⟨e1, e2⟩ | ⟨e1, e2⟩
  · exact hcase _ (em _ _ e2 e1) b1 b2 c1
  · exact hcase _ (em _ _ e2 e1) b1 b2 c2

theorem htwo {D t d : Int} (c j : Int) (ht : D = d * 10856659086753211129 + t * 18446744073709551616) (hj : d * 10856659086753211129 = c + j * 18446744073709551616) (h0 : 0 ≤ c) (h1 : c < 18446744073709551616) (v1 : -18446744073709551616 < D) (v2 : D < 18446744073709551616) : D = c ∨ D = c - 18446744073709551616 := by
  rw [hj] at ht
  clear hj
  omega

theorem hds (q r : Int) (h1 : -8 < q - r) (h2 : q - r < 8) : (q : Int) - r = 0 ∨ (q : Int) - r = -7 ∨ (q : Int) - r = -6 ∨ (q : Int) - r = -5 ∨ (q : Int) - r = -4 ∨ (q : Int) - r = -3 ∨ (q : Int) - r = -2 ∨ (q : Int) - r = -1 ∨ (q : Int) - r = 1 ∨ (q : Int) - r = 2 ∨ (q : Int) - r = 3 ∨ (q : Int) - r = 4 ∨ (q : Int) - r = 5 ∨ (q : Int) - r = 6 ∨ (q : Int) - r = 7 := by
  have key : ∀ n : Fin 15, ((n.val : Int) - 7 = 0 ∨ (n.val : Int) - 7 = -7 ∨ (n.val : Int) - 7 = -6 ∨ (n.val : Int) - 7 = -5 ∨ (n.val : Int) - 7 = -4 ∨ (n.val : Int) - 7 = -3 ∨ (n.val : Int) - 7 = -2 ∨ (n.val : Int) - 7 = -1 ∨ (n.val : Int) - 7 = 1 ∨ (n.val : Int) - 7 = 2 ∨ (n.val : Int) - 7 = 3 ∨ (n.val : Int) - 7 = 4 ∨ (n.val : Int) - 7 = 5 ∨ (n.val : Int) - 7 = 6 ∨ (n.val : Int) - 7 = 7) := by decide +kernel
  have e : q - r = (((q - r + 7).toNat : Nat) : Int) - 7 := by omega
  rw [e]
  exact key ⟨(q - r + 7).toNat, by omega⟩

theorem hmain {n s r q : Nat} (h1 : n < 72057594037927936) (h2 : s < 72057594037927936) (hr : r < 8) (hq : q < 8) (h : hStep (hStep 2870177450012600261 n) r = hStep (hStep 2870177450012600261 s) q) : n = s ∧ r = q := by
  obtain ⟨k, l, e⟩ := hStep_inj h
  obtain ⟨hi, lo, k1, e1, e2, e3, e4⟩ := hStep_ex 2870177450012600261 n
  obtain ⟨hi', lo', k2, f1, f2, f3, f4⟩ := hStep_ex 2870177450012600261 s
  clear h
  generalize hStep 2870177450012600261 n = x at *
  generalize hStep 2870177450012600261 s = y at *
  have w1 := hw_lt e2 e3
  have w2 := hw_lt f2 f3
  obtain ⟨a, ex⟩ : ∃ a, x + 18446744073709551616 * a = (lo * 2147483648 + hi) * 11400714785074694791 := ⟨_, by rw [e4]; exact Nat.mod_add_div _ _⟩
  obtain ⟨b, ey⟩ : ∃ b, y + 18446744073709551616 * b = (lo' * 2147483648 + hi') * 11400714785074694791 := ⟨_, by rw [f4]; exact Nat.mod_add_div _ _⟩
  clear e4 f4
  have ex' : (x : Int) + a * 18446744073709551616 = ((lo : Int) * 2147483648 + hi) * 11400714785074694791 := by
    have := congrArg (fun z : Nat => (z : Int)) ex
    simp only [Int.natCast_add, Int.natCast_mul] at this
    rw [Int.mul_comm (a : Int)]
    exact this
  have ey' : (y : Int) + b * 18446744073709551616 = ((lo' : Int) * 2147483648 + hi') * 11400714785074694791 := by
    have := congrArg (fun z : Nat => (z : Int)) ey
    simp only [Int.natCast_add, Int.natCast_mul] at this
    rw [Int.mul_comm (b : Int)]
    exact this
  have e' : (x : Int) + r * 14029467366897019727 + k * 18446744073709551616 = y + q * 14029467366897019727 + l * 18446744073709551616 := by
    have := congrArg (fun z : Nat => (z : Int)) e
    simp only [Int.natCast_add, Int.natCast_mul] at this
    exact this
  have en : (2870177450012600261 : Int) + n * 14029467366897019727 = hi * 8589934592 + lo + k1 * 18446744073709551616 := by
    have := congrArg (fun z : Nat => (z : Int)) e1
    simp only [Int.natCast_add, Int.natCast_mul] at this
    exact this
  have es : (2870177450012600261 : Int) + s * 14029467366897019727 = hi' * 8589934592 + lo' + k2 * 18446744073709551616 := by
    have := congrArg (fun z : Nat => (z : Int)) f1
    simp only [Int.natCast_add, Int.natCast_mul] at this
    exact this
  obtain ⟨t, ht⟩ := hkey e' ex' ey'
  clear e e1 f1 ex ey ex' ey' e'
  have g1 : 0 ≤ (hi : Int) ∧ (hi : Int) < 2147483648 := by omega
  have g2 : 0 ≤ (hi' : Int) ∧ (hi' : Int) < 2147483648 := by omega
  have b1 : -72057594037927936 < (n : Int) - s := by omega
  have b2 : (n : Int) - s < 72057594037927936 := by omega
  obtain ⟨D, hD⟩ : ∃ D, ((lo : Int) * 2147483648 + hi) - (lo' * 2147483648 + hi') = D := ⟨_, rfl⟩
  rw [hD] at ht
  have v1 : -18446744073709551616 < D ∧ D < 18446744073709551616 := by clear ht en es; omega
  have hd : (q : Int) - r = 0 ∨ (q : Int) - r = -7 ∨ (q : Int) - r = -6 ∨ (q : Int) - r = -5 ∨ (q : Int) - r = -4 ∨ (q : Int) - r = -3 ∨ (q : Int) - r = -2 ∨ (q : Int) - r = -1 ∨ (q : Int) - r = 1 ∨ (q : Int) - r = 2 ∨ (q : Int) - r = 3 ∨ (q : Int) - r = 4 ∨ (q : Int) - r = 5 ∨ (q : Int) - r = 6 ∨ (q : Int) - r = 7 := hds (q : Int) r (by clear ht hD en es; omega) (by clear ht hD en es; omega)
  rcases hd with hd | hd | hd | hd | hd | hd | hd | hd | hd | hd | hd | hd | hd | hd | hd
  · rw [hd] at ht
    have t0 : D = 0 := by clear en es hD b1 b2 g1 g2 w1 w2 h1 h2 e2 e3 f2 f3; omega
    rw [t0] at hD
    have hw : lo * 2147483648 + hi = lo' * 2147483648 + hi' := by clear en es ht; omega
    obtain ⟨z1, z2⟩ := hlohi e3 f3 hw
    subst z1 z2
    have em : ((n : Int) - s) * 14029467366897019727 = ((k1 : Int) - k2) * 18446744073709551616 := by
      rw [Int.sub_mul, Int.sub_mul]
      generalize (n : Int) * 14029467366897019727 = A at *
      generalize (s : Int) * 14029467366897019727 = B at *
      generalize (k1 : Int) * 18446744073709551616 = C at *
      generalize (k2 : Int) * 18446744073709551616 = E at *
      clear ht v1 hD
      omega
    have := hzero em b1 b2
    clear em en es ht hD
    exact ⟨by omega, by omega⟩
  · rw [hd] at ht
    rcases htwo (16237106761275280177) (-5) ht (by decide +kernel) (by decide +kernel) (by decide +kernel) v1.1 v1.2 with g | g
    · exact (hone _ g1 g2 (hD.trans g) en es b1 b2 (by decide +kernel) (by decide +kernel)).elim
    · exact (hone _ g1 g2 (hD.trans g) en es b1 b2 (by decide +kernel) (by decide +kernel)).elim
  · rw [hd] at ht
    rcases htwo (8647021774318939690) (-4) ht (by decide +kernel) (by decide +kernel) (by decide +kernel) v1.1 v1.2 with g | g
    · exact (hone _ g1 g2 (hD.trans g) en es b1 b2 (by decide +kernel) (by decide +kernel)).elim
    · exact (hone _ g1 g2 (hD.trans g) en es b1 b2 (by decide +kernel) (by decide +kernel)).elim
  · rw [hd] at ht
    rcases htwo (1056936787362599203) (-3) ht (by decide +kernel) (by decide +kernel) (by decide +kernel) v1.1 v1.2 with g | g
    · exact (hone _ g1 g2 (hD.trans g) en es b1 b2 (by decide +kernel) (by decide +kernel)).elim
    · exact (hone _ g1 g2 (hD.trans g) en es b1 b2 (by decide +kernel) (by decide +kernel)).elim
  · rw [hd] at ht
    rcases htwo (11913595874115810332) (-3) ht (by decide +kernel) (by decide +kernel) (by decide +kernel) v1.1 v1.2 with g | g
    · exact (hone _ g1 g2 (hD.trans g) en es b1 b2 (by decide +kernel) (by decide +kernel)).elim
    · exact (hone _ g1 g2 (hD.trans g) en es b1 b2 (by decide +kernel) (by decide +kernel)).elim
  · rw [hd] at ht
    rcases htwo (4323510887159469845) (-2) ht (by decide +kernel) (by decide +kernel) (by decide +kernel) v1.1 v1.2 with g | g
    · exact (hone _ g1 g2 (hD.trans g) en es b1 b2 (by decide +kernel) (by decide +kernel)).elim
    · exact (hone _ g1 g2 (hD.trans g) en es b1 b2 (by decide +kernel) (by decide +kernel)).elim
  · rw [hd] at ht
    rcases htwo (15180169973912680974) (-2) ht (by decide +kernel) (by decide +kernel) (by decide +kernel) v1.1 v1.2 with g | g
    · exact (hone _ g1 g2 (hD.trans g) en es b1 b2 (by decide +kernel) (by decide +kernel)).elim
    · exact (hone _ g1 g2 (hD.trans g) en es b1 b2 (by decide +kernel) (by decide +kernel)).elim
  · rw [hd] at ht
    rcases htwo (7590084986956340487) (-1) ht (by decide +kernel) (by decide +kernel) (by decide +kernel) v1.1 v1.2 with g | g
    · exact (hone _ g1 g2 (hD.trans g) en es b1 b2 (by decide +kernel) (by decide +kernel)).elim
    · exact (hone _ g1 g2 (hD.trans g) en es b1 b2 (by decide +kernel) (by decide +kernel)).elim
  · rw [hd] at ht
    rcases htwo (10856659086753211129) (0) ht (by decide +kernel) (by decide +kernel) (by decide +kernel) v1.1 v1.2 with g | g
    · exact (hone _ g1 g2 (hD.trans g) en es b1 b2 (by decide +kernel) (by decide +kernel)).elim
    · exact (hone _ g1 g2 (hD.trans g) en es b1 b2 (by decide +kernel) (by decide +kernel)).elim
  · rw [hd] at ht
    rcases htwo (3266574099796870642) (1) ht (by decide +kernel) (by decide +kernel) (by decide +kernel) v1.1 v1.2 with g | g
    · exact (hone _ g1 g2 (hD.trans g) en es b1 b2 (by decide +kernel) (by decide +kernel)).elim
    · exact (hone _ g1 g2 (hD.trans g) en es b1 b2 (by decide +kernel) (by decide +kernel)).elim
  · rw [hd] at ht
    rcases htwo (14123233186550081771) (1) ht (by decide +kernel) (by decide +kernel) (by decide +kernel) v1.1 v1.2 with g | g
    · exact (hone _ g1 g2 (hD.trans g) en es b1 b2 (by decide +kernel) (by decide +kernel)).elim
    · exact (hone _ g1 g2 (hD.trans g) en es b1 b2 (by decide +kernel) (by decide +kernel)).elim
  · rw [hd] at ht
    rcases htwo (6533148199593741284) (2) ht (by decide +kernel) (by decide +kernel) (by decide +kernel) v1.1 v1.2 with g | g
    · exact (hone _ g1 g2 (hD.trans g) en es b1 b2 (by decide +kernel) (by decide +kernel)).elim
    · exact (hone _ g1 g2 (hD.trans g) en es b1 b2 (by decide +kernel) (by decide +kernel)).elim
  · rw [hd] at ht
    rcases htwo (17389807286346952413) (2) ht (by decide +kernel) (by decide +kernel) (by decide +kernel) v1.1 v1.2 with g | g
    · exact (hone _ g1 g2 (hD.trans g) en es b1 b2 (by decide +kernel) (by decide +kernel)).elim
    · exact (hone _ g1 g2 (hD.trans g) en es b1 b2 (by decide +kernel) (by decide +kernel)).elim
  · rw [hd] at ht
    rcases htwo (9799722299390611926) (3) ht (by decide +kernel) (by decide +kernel) (by decide +kernel) v1.1 v1.2 with g | g
    · exact (hone _ g1 g2 (hD.trans g) en es b1 b2 (by decide +kernel) (by decide +kernel)).elim
    · exact (hone _ g1 g2 (hD.trans g) en es b1 b2 (by decide +kernel) (by decide +kernel)).elim
  · rw [hd] at ht
    rcases htwo (2209637312434271439) (4) ht (by decide +kernel) (by decide +kernel) (by decide +kernel) v1.1 v1.2 with g | g
    · exact (hone _ g1 g2 (hD.trans g) en es b1 b2 (by decide +kernel) (by decide +kernel)).elim
    · exact (hone _ g1 g2 (hD.trans g) en es b1 b2 (by decide +kernel) (by decide +kernel)).elim

theorem hashInt_small {n : Int} (h0 : 0 ≤ n) (h1 : n < 72057594037927936) : PySem.hashInt n = n := by
  have e : PySem.rawHash n = n := by
    unfold PySem.rawHash
    simp only
    have h3 : ((n.natAbs : Nat) : Int) = n := Int.natAbs_of_nonneg h0
    rw [if_neg (show ¬ n < 0 by omega), h3]
    have h4 : (((2 ^ 61 - 1 : Nat)) : Int) = 2305843009213693951 := by decide +kernel
    have h2 : n % (((2 ^ 61 - 1 : Nat)) : Int) = n := Int.emod_eq_of_lt h0 (by rw [h4]; omega)
    rw [h2, if_neg (by simp; omega)]
  unfold PySem.hashInt
  rw [e, if_neg (by simp; omega)]
def tStep (acc : Nat) (h : Int) : Nat :=
  let acc := (acc + (h % ((2 ^ 64 : Nat) : Int)).toNat * 14029467366897019727) % (2 ^ 64)
  let acc := (acc * 2 ^ 31) % (2 ^ 64) + acc / 2 ^ 33
  (acc * 11400714785074694791) % (2 ^ 64)
def tEnd (acc len : Nat) : Int :=
  let m : Nat := 2 ^ 64
  let acc : Nat := (acc + (len ^^^ (2870177450012600261 ^^^ 3527539))) % m
  if acc == m - 1 then 1546275796 else if acc < 2 ^ 63 then acc else (acc : Int) - m
theorem tho (hs : List Int) : PySem.Builtin.Tuple.tupleHashOf hs = tEnd (hs.foldl tStep 2870177450012600261) hs.length := rfl
theorem tStep_h {acc : Nat} {n : Int} (h0 : 0 ≤ n) (h1 : n < 72057594037927936) : tStep acc n = hStep acc n.toNat := by
  have e1 : n % ((18446744073709551616 : Nat) : Int) = n := Int.emod_eq_of_lt h0 (by omega)
  unfold tStep hStep
  simp only [Nat.reducePow]
  rw [e1]
/-- two sums that end alike are the same, but for the two that are written so -/
theorem tEnd_inj {a b : Nat} (ha : a < 18446744073709551616) (hb : b < 18446744073709551616) (h : tEnd a 2 = tEnd b 2) : a = b ∨ a = 15576566623696079691 ∨ b = 15576566623696079691 := by
  unfold tEnd at h
  have k : (2 ^^^ (2870177450012600261 ^^^ 3527539) : Nat) = 2870177450013471924 := by decide +kernel
  rw [k] at h
  simp only [Nat.reducePow, Nat.reduceSub] at h
  obtain ⟨x, hx⟩ : ∃ x, (a + 2870177450013471924) % 18446744073709551616 = x := ⟨_, rfl⟩
  obtain ⟨y, hy⟩ : ∃ y, (b + 2870177450013471924) % 18446744073709551616 = y := ⟨_, rfl⟩
  rw [hx, hy] at h
  by_cases h1 : x = 18446744073709551615
  · right; left; omega
  · by_cases h2 : y = 18446744073709551615
    · right; right; omega
    · left
      rw [beq_eq_false_iff_ne.mpr h1, beq_eq_false_iff_ne.mpr h2] at h
      simp only [Bool.false_eq_true, if_false] at h
      have h3 : x < 18446744073709551616 := by omega
      have h4 : y < 18446744073709551616 := by omega
      have h5 : x = y := by
        clear hx hy k
        split at h <;> split at h <;> omega
      clear h
      omega
theorem hsame {n s : Nat} (h1 : n < 72057594037927936) (h2 : 72057594037927936 ≤ s) (h3 : s < 18446744073709551616) (h : hStep 2870177450012600261 n = hStep 2870177450012600261 s) : False := by
  obtain ⟨k, l, e⟩ := hStep_inj h
  have e' : (2870177450012600261 : Int) + n * 14029467366897019727 + k * 18446744073709551616 = 2870177450012600261 + s * 14029467366897019727 + l * 18446744073709551616 := by
    have := congrArg (fun z : Nat => (z : Int)) e
    simp only [Int.natCast_add, Int.natCast_mul] at this
    exact this
  have e2 : ((n : Int) - s) * 14029467366897019727 = 0 + ((l : Int) - k) * 18446744073709551616 := by
    rw [Int.sub_mul, Int.sub_mul]
    clear e
    generalize (n : Int) * 14029467366897019727 = A at *
    generalize (s : Int) * 14029467366897019727 = B at *
    generalize (k : Int) * 18446744073709551616 = C at *
    generalize (l : Int) * 18446744073709551616 = E at *
    omega
  have e3 := hlin e2
  rw [Int.zero_mul, Int.zero_add] at e3
  generalize ((l : Int) - k) * 839798700976720815 - 638699622168397319 * ((n : Int) - s) = w at *
  clear e e' e2
  omega
theorem hStep_lt (acc h : Nat) : hStep acc h < 18446744073709551616 := Nat.mod_lt _ (by decide)
theorem heq3 {x y z k l : Nat} (a1 : x < 18446744073709551616) (a2 : y < 18446744073709551616) (e : x + z + k * 18446744073709551616 = y + z + l * 18446744073709551616) : x = y := by omega
theorem hno {n r : Nat} (h1 : n < 72057594037927936) (hr : r < 8) : hStep (hStep 2870177450012600261 n) r ≠ 15576566623696079691 := by
  intro h
  have go : ∀ s : Nat, 72057594037927936 ≤ s → s < 18446744073709551616 → hStep (hStep 2870177450012600261 s) r = 15576566623696079691 → False := fun s h2 h3 hs => by
    obtain ⟨k, l, e⟩ := hStep_inj (h.trans hs.symm)
    have a1 := hStep_lt 2870177450012600261 n
    have a2 := hStep_lt 2870177450012600261 s
    refine hsame h1 h2 h3 ?_
    clear h hs
    exact heq3 a1 a2 e
  have cases8 : ∀ r : Nat, r < 8 → ∃ s : Nat, 72057594037927936 ≤ s ∧ s < 18446744073709551616 ∧ hStep (hStep 2870177450012600261 s) r = 15576566623696079691 := by
    intro r hr
    match r, hr with
    | 0, _ => exact ⟨926380684836714815, by decide +kernel, by decide +kernel, by decide +kernel⟩
    | 1, _ => exact ⟨9962449988651685877, by decide +kernel, by decide +kernel, by decide +kernel⟩
    | 2, _ => exact ⟨551775218757105323, by decide +kernel, by decide +kernel, by decide +kernel⟩
    | 3, _ => exact ⟨5497969310511401394, by decide +kernel, by decide +kernel, by decide +kernel⟩
    | 4, _ => exact ⟨14534038614326372456, by decide +kernel, by decide +kernel, by decide +kernel⟩
    | 5, _ => exact ⟨1873287333347837726, by decide +kernel, by decide +kernel, by decide +kernel⟩
    | 6, _ => exact ⟨10909356637162808788, by decide +kernel, by decide +kernel, by decide +kernel⟩
    | 7, _ => exact ⟨1498681867268228234, by decide +kernel, by decide +kernel, by decide +kernel⟩
  obtain ⟨s, a, b, c⟩ := cases8 r hr
  exact go s a b c
theorem tEnd_ok {a : Nat} : PySem.reduceHash (tEnd a 2) = tEnd a 2 := by
  obtain ⟨x, hx⟩ : ∃ x, (a + (2 ^^^ (2870177450012600261 ^^^ 3527539))) % (2 ^ 64) = x := ⟨_, rfl⟩
  have h3 : x < 18446744073709551616 := by omega
  have e : tEnd a 2 = if x == 18446744073709551615 then 1546275796 else if x < 9223372036854775808 then (x : Int) else (x : Int) - 18446744073709551616 := by
    unfold tEnd
    simp only [Nat.reducePow, Nat.reduceSub] at hx ⊢
    rw [hx]
    rfl
  rw [e]
  clear e hx
  have hv : ∀ v : Int, -(2 ^ 63) ≤ v → v < 2 ^ 63 → v ≠ -1 → PySem.reduceHash v = v := by
    intro v v0 v1 v2
    unfold PySem.reduceHash
    rw [if_pos (by simp; omega), if_neg (by simp; exact v2)]
  by_cases h1 : x = 18446744073709551615
  · rw [if_pos (by simp; exact h1)]
    exact hv _ (by decide) (by decide) (by decide)
  · rw [beq_eq_false_iff_ne.mpr h1, if_neg Bool.false_ne_true]
    split
    · exact hv _ (by omega) (by omega) (by omega)
    · exact hv _ (by omega) (by omega) (by omega)
section
open PySem L2
theorem fold2 {α β : Type} (f : α → β → α) (x : α) (a b : β) : [a, b].foldl f x = f (f x a) b := rfl
theorem len2 {α : Type} (a b : α) : [a, b].length = 2 := rfl
theorem mark_hash {prog : Program} {w : World} {n s r q : Int} (n0 : 0 ≤ n) (n1 : n < 72057594037927936) (s0 : 0 ≤ s) (s1 : s < 72057594037927936) (r0 : 0 ≤ r) (r1 : r < 8) (q0 : 0 ≤ q) (q1 : q < 8)
    (h : (tupleKind (mixKind prog w)).hash [.inl n, .inl r] = (tupleKind (mixKind prog w)).hash [.inl s, .inl q]) : n = s ∧ r = q := by
  have ex : ∀ {n r : Int}, 0 ≤ n → n < 72057594037927936 → 0 ≤ r → r < 8 → (tupleKind (mixKind prog w)).hash [.inl n, .inl r] = tEnd (hStep (hStep 2870177450012600261 n.toNat) r.toNat) 2 := by
    intro n r n0 n1 r0 r1
    have e1 : (tupleKind (mixKind prog w)).hash [.inl n, .inl r] = reduceHash (Builtin.Tuple.tupleHashOf ([(.inl n : Key), .inl r].map (keyH w))) := rfl
    have e2 : ∀ n : Int, keyH w (.inl n) = hashInt n := fun _ => rfl
    rw [e1, tho]
    simp only [List.map_cons, List.map_nil, e2]
    rw [fold2, len2, hashInt_small n0 n1, hashInt_small r0 (by omega), tStep_h n0 n1, tStep_h r0 (by omega), tEnd_ok]
  rw [ex n0 n1 r0 r1, ex s0 s1 q0 q1] at h
  rcases tEnd_inj (hStep_lt _ _) (hStep_lt _ _) h with h | h | h
  · obtain ⟨a, b⟩ := hmain (by omega) (by omega) (by omega) (by omega) h
    omega
  · exact absurd h (hno (by omega) (by omega))
  · exact absurd h (hno (by omega) (by omega))
end
end Zl

/-! Zo: what a call leaves, joined to what the caller owns; lists of lists -/
namespace Zl
open PySem PySem.Spec PyProof.Rows L2 LamX
/-- what never changes -/
def isImm : HO → Bool
  | .tup _ => true
  | .ext _ => true
  | _ => false
def immOf (H B : Hp) : Hp := fun a => match H a with
  | some o => if isImm o = true then some o else B a
  | none => B a
/-- what never changes stays -/
def Imm (H H' : Hp) : Prop := ∀ a o, isImm o = true → H a = some o → H' a = some o
theorem Imm.of {H H' : Hp} (e : Same H H') : Imm H H' := fun a o _ h => e a o h
theorem Imm.refl (H : Hp) : Imm H H := fun _ _ _ h => h
theorem Imm.trans {H H1 H2 : Hp} (a : Imm H H1) (b : Imm H1 H2) : Imm H H2 := fun x o i h => b x o i (a x o i h)
theorem Imm.tup {H H' : Hp} (e : Imm H H') : Tup H H' := fun a xs h => e a _ rfl h
theorem Imm.td {H H' : Hp} (e : Imm H H') {v : V} {d : PyData} (h : Td H v d) : Td H' v d := td_tup e.tup h
theorem Imm.tds {H H' : Hp} (e : Imm H H') {vs : List V} {ds : List PyData} (h : TdAll H vs ds) : TdAll H' vs ds := tds_tup e.tup h
theorem Imm.tab {H H' : Hp} (e : Imm H H') {q : Str} {ps : Array Value} (t : TabI H q ps) : TabI H' q ps := ⟨t.1, fun pos cv h => by
  obtain ⟨c, e1, e2⟩ := t.2 pos cv h
  exact ⟨c, e1, e _ _ rfl e2⟩⟩
theorem Imm.mut {H H' : Hp} {l : Addr} {u : HO} (hl : H l = some u) (hi : isImm u = false) (e : ∀ b o, b ≠ l → H b = some o → H' b = some o) : Imm H H' := fun a o i h => e a o (fun q => by
  rw [q, hl] at h
  cases h
  rw [hi] at i
  exact nomatch i) h
theorem immOf_same {B H : Hp} (e : Same B H) : Same B (immOf H B) := fun a o h => by
  have h' := e a o h
  unfold immOf
  rw [h']
  show (if isImm o = true then some o else B a) = some o
  split
  · rfl
  · exact h
theorem immOf_imm {B H : Hp} : Imm H (immOf H B) := fun a o i h => by
  unfold immOf
  rw [h]
  exact if_pos i
theorem immOf_sub {B H : Hp} (e : Same B H) : Same (immOf H B) H := fun a o h => by
  unfold immOf at h
  split at h
  · rename_i u hu
    split at h
    · cases h; exact hu
    · exact e a o h
  · exact e a o h
/-- no cell is of those that never change -/
def Mut (cs : List (Addr × HO)) : Prop := ∀ c ∈ cs, isImm c.2 = false
theorem Mut.nil : Mut [] := fun _ h => nomatch h
theorem Mut.cons {c : Addr × HO} {cs : List (Addr × HO)} (h : isImm c.2 = false) (m : Mut cs) : Mut (c :: cs) := fun x hx => by
  rcases List.mem_cons.mp hx with rfl | hx
  · exact h
  · exact m x hx
theorem Mut.app {a b : List (Addr × HO)} (m : Mut a) (n : Mut b) : Mut (a ++ b) := fun x hx => by
  rcases List.mem_append.mp hx with hx | hx
  · exact m x hx
  · exact n x hx
theorem Mut.tail {c : Addr × HO} {cs : List (Addr × HO)} (m : Mut (c :: cs)) : Mut cs := fun x hx => m x (.tail _ hx)
theorem Mut.set {cs : List (Addr × HO)} (m : Mut cs) (j : Nat) {c : Addr × HO} (h : isImm c.2 = false) : Mut (cs.set j c) := fun x hx => by
  rcases mem_set hx with rfl | ⟨i, _, hi⟩
  · exact h
  · exact m x (List.mem_of_getElem? hi)
theorem Own.imm {B H : Hp} {cs : List (Addr × HO)} (O : Own B cs H) (m : Mut cs) : Own (immOf H B) cs H := by
  refine ⟨immOf_sub O.fr, fun c hc => ?_, O.have_, O.nd⟩
  have h1 := O.have_ c hc
  have h2 := m c hc
  unfold immOf
  rw [h1]
  show (if isImm c.2 = true then some c.2 else B c.1) = none
  rw [h2, if_neg Bool.false_ne_true]
  exact O.out c hc
/-- what never changes is from now on of the frame -/
theorem Own.fix {B H : Hp} {cs : List (Addr × HO)} (O : Own B cs H) (m : Mut cs) : ∃ B', Same B B' ∧ Own B' cs H ∧ Imm H B' := ⟨_, immOf_same O.fr, O.imm m, immOf_imm⟩
/-- new cells beside those of the caller -/
theorem Own.join {B H H' : Hp} {cs ds : List (Addr × HO)} (O : Own B cs H) (O' : Own H ds H') : Own B (ds ++ cs) H' := by
  refine ⟨O.fr.trans O'.fr, fun c hc => ?_, fun c hc => ?_, ?_⟩
  · rcases List.mem_append.mp hc with hc | hc
    · exact O.fr.free (O'.out c hc)
    · exact O.out c hc
  · rcases List.mem_append.mp hc with hc | hc
    · exact O'.have_ c hc
    · exact O'.fr _ _ (O.have_ c hc)
  · rw [List.map_append]
    refine List.nodup_append.mpr ⟨O'.nd, O.nd, ?_⟩
    intro a ha b hb e
    subst e
    obtain ⟨c, hc, e1⟩ := List.mem_map.mp ha
    obtain ⟨d, hd, e2⟩ := List.mem_map.mp hb
    have h1 := O'.out c hc
    have h2 := O.have_ d hd
    rw [e1] at h1
    rw [e2, h1] at h2
    exact nomatch h2
theorem Own.weak {B B' H : Hp} {cs : List (Addr × HO)} (O : Own B' cs H) (e : Same B B') : Own B cs H := ⟨e.trans O.fr, fun c hc => e.free (O.out c hc), O.have_, O.nd⟩
/-- a call that makes things: the new cells, and what never changes in the frame -/
theorem Own.call {B B1 H H' : Hp} {cs ds : List (Addr × HO)} (O : Own B cs H) (e : Same H B1) (O' : Own B1 ds H') (m : Mut cs) (n : Mut ds) : ∃ B', Same B B' ∧ Own B' (ds ++ cs) H' ∧ Imm H' B' :=
  (O.join (O'.weak e)).fix (n.app m)
/-- a call that makes things and changes the cell j -/
theorem Own.callM {B B1 H H' : Hp} {cs ds : List (Addr × HO)} {j : Nat} {a : Addr} {o o' : HO} (O : Own B cs H) (hj : cs[j]? = some (a, o)) (e : Same (dels H [a]) B1) (O' : Own B1 (ds ++ [(a, o')]) H') (m : Mut cs) (n : Mut ds) (hi : isImm o' = false) :
    ∃ B', Same B B' ∧ Own B' (ds ++ cs.set j (a, o')) H' ∧ Imm H' B' := by
  have ha : H' a = some o' := O'.have_ (a, o') (List.mem_append.mpr (.inr (List.mem_singleton.mpr rfl)))
  have keep : ∀ b u, b ≠ a → H b = some u → H' b = some u := fun b u hb hu => O'.fr _ _ (e _ _ (by rw [dels_out (fun q => hb (List.mem_singleton.mp q))]; exact hu))
  have O1 := O.mut j hj keep ha
  have hnd := O'.nd
  rw [List.map_append] at hnd
  have hnd := List.nodup_append.mp hnd
  have na : ∀ c ∈ ds, c.1 ≠ a := fun c hc q => hnd.2.2 c.1 (List.mem_map.mpr ⟨c, hc, rfl⟩) a (by simp) q
  have nH : ∀ c ∈ ds, H c.1 = none := fun c hc => by
    have h1 := e.free (O'.out c (List.mem_append.mpr (.inl hc)))
    rwa [dels_out (fun q => na c hc (List.mem_singleton.mp q))] at h1
  have key : (cs.set j (a, o')).map (·.1) = cs.map (·.1) := by
    rw [List.map_set]
    apply List.ext_getElem?
    intro i
    rw [List.getElem?_set]
    split
    · rename_i hij
      subst hij
      rw [List.getElem?_map, hj]
      split
      · rfl
      · rename_i hl
        have := (List.getElem?_eq_some_iff.mp hj).1
        rw [List.length_map] at hl
        exact absurd this hl
    · rfl
  have O2 : Own B (ds ++ cs.set j (a, o')) H' := by
    refine ⟨O1.fr, fun c hc => ?_, fun c hc => ?_, ?_⟩
    · rcases List.mem_append.mp hc with hc | hc
      · exact O.fr.free (nH c hc)
      · exact O1.out c hc
    · rcases List.mem_append.mp hc with hc | hc
      · exact O'.have_ c (List.mem_append.mpr (.inl hc))
      · exact O1.have_ c hc
    · rw [List.map_append, key]
      refine List.nodup_append.mpr ⟨hnd.1, O.nd, ?_⟩
      intro x hx b hb q
      subst q
      obtain ⟨c, hc, e1⟩ := List.mem_map.mp hx
      obtain ⟨d, hd, e2⟩ := List.mem_map.mp hb
      have h1 := nH c hc
      have h2 := O.have_ d hd
      rw [e1] at h1
      rw [e2, h1] at h2
      exact nomatch h2
  exact O2.fix (n.app (m.set j hi))
/-! ### lists as cells -/
def rc (as : List Addr) (wss : List (List V)) : List (Addr × HO) := (as.zip wss).map fun x => (x.1, .lst x.2)
theorem rc_mut (as : List Addr) (wss : List (List V)) : Mut (rc as wss) := fun c hc => by
  obtain ⟨x, _, rfl⟩ := List.mem_map.mp hc
  rfl
theorem rc_get {as : List Addr} {wss : List (List V)} {i : Nat} {a : Addr} {ws : List V} (h1 : as[i]? = some a) (h2 : wss[i]? = some ws) : (rc as wss)[i]? = some (a, .lst ws) := by
  unfold rc
  rw [List.getElem?_map, (List.getElem?_zip_eq_some (z := (a, ws))).mpr ⟨h1, h2⟩]
  rfl
theorem rc_set {ws : List V} {a : Addr} : ∀ {as : List Addr} {wss : List (List V)} {i : Nat}, as[i]? = some a → (rc as wss).set i (a, .lst ws) = rc as (wss.set i ws)
  | [], _, i, h => by simp at h
  | _ :: _, [], i, h => by simp [rc]
  | b :: as, x :: wss, 0, h => by
    simp at h
    subst h
    rfl
  | b :: as, x :: wss, i + 1, h => by
    show (b, .lst x) :: (rc as wss).set i (a, .lst ws) = _
    rw [rc_set (by simpa using h)]
    rfl
theorem rc_snoc {a : Addr} {ws : List V} : ∀ {as : List Addr} {wss : List (List V)}, as.length = wss.length → rc (as ++ [a]) (wss ++ [ws]) = rc as wss ++ [(a, .lst ws)]
  | [], [], _ => rfl
  | b :: as, x :: wss, h => by
    show (b, .lst x) :: rc (as ++ [a]) (wss ++ [ws]) = _
    rw [rc_snoc (by simpa using h)]
    rfl
theorem rc_len {as : List Addr} {wss : List (List V)} (h : as.length = wss.length) : (rc as wss).length = as.length := by
  unfold rc
  rw [List.length_map, List.length_zip, h, Nat.min_self]
theorem get_mid {α : Type} {X M Y : List α} {i : Nat} {c : α} (h : M[i]? = some c) : (X ++ (M ++ Y))[X.length + i]? = some c := by
  rw [List.getElem?_append_right (by omega), Nat.add_sub_cancel_left, List.getElem?_append_left (List.getElem?_eq_some_iff.mp h).1]
  exact h
theorem set_mid {α : Type} {X M Y : List α} {i : Nat} {c : α} (h : i < M.length) : (X ++ (M ++ Y)).set (X.length + i) c = X ++ (M.set i c ++ Y) := by
  rw [List.set_append_right _ _ (by omega), Nat.add_sub_cancel_left, List.set_append_left _ _ h]
theorem dels1 {H : Hp} {a b : Addr} {o u : HO} (ha : H a = some o) (hb : H b = some u) (ne : o ≠ u) : dels H [a] b = some u := by
  rw [dels_out (fun q => ne ?_)]
  · exact hb
  · rw [List.mem_singleton.mp q, ha] at hb
    exact Option.some.inj hb
theorem dels1_imm {H : Hp} {a : Addr} {o : HO} (ha : H a = some o) (hi : isImm o = false) : Imm H (dels H [a]) := Imm.mut ha hi fun b u hb hu => by rw [dels_out (fun q => hb (List.mem_singleton.mp q))]; exact hu
/-! ### a sign repeated -/
theorem fold_rep {α : Type} (c : α) : ∀ (n : Nat) (acc : List α), (List.replicate n #[c]).foldl (· ++ ·) acc.toArray = (acc ++ List.replicate n c).toArray
  | 0, acc => by simp
  | n + 1, acc => by
    rw [List.replicate_succ, List.foldl_cons]
    have e : acc.toArray ++ #[c] = (acc ++ [c]).toArray := by simp
    rw [e, fold_rep c n (acc ++ [c]), List.append_assoc]
    rfl
def rRepS : R2 := fun x y H Q => ∃ (c : Nat) (k : Int), x = .str (S [c]) ∧ y = .int k ∧ 2 ≤ k ∧ k ≤ 1000 ∧ Q (.str (S (List.replicate k.toNat c))) H
theorem op_mulS {X : Cx} : OpR X (binaryOp .Mult) rRepS := by
  intro pins s σ H x y v u Q I rx ry h
  obtain ⟨c, k, rfl, rfl, h1, h2, q⟩ := h
  obtain ⟨tx, rfl⟩ := rx
  obtain ⟨ty, rfl⟩ := ry
  have hl : (S [c]).length = 1 := rfl
  refine P.mul_str ?_ (fun _ _ => ?_) (fun _ _ => ?_) ?_
  · rw [decide_eq_false (by omega), decide_eq_false (by omega)]
    rfl
  · rw [hl]
    have h3 : (1 : Int) ≤ (2 ^ 63 - 1) / k := by
      rw [Int.le_ediv_iff_mul_le (by omega)]
      omega
    omega
  · rw [hl]
    unfold Builtin.Str.tooLong
    have := sizeLine_eq
    simp only [decide_eq_false_iff_not]
    omega
  · have e : (⟨(List.replicate k.toNat (S [c]).cps).foldl (· ++ ·) #[]⟩ : Str) = S (List.replicate k.toNat c) := by
      have := fold_rep c k.toNat []
      rw [List.nil_append] at this
      show Str.mk _ = Str.mk _
      rw [← this]
      rfl
    rw [if_neg (by omega), if_neg (by rw [hl]; simp; omega), e]
    refine ⟨?_, .str _, H, I.tok _, ⟨_, rfl⟩, q⟩
    rw [S_len, List.length_replicate]
    exact small_le (by omega)
theorem g_mulS {c : Nat} {k : Int} {H : Hp} {Q : VK} (h1 : 2 ≤ k) (h2 : k ≤ 1000) (q : Q (.str (S (List.replicate k.toNat c))) H) : rRepS (.str (S [c])) (.int k) H Q := ⟨c, k, rfl, rfl, h1, h2, q⟩
end Zl

open Zl in
local macro_rules | `(tactic| walk_at "zb") => `(tactic| (first | decide | omega | exact .inr ⟨by decide, by decide⟩ | exact .inl ⟨by decide, by decide⟩ | exact .inl ⟨by omega, by omega⟩ | exact .inr ⟨by omega, by omega⟩ | exact ⟨by omega, by omega⟩ | exact ⟨by decide, by decide, by decide⟩))
open Zl in
local macro_rules | `(tactic| walk_at "z1") => `(tactic| (first
  | with_reducible refine g_seq ?_ | with_reducible refine g_asg ?_ | with_reducible refine g_var rfl ?_ | with_reducible refine g_c ?_ | with_reducible refine g_name ?_
  | with_reducible refine g_op ?_ | with_reducible refine g_addI ?_ | with_reducible refine g_subI ?_ | with_reducible refine g_cons ?_ | with_reducible refine g_nil ?_
  | with_reducible refine g_cb ?_ | with_reducible refine g_call ?_ | with_reducible refine g_intI ?_ | with_reducible refine g_ret ?_ | with_reducible refine g_drop ?_ | with_reducible refine g_ifS ?_
  | with_reducible refine g_test ?_ | with_reducible refine g_B ?_ | with_reducible refine g_bl ?_ | with_reducible refine g_andK ?_ | with_reducible refine g_orK ?_ | with_reducible refine g_notK ?_ | with_reducible refine g_next ?_ | with_reducible refine g_ltI ?_ | with_reducible refine g_leI ?_
  | with_reducible refine g_gtI ?_ | with_reducible refine g_geI ?_ | with_reducible refine g_eqI ?_ | with_reducible refine g_neI ?_ | with_reducible refine g_isN ?_ | with_reducible refine g_notN ?_
  | with_reducible refine g_and ?_ | with_reducible refine g_or ?_ | with_reducible refine g_not ?_ | with_reducible refine g_andV ?_ | with_reducible refine g_orV ?_ | with_reducible refine g_notV ?_
  | with_reducible refine g_if ?_ | with_reducible refine g_min2 ?_ | with_reducible refine g_max2 ?_ | with_reducible refine g_un ?_ | with_reducible refine g_neg ?_
  | with_reducible refine g_tup ?_ | with_reducible refine g_lst ?_ | with_reducible refine g_sl ?_ | with_reducible refine g_nopart ?_ | with_reducible refine g_part ?_ | with_reducible refine g_int ?_
  | with_reducible refine g_bm ?_ | with_reducible refine g_bm0 ?_ | with_reducible refine g_fld ?_ | with_reducible refine g_sFld ?_ | with_reducible refine g_make ?_ | with_reducible refine g_eqNon ?_ | with_reducible refine g_meth ?_ | with_reducible refine g_brk ?_ | with_reducible refine g_cont ?_
  | with_reducible refine g_retN ?_ | with_reducible refine g_aug rfl ?_ | with_reducible refine g_augS ?_ | with_reducible refine g_gsub ?_ | with_reducible refine g_ipadd ?_ | with_reducible refine g_ipsub ?_
  | with_reducible refine g_gcons ?_ | with_reducible refine g_gnil ?_
  | with_reducible refine g_for ?_ | with_reducible refine g_rng1 ?_ | with_reducible refine g_rng2 ?_ | with_reducible refine g_rng3 ?_ | with_reducible refine g_iList ?_ | with_reducible refine g_iTup ?_ | with_reducible refine g_iStr ?_ | with_reducible refine g_iZip ?_ | with_reducible refine g_iEnum ?_
  | with_reducible refine g_lc ?_ | with_reducible refine g_M1 ?_ | with_reducible refine g_m1K ?_ | with_reducible refine g_lcT rfl ?_ | with_reducible refine g_yes ?_ | with_reducible refine g_iStrv ?_ | with_reducible refine g_tr ?_ | with_reducible refine g_trB ?_
  | ((with_reducible refine g_rng1v ?_ ?_); · walk_at "zb") | ((with_reducible refine g_rng2v ?_ ?_); · walk_at "zb")
  | ((with_reducible refine g_mulI ?_ ?_); · walk_at "zb") | ((with_reducible refine g_modI ?_ ?_); · walk_at "zb") | ((with_reducible refine g_divI ?_ ?_); · walk_at "zb") | ((with_reducible refine g_powI ?_ ?_); · walk_at "zb")))
local macro_rules | `(tactic| walk_at "z") => `(tactic| (repeat walk_at "z1"))
open Zl in
local macro_rules | `(tactic| walk_at "z1") => `(tactic| (first | with_reducible refine g_methX ?_ | with_reducible refine g_raise ?_ | with_reducible refine g_sFldAug ?_ | with_reducible refine g_rAdd ?_))
open Zl in
local macro_rules | `(tactic| walk_at "z1") => `(tactic| (first | with_reducible refine g_iEnumS ?_ | with_reducible refine g_sortL ?_ | with_reducible refine g_iEnumSv ?_ | with_reducible refine g_dget ?_ | with_reducible refine g_din ?_ | with_reducible refine g_dnotin ?_ | with_reducible refine g_dput ?_ | with_reducible refine g_dnewK ?_ | with_reducible refine g_dnewT ?_))

namespace K03
open PySem PySem.Spec PyProof.Rows L2 Zl

def topS (i : Nat) : Stmt := PySem.Challenge.pw_textwhole_k03_whole_no_deed_moves_a_char.main.body.getD i (.Pass ⟨0, 0, 0, 0⟩)
abbrev s__wall : Stmt := (topS 0)
abbrev N__wall : List Str := ["k"]
abbrev P__wall : List Str := ["k"]
theorem sc__wall : FnScope N__wall P__wall (defScope s__wall) := ⟨rfl, rfl, rfl, by decide +kernel, rfl, by decide +kernel, by decide +kernel⟩
abbrev s_inserted : Stmt := (topS 3)
abbrev N_inserted : List Str := ["replica", "deed", "result", "behind", "index", "character", "mark"]
abbrev P_inserted : List Str := ["replica", "deed"]
theorem sc_inserted : FnScope N_inserted P_inserted (defScope s_inserted) := ⟨rfl, rfl, rfl, by decide +kernel, rfl, by decide +kernel, by decide +kernel⟩
abbrev s_Deeds___init__ : Stmt := (inClass (topS 4) 0)
abbrev N_Deeds___init__ : List Str := ["self", "_"]
abbrev P_Deeds___init__ : List Str := ["self"]
theorem sc_Deeds___init__ : FnScope N_Deeds___init__ P_Deeds___init__ (defScope s_Deeds___init__) := ⟨rfl, rfl, rfl, by decide +kernel, rfl, by decide +kernel, by decide +kernel⟩
abbrev s_Deeds_counts : Stmt := (inClass (topS 4) 1)
abbrev N_Deeds_counts : List Str := ["self", "row"]
abbrev P_Deeds_counts : List Str := ["self"]
theorem sc_Deeds_counts : FnScope N_Deeds_counts P_Deeds_counts (defScope s_Deeds_counts) := ⟨rfl, rfl, rfl, by decide +kernel, rfl, by decide +kernel, by decide +kernel⟩
abbrev s_Deeds_add : Stmt := (inClass (topS 4) 2)
abbrev N_Deeds_add : List Str := ["self", "replica", "deed"]
abbrev P_Deeds_add : List Str := ["self", "replica", "deed"]
theorem sc_Deeds_add : FnScope N_Deeds_add P_Deeds_add (defScope s_Deeds_add) := ⟨rfl, rfl, rfl, by decide +kernel, rfl, by decide +kernel, by decide +kernel⟩
abbrev s_Deeds_copy : Stmt := (inClass (topS 4) 3)
abbrev N_Deeds_copy : List Str := ["self"]
abbrev P_Deeds_copy : List Str := ["self"]
theorem sc_Deeds_copy : FnScope N_Deeds_copy P_Deeds_copy (defScope s_Deeds_copy) := ⟨rfl, rfl, rfl, by decide +kernel, rfl, by decide +kernel, by decide +kernel⟩
abbrev s_Deeds_forces : Stmt := (inClass (topS 4) 4)
abbrev N_Deeds_forces : List Str := ["self", "replica", "row", "taken", "result", "place", "in_force"]
abbrev P_Deeds_forces : List Str := ["self", "replica"]
theorem sc_Deeds_forces : FnScope N_Deeds_forces P_Deeds_forces (defScope s_Deeds_forces) := ⟨rfl, rfl, rfl, by decide +kernel, rfl, by decide +kernel, by decide +kernel⟩
abbrev s_Deeds_in_force : Stmt := (inClass (topS 4) 5)
abbrev N_Deeds_in_force : List Str := ["self", "replica", "place"]
abbrev P_Deeds_in_force : List Str := ["self", "replica", "place"]
theorem sc_Deeds_in_force : FnScope N_Deeds_in_force P_Deeds_in_force (defScope s_Deeds_in_force) := ⟨rfl, rfl, rfl, by decide +kernel, rfl, by decide +kernel, by decide +kernel⟩
abbrev s_Deeds_changes : Stmt := (inClass (topS 4) 6)
abbrev N_Deeds_changes : List Str := ["self", "module", "result", "replica", "deed", "in_force"]
abbrev P_Deeds_changes : List Str := ["self", "module"]
theorem sc_Deeds_changes : FnScope N_Deeds_changes P_Deeds_changes (defScope s_Deeds_changes) := ⟨rfl, rfl, rfl, by decide +kernel, rfl, by decide +kernel, by decide +kernel⟩
abbrev s_Deeds_modules : Stmt := (inClass (topS 4) 7)
abbrev N_Deeds_modules : List Str := ["self"]
abbrev P_Deeds_modules : List Str := ["self"]
theorem sc_Deeds_modules : FnScope N_Deeds_modules P_Deeds_modules (defScope s_Deeds_modules) := ⟨rfl, rfl, rfl, by decide +kernel, rfl, by decide +kernel, by decide +kernel⟩
abbrev s_Deeds_row : Stmt := (inClass (topS 4) 8)
abbrev N_Deeds_row : List Str := ["self", "module", "removed", "found", "replica", "deed", "in_force", "mark", "behind", "char", "places", "seen", "index"]
abbrev P_Deeds_row : List Str := ["self", "module"]
theorem sc_Deeds_row : FnScope N_Deeds_row P_Deeds_row (defScope s_Deeds_row) := ⟨rfl, rfl, rfl, by decide +kernel, rfl, by decide +kernel, by decide +kernel⟩
abbrev s_Deeds_text : Stmt := (inClass (topS 4) 9)
abbrev N_Deeds_text : List Str := ["self", "module", "_", "char", "seen"]
abbrev P_Deeds_text : List Str := ["self", "module"]
theorem sc_Deeds_text : FnScope N_Deeds_text P_Deeds_text (defScope s_Deeds_text) := ⟨rfl, rfl, rfl, by decide +kernel, rfl, by decide +kernel, by decide +kernel⟩
abbrev s_Deeds_last_number : Stmt := (inClass (topS 4) 10)
abbrev N_Deeds_last_number : List Str := ["self"]
abbrev P_Deeds_last_number : List Str := ["self"]
theorem sc_Deeds_last_number : FnScope N_Deeds_last_number P_Deeds_last_number (defScope s_Deeds_last_number) := ⟨rfl, rfl, rfl, by decide +kernel, rfl, by decide +kernel, by decide +kernel⟩
abbrev s_Deeds_fits : Stmt := (inClass (topS 4) 11)
abbrev N_Deeds_fits : List Str := ["self", "replica", "deed"]
abbrev P_Deeds_fits : List Str := ["self", "replica", "deed"]
theorem sc_Deeds_fits : FnScope N_Deeds_fits P_Deeds_fits (defScope s_Deeds_fits) := ⟨rfl, rfl, rfl, by decide +kernel, rfl, by decide +kernel, by decide +kernel⟩
abbrev s__law_mix : Stmt := (topS 6)
abbrev N__law_mix : List Str := ["cell", "k", "value"]
abbrev P__law_mix : List Str := ["cell", "k"]
theorem sc__law_mix : FnScope N__law_mix P__law_mix (defScope s__law_mix) := ⟨rfl, rfl, rfl, by decide +kernel, rfl, by decide +kernel, by decide +kernel⟩
abbrev s__law_draws : Stmt := (topS 7)
abbrev N__law_draws : List Str := ["script", "draws", "k", "cell", "place"]
abbrev P__law_draws : List Str := ["script"]
theorem sc__law_draws : FnScope N__law_draws P__law_draws (defScope s__law_draws) := ⟨rfl, rfl, rfl, by decide +kernel, rfl, by decide +kernel, by decide +kernel⟩
abbrev s__law_at : Stmt := (topS 8)
abbrev N__law_at : List Str := ["draws", "index"]
abbrev P__law_at : List Str := ["draws", "index"]
theorem sc__law_at : FnScope N__law_at P__law_at (defScope s__law_at) := ⟨rfl, rfl, rfl, by decide +kernel, rfl, by decide +kernel, by decide +kernel⟩
abbrev s__law_is_integer : Stmt := (topS 9)
abbrev N__law_is_integer : List Str := ["actual"]
abbrev P__law_is_integer : List Str := ["actual"]
theorem sc__law_is_integer : FnScope N__law_is_integer P__law_is_integer (defScope s__law_is_integer) := ⟨rfl, rfl, rfl, by decide +kernel, rfl, by decide +kernel, by decide +kernel⟩
abbrev s__law_same : Stmt := (topS 10)
abbrev N__law_same : List Str := ["actual", "expected", "k"]
abbrev P__law_same : List Str := ["actual", "expected"]
theorem sc__law_same : FnScope N__law_same P__law_same (defScope s__law_same) := ⟨rfl, rfl, rfl, by decide +kernel, rfl, by decide +kernel, by decide +kernel⟩
abbrev s__law_inserted : Stmt := (topS 11)
abbrev N__law_inserted : List Str := ["replica", "deed", "found", "behind", "k"]
abbrev P__law_inserted : List Str := ["replica", "deed"]
theorem sc__law_inserted : FnScope N__law_inserted P__law_inserted (defScope s__law_inserted) := ⟨rfl, rfl, rfl, by decide +kernel, rfl, by decide +kernel, by decide +kernel⟩
abbrev s__law_forces : Stmt := (topS 12)
abbrev N__law_forces : List Str := ["row", "forces", "k", "place", "takers", "j"]
abbrev P__law_forces : List Str := ["row"]
theorem sc__law_forces : FnScope N__law_forces P__law_forces (defScope s__law_forces) := ⟨rfl, rfl, rfl, by decide +kernel, rfl, by decide +kernel, by decide +kernel⟩
abbrev s__law_changes : Stmt := (topS 13)
abbrev N__law_changes : List Str := ["rows", "module", "found", "replica", "forces", "k"]
abbrev P__law_changes : List Str := ["rows", "module"]
theorem sc__law_changes : FnScope N__law_changes P__law_changes (defScope s__law_changes) := ⟨rfl, rfl, rfl, by decide +kernel, rfl, by decide +kernel, by decide +kernel⟩
abbrev s__law_row : Stmt := (topS 14)
abbrev N__law_row : List Str := ["rows", "module", "removed", "found", "replica", "deed", "force", "mark", "behind", "char", "row", "at", "each"]
abbrev P__law_row : List Str := ["rows", "module"]
theorem sc__law_row : FnScope N__law_row P__law_row (defScope s__law_row) := ⟨rfl, rfl, rfl, by decide +kernel, rfl, by decide +kernel, by decide +kernel⟩
abbrev s__law_last : Stmt := (topS 15)
abbrev N__law_last : List Str := ["rows", "last", "row", "deed"]
abbrev P__law_last : List Str := ["rows"]
theorem sc__law_last : FnScope N__law_last P__law_last (defScope s__law_last) := ⟨rfl, rfl, rfl, by decide +kernel, rfl, by decide +kernel, by decide +kernel⟩
abbrev s__law_modules : Stmt := (topS 16)
abbrev N__law_modules : List Str := []
abbrev P__law_modules : List Str := []
theorem sc__law_modules : FnScope N__law_modules P__law_modules (defScope s__law_modules) := ⟨rfl, rfl, rfl, by decide +kernel, rfl, by decide +kernel, by decide +kernel⟩
abbrev s__law_letters : Stmt := (topS 17)
abbrev N__law_letters : List Str := ["draws", "index", "chars", "text", "k"]
abbrev P__law_letters : List Str := ["draws", "index"]
theorem sc__law_letters : FnScope N__law_letters P__law_letters (defScope s__law_letters) := ⟨rfl, rfl, rfl, by decide +kernel, rfl, by decide +kernel, by decide +kernel⟩
abbrev s__law_deed : Stmt := (topS 18)
abbrev N__law_deed : List Str := ["draws", "index", "rows", "replica", "own", "module", "marks", "removed", "k", "behind", "number", "mark", "deed", "each"]
abbrev P__law_deed : List Str := ["draws", "index", "rows", "replica"]
theorem sc__law_deed : FnScope N__law_deed P__law_deed (defScope s__law_deed) := ⟨rfl, rfl, rfl, by decide +kernel, rfl, by decide +kernel, by decide +kernel⟩
abbrev s__law_visible : Stmt := (topS 19)
abbrev N__law_visible : List Str := ["rows", "counts", "k"]
abbrev P__law_visible : List Str := ["rows", "counts"]
theorem sc__law_visible : FnScope N__law_visible P__law_visible (defScope s__law_visible) := ⟨rfl, rfl, rfl, by decide +kernel, rfl, by decide +kernel, by decide +kernel⟩
abbrev s__law_triples : Stmt := (topS 20)
abbrev N__law_triples : List Str := ["draws", "start", "steps", "most", "k", "rows", "counts", "triples", "base", "replica", "other", "deed", "j"]
abbrev P__law_triples : List Str := ["draws", "start", "steps", "most"]
theorem sc__law_triples : FnScope N__law_triples P__law_triples (defScope s__law_triples) := ⟨rfl, rfl, rfl, by decide +kernel, rfl, by decide +kernel, by decide +kernel⟩
abbrev s__law_rows_of : Stmt := (topS 21)
abbrev N__law_rows_of : List Str := ["triples", "rows", "replica", "place", "deed", "k"]
abbrev P__law_rows_of : List Str := ["triples"]
theorem sc__law_rows_of : FnScope N__law_rows_of P__law_rows_of (defScope s__law_rows_of) := ⟨rfl, rfl, rfl, by decide +kernel, rfl, by decide +kernel, by decide +kernel⟩
abbrev s__law_deeds : Stmt := (topS 22)
abbrev N__law_deeds : List Str := ["triples", "deeds", "replica", "place", "deed"]
abbrev P__law_deeds : List Str := ["triples"]
theorem sc__law_deeds : FnScope N__law_deeds P__law_deeds (defScope s__law_deeds) := ⟨rfl, rfl, rfl, by decide +kernel, rfl, by decide +kernel, by decide +kernel⟩
abbrev s__law_marks : Stmt := (topS 23)
abbrev N__law_marks : List Str := ["deeds", "module", "row", "marks", "each"]
abbrev P__law_marks : List Str := ["deeds", "module"]
theorem sc__law_marks : FnScope N__law_marks P__law_marks (defScope s__law_marks) := ⟨rfl, rfl, rfl, by decide +kernel, rfl, by decide +kernel, by decide +kernel⟩
abbrev s__law_stands : Stmt := (topS 24)
abbrev N__law_stands : List Str := ["rows", "module", "marks", "count", "replica", "deed", "force", "mark", "behind", "char", "first", "last", "other"]
abbrev P__law_stands : List Str := ["rows", "module", "marks"]
theorem sc__law_stands : FnScope N__law_stands P__law_stands (defScope s__law_stands) := ⟨rfl, rfl, rfl, by decide +kernel, rfl, by decide +kernel, by decide +kernel⟩
abbrev s__law_mixed : Stmt := (topS 25)
abbrev N__law_mixed : List Str := ["draws", "rows", "mixed", "left", "k", "replica", "waiting", "row"]
abbrev P__law_mixed : List Str := ["draws", "rows"]
theorem sc__law_mixed : FnScope N__law_mixed P__law_mixed (defScope s__law_mixed) := ⟨rfl, rfl, rfl, by decide +kernel, rfl, by decide +kernel, by decide +kernel⟩
abbrev s_law : Stmt := (topS 26)
abbrev N_law : List Str := ["script", "draws", "count", "triples", "rows", "first", "second", "third", "replica", "deed", "mixed", "module", "marks", "place", "k", "before", "behind", "mark"]
abbrev P_law : List Str := ["script"]
theorem sc_law : FnScope N_law P_law (defScope s_law) := ⟨rfl, rfl, rfl, by decide +kernel, rfl, by decide +kernel, by decide +kernel⟩
structure Txt (K : PySem.W.Frag) (mg : Str → Option Value) (base : Heap) where
  a_Deeds : Addr
  cl_Deeds : Cls K a_Deeds
  g_Deeds : mg "Deeds" = some (.ref a_Deeds)
  n_Deeds_rows : NoAttr K a_Deeds "rows"
  a__wall : Addr
  d__wall : FuncData
  F__wall : Fun K "_wall" "_wall" s__wall a__wall d__wall
  b__wall : Binds K d__wall P__wall []
  g__wall : mg "_wall" = some (.ref a__wall)
  a_inserted : Addr
  d_inserted : FuncData
  F_inserted : Fun K "inserted" "inserted" s_inserted a_inserted d_inserted
  b_inserted : Binds K d_inserted P_inserted []
  g_inserted : mg "inserted" = some (.ref a_inserted)
  a_Deeds___init__ : Addr
  d_Deeds___init__ : FuncData
  F_Deeds___init__ : Fun K "__init__" "Deeds.__init__" s_Deeds___init__ a_Deeds___init__ d_Deeds___init__
  b_Deeds___init__ : Binds K d_Deeds___init__ P_Deeds___init__ []
  M_Deeds : Mk K a_Deeds a_Deeds___init__
  a_Deeds_counts : Addr
  d_Deeds_counts : FuncData
  F_Deeds_counts : Fun K "counts" "Deeds.counts" s_Deeds_counts a_Deeds_counts d_Deeds_counts
  b_Deeds_counts : Binds K d_Deeds_counts P_Deeds_counts []
  m_Deeds_counts : Meth K a_Deeds "counts" a_Deeds_counts
  a_Deeds_add : Addr
  d_Deeds_add : FuncData
  F_Deeds_add : Fun K "add" "Deeds.add" s_Deeds_add a_Deeds_add d_Deeds_add
  b_Deeds_add : Binds K d_Deeds_add P_Deeds_add []
  m_Deeds_add : Meth K a_Deeds "add" a_Deeds_add
  a_Deeds_copy : Addr
  d_Deeds_copy : FuncData
  F_Deeds_copy : Fun K "copy" "Deeds.copy" s_Deeds_copy a_Deeds_copy d_Deeds_copy
  b_Deeds_copy : Binds K d_Deeds_copy P_Deeds_copy []
  m_Deeds_copy : Meth K a_Deeds "copy" a_Deeds_copy
  a_Deeds_forces : Addr
  d_Deeds_forces : FuncData
  F_Deeds_forces : Fun K "forces" "Deeds.forces" s_Deeds_forces a_Deeds_forces d_Deeds_forces
  b_Deeds_forces : Binds K d_Deeds_forces P_Deeds_forces []
  m_Deeds_forces : Meth K a_Deeds "forces" a_Deeds_forces
  a_Deeds_in_force : Addr
  d_Deeds_in_force : FuncData
  F_Deeds_in_force : Fun K "in_force" "Deeds.in_force" s_Deeds_in_force a_Deeds_in_force d_Deeds_in_force
  b_Deeds_in_force : Binds K d_Deeds_in_force P_Deeds_in_force []
  m_Deeds_in_force : Meth K a_Deeds "in_force" a_Deeds_in_force
  a_Deeds_changes : Addr
  d_Deeds_changes : FuncData
  F_Deeds_changes : Fun K "changes" "Deeds.changes" s_Deeds_changes a_Deeds_changes d_Deeds_changes
  b_Deeds_changes : Binds K d_Deeds_changes P_Deeds_changes []
  m_Deeds_changes : Meth K a_Deeds "changes" a_Deeds_changes
  a_Deeds_modules : Addr
  d_Deeds_modules : FuncData
  F_Deeds_modules : Fun K "modules" "Deeds.modules" s_Deeds_modules a_Deeds_modules d_Deeds_modules
  b_Deeds_modules : Binds K d_Deeds_modules P_Deeds_modules []
  m_Deeds_modules : Meth K a_Deeds "modules" a_Deeds_modules
  a_Deeds_row : Addr
  d_Deeds_row : FuncData
  F_Deeds_row : Fun K "row" "Deeds.row" s_Deeds_row a_Deeds_row d_Deeds_row
  co_Deeds_row : Addr
  ta_Deeds_row : Addr
  C_Deeds_row : Cod K "row" "Deeds.row" s_Deeds_row a_Deeds_row d_Deeds_row co_Deeds_row
  tb_Deeds_row : LamX.TabB base mg co_Deeds_row ta_Deeds_row
  b_Deeds_row : Binds K d_Deeds_row P_Deeds_row []
  m_Deeds_row : Meth K a_Deeds "row" a_Deeds_row
  a_Deeds_text : Addr
  d_Deeds_text : FuncData
  F_Deeds_text : Fun K "text" "Deeds.text" s_Deeds_text a_Deeds_text d_Deeds_text
  b_Deeds_text : Binds K d_Deeds_text P_Deeds_text []
  m_Deeds_text : Meth K a_Deeds "text" a_Deeds_text
  a_Deeds_last_number : Addr
  d_Deeds_last_number : FuncData
  F_Deeds_last_number : Fun K "last_number" "Deeds.last_number" s_Deeds_last_number a_Deeds_last_number d_Deeds_last_number
  b_Deeds_last_number : Binds K d_Deeds_last_number P_Deeds_last_number []
  m_Deeds_last_number : Meth K a_Deeds "last_number" a_Deeds_last_number
  a_Deeds_fits : Addr
  d_Deeds_fits : FuncData
  F_Deeds_fits : Fun K "fits" "Deeds.fits" s_Deeds_fits a_Deeds_fits d_Deeds_fits
  b_Deeds_fits : Binds K d_Deeds_fits P_Deeds_fits []
  m_Deeds_fits : Meth K a_Deeds "fits" a_Deeds_fits
  a__law_mix : Addr
  d__law_mix : FuncData
  F__law_mix : Fun K "_law_mix" "_law_mix" s__law_mix a__law_mix d__law_mix
  b__law_mix : Binds K d__law_mix P__law_mix []
  g__law_mix : mg "_law_mix" = some (.ref a__law_mix)
  a__law_draws : Addr
  d__law_draws : FuncData
  F__law_draws : Fun K "_law_draws" "_law_draws" s__law_draws a__law_draws d__law_draws
  b__law_draws : Binds K d__law_draws P__law_draws []
  g__law_draws : mg "_law_draws" = some (.ref a__law_draws)
  a__law_at : Addr
  d__law_at : FuncData
  F__law_at : Fun K "_law_at" "_law_at" s__law_at a__law_at d__law_at
  b__law_at : Binds K d__law_at P__law_at []
  g__law_at : mg "_law_at" = some (.ref a__law_at)
  a__law_is_integer : Addr
  d__law_is_integer : FuncData
  F__law_is_integer : Fun K "_law_is_integer" "_law_is_integer" s__law_is_integer a__law_is_integer d__law_is_integer
  b__law_is_integer : Binds K d__law_is_integer P__law_is_integer []
  g__law_is_integer : mg "_law_is_integer" = some (.ref a__law_is_integer)
  a__law_same : Addr
  d__law_same : FuncData
  F__law_same : Fun K "_law_same" "_law_same" s__law_same a__law_same d__law_same
  b__law_same : Binds K d__law_same P__law_same []
  g__law_same : mg "_law_same" = some (.ref a__law_same)
  a__law_inserted : Addr
  d__law_inserted : FuncData
  F__law_inserted : Fun K "_law_inserted" "_law_inserted" s__law_inserted a__law_inserted d__law_inserted
  b__law_inserted : Binds K d__law_inserted P__law_inserted []
  g__law_inserted : mg "_law_inserted" = some (.ref a__law_inserted)
  a__law_forces : Addr
  d__law_forces : FuncData
  F__law_forces : Fun K "_law_forces" "_law_forces" s__law_forces a__law_forces d__law_forces
  b__law_forces : Binds K d__law_forces P__law_forces []
  g__law_forces : mg "_law_forces" = some (.ref a__law_forces)
  a__law_changes : Addr
  d__law_changes : FuncData
  F__law_changes : Fun K "_law_changes" "_law_changes" s__law_changes a__law_changes d__law_changes
  b__law_changes : Binds K d__law_changes P__law_changes []
  g__law_changes : mg "_law_changes" = some (.ref a__law_changes)
  a__law_row : Addr
  d__law_row : FuncData
  F__law_row : Fun K "_law_row" "_law_row" s__law_row a__law_row d__law_row
  co__law_row : Addr
  ta__law_row : Addr
  C__law_row : Cod K "_law_row" "_law_row" s__law_row a__law_row d__law_row co__law_row
  tb__law_row : LamX.TabB base mg co__law_row ta__law_row
  b__law_row : Binds K d__law_row P__law_row []
  g__law_row : mg "_law_row" = some (.ref a__law_row)
  a__law_last : Addr
  d__law_last : FuncData
  F__law_last : Fun K "_law_last" "_law_last" s__law_last a__law_last d__law_last
  b__law_last : Binds K d__law_last P__law_last []
  g__law_last : mg "_law_last" = some (.ref a__law_last)
  a__law_modules : Addr
  d__law_modules : FuncData
  F__law_modules : Fun K "_law_modules" "_law_modules" s__law_modules a__law_modules d__law_modules
  b__law_modules : Binds K d__law_modules P__law_modules []
  g__law_modules : mg "_law_modules" = some (.ref a__law_modules)
  a__law_letters : Addr
  d__law_letters : FuncData
  F__law_letters : Fun K "_law_letters" "_law_letters" s__law_letters a__law_letters d__law_letters
  b__law_letters : Binds K d__law_letters P__law_letters []
  g__law_letters : mg "_law_letters" = some (.ref a__law_letters)
  a__law_deed : Addr
  d__law_deed : FuncData
  F__law_deed : Fun K "_law_deed" "_law_deed" s__law_deed a__law_deed d__law_deed
  b__law_deed : Binds K d__law_deed P__law_deed []
  g__law_deed : mg "_law_deed" = some (.ref a__law_deed)
  a__law_visible : Addr
  d__law_visible : FuncData
  F__law_visible : Fun K "_law_visible" "_law_visible" s__law_visible a__law_visible d__law_visible
  b__law_visible : Binds K d__law_visible P__law_visible []
  g__law_visible : mg "_law_visible" = some (.ref a__law_visible)
  a__law_triples : Addr
  d__law_triples : FuncData
  F__law_triples : Fun K "_law_triples" "_law_triples" s__law_triples a__law_triples d__law_triples
  b__law_triples : Binds K d__law_triples P__law_triples []
  g__law_triples : mg "_law_triples" = some (.ref a__law_triples)
  a__law_rows_of : Addr
  d__law_rows_of : FuncData
  F__law_rows_of : Fun K "_law_rows_of" "_law_rows_of" s__law_rows_of a__law_rows_of d__law_rows_of
  b__law_rows_of : Binds K d__law_rows_of P__law_rows_of []
  g__law_rows_of : mg "_law_rows_of" = some (.ref a__law_rows_of)
  a__law_deeds : Addr
  d__law_deeds : FuncData
  F__law_deeds : Fun K "_law_deeds" "_law_deeds" s__law_deeds a__law_deeds d__law_deeds
  b__law_deeds : Binds K d__law_deeds P__law_deeds []
  g__law_deeds : mg "_law_deeds" = some (.ref a__law_deeds)
  a__law_marks : Addr
  d__law_marks : FuncData
  F__law_marks : Fun K "_law_marks" "_law_marks" s__law_marks a__law_marks d__law_marks
  b__law_marks : Binds K d__law_marks P__law_marks []
  g__law_marks : mg "_law_marks" = some (.ref a__law_marks)
  a__law_stands : Addr
  d__law_stands : FuncData
  F__law_stands : Fun K "_law_stands" "_law_stands" s__law_stands a__law_stands d__law_stands
  b__law_stands : Binds K d__law_stands P__law_stands []
  g__law_stands : mg "_law_stands" = some (.ref a__law_stands)
  a__law_mixed : Addr
  d__law_mixed : FuncData
  F__law_mixed : Fun K "_law_mixed" "_law_mixed" s__law_mixed a__law_mixed d__law_mixed
  b__law_mixed : Binds K d__law_mixed P__law_mixed []
  g__law_mixed : mg "_law_mixed" = some (.ref a__law_mixed)
  a_law : Addr
  d_law : FuncData
  F_law : Fun K "law" "law" s_law a_law d_law
  b_law : Binds K d_law P_law []
  g_law : mg "law" = some (.ref a_law)
  z_len : mg "len" = none
  z_min : mg "min" = none
  z_max : mg "max" = none
  z_int : mg "int" = none
  z_list : mg "list" = none
  z_range : mg "range" = none
  z_isinstance : mg "isinstance" = none
  z_bool : mg "bool" = none
  z_str : mg "str" = none
  z_tuple : mg "tuple" = none
  z_zip : mg "zip" = none
  z_enumerate : mg "enumerate" = none
  z_sorted : mg "sorted" = none
  z_sum : mg "sum" = none
  u_REPLICAS : Value
  c_REPLICAS : mg "REPLICAS" = some u_REPLICAS
  r_REPLICAS : RelV (.int 8) u_REPLICAS
  dt : ta_Deeds_row ≠ ta__law_row

section
variable {P : Program} {w : World} {K : PySem.W.Frag} {mg : Str → Option Value} {base : Heap}

/-! ### draws -/

def sp__law_mix : Sp := fun vs H Q _ => ∃ c k : Int, vs = [.int c, .int k] ∧ ∀ n, 0 ≤ n → n < 9973 → Q (.int n) H

theorem ok__law_mix (T : Txt K mg base) : FnOk P w K mg base CX0 1 T.a__law_mix T.d__law_mix P__law_mix sp__law_mix := by
  refine T.F__law_mix.ok sc__law_mix (fun vs H Q E h => ?_) (fun cdv A outer s H vs Q E hr h => ?_)
  · obtain ⟨c, k, rfl, _⟩ := h
    rfl
  · obtain ⟨c, k, rfl, q⟩ := h
    refine ⟨_, (pss_cons (ps_set (i := 2) sc__law_mix.nd rfl (Or.inl rfl) (pe_op op_mod (pe_callTy call_intU (by rfl) T.z_int (by decide +kernel) (pa_cons (pe_op op_addU (pe_op op_addU (pe_op op_mulU (pe_callTy call_intU (by rfl) T.z_int (by decide +kernel) (pa_cons (pv 0) pa_nil)) pe_int) (pe_op op_mulU (pv 1) pe_int)) pe_int) pa_nil)) pe_int))
        (pss_cons (ps_set (i := 2) sc__law_mix.nd rfl (Or.inl rfl) (pe_op op_mod (pe_callTy call_intU (by rfl) T.z_int (by decide +kernel) (pa_cons (pe_op op_addU (pe_op op_addU (pe_op op_mulU (pv 2) (pv 2)) (pe_op op_mulU (pv 1) pe_int)) pe_int) pa_nil)) pe_int))
        (pss_one (ps_ret (pe_op op_mod (pe_op op_fdiv (pv 2) pe_int) pe_int))))), ?_⟩
    walk_at "z"
    refine q _ ?_ ?_ <;> omega
def DrawsOk (ds : List Int) : Prop := (∀ d ∈ ds, 0 ≤ d ∧ d < 9973) ∧ ds.length ≤ 3780
def sp__law_draws (K : PySem.W.Frag) : Sp := fun vs H Q _ => ∃ (a : Addr) (ns : List Int), vs = [.ref a] ∧ SqL K H a (ns.map V.int) ∧ ∀ (p : Addr) (H' : Hp) (ds : List Int), Same H H' → H p = none → H' p = some (.lst (ds.map V.int)) → DrawsOk ds → Q (.ref p) H'

theorem ok__law_draws (T : Txt K mg base) : FnOk P w K mg base CX0 2 T.a__law_draws T.d__law_draws P__law_draws (sp__law_draws K) := by
  refine T.F__law_draws.ok sc__law_draws (fun vs H Q E h => ?_) (fun cdv A outer s H vs Q E hr h => ?_)
  · obtain ⟨a, ns, rfl, _⟩ := h
    rfl
  · obtain ⟨a, ns, rfl, hS, q⟩ := h
    refine ⟨_, (pss_cons (ps_set (i := 1) sc__law_draws.nd rfl (Or.inl rfl) (pe_lst pa_nil))
        (pss_cons (ps_for PassesOwn.never rfl (pi_range1 (by rfl) T.z_range (pa_cons (pe_callB (call_min2U rfl) (by rfl) T.z_min (by decide +kernel) (pa_cons pe_int (pa_cons (pe_callB call_lenU (by rfl) T.z_len PySem.boot_len (pa_cons (pv 0) pa_nil)) pa_nil))) pa_nil)) (pg_name (i := 2) sc__law_draws.nd rfl (Or.inl rfl))
          (pss_cons (ps_set (i := 3) sc__law_draws.nd rfl (Or.inl rfl) (pe_callTy call_intU (by rfl) T.z_int (by decide +kernel) (pa_cons (pe_ix ix_seq (pv 0) (pv 2) (fun _ _ => rfl)) pa_nil)))
        (pss_one (ps_if (pt_cmpR op_lt (pv 3) (pe_op op_pow pe_int pe_int) (nomark _))
          (pss_one (ps_expr (pe_bm PySem.F.plainAttrs_list PySem.F.slot_list_append PySem.F.type_list_append mt_append (pv 1) (pa_cons (pe_call (ok__law_mix T) (hr.mono (by omega)) (by rfl) T.g__law_mix T.F__law_mix.kp T.b__law_mix .nil pass0 (pa_cons (pv 3) (pa_cons (pv 2) pa_nil))) pa_nil))))
          (pss_one (ps_for PassesOwn.never rfl (pi_range1 (by rfl) T.z_range (pa_cons pe_int pa_nil)) (pg_name (i := 4) sc__law_draws.nd rfl (Or.inl rfl))
          (pss_one (ps_if (pt_cmpR op_gt (pv 3) pe_int (nomark _))
          (pss_cons (ps_expr (pe_bm PySem.F.plainAttrs_list PySem.F.slot_list_append PySem.F.type_list_append mt_append (pv 1) (pa_cons (pe_op op_mod (pe_callTy call_intU (by rfl) T.z_int (by decide +kernel) (pa_cons (pv 3) pa_nil)) pe_int) pa_nil)))
        (pss_one (ps_set (i := 3) sc__law_draws.nd rfl (Or.inl rfl) (pe_op op_fdiv (pv 3) pe_int))))
          pss_nil))))))))
        (pss_one (ps_ret (pv 1))))), ?_⟩
    walk_at "z"
    refine g_new (Nat.zero_le _) (Own.start H) fun p H1 np O => ?_
    walk_at "z"
    refine g_lenL (O.fr.seq hS) ?_
    walk_at "z"
    have hlm : (List.map V.int ns).length = ns.length := List.length_map ..
    refine forB_rng0 (fun i σ H' => ∃ (ds : List Int) (x2 x3 x4 : Option V), σ = [some (.ref a), some (.ref p), x2, x3, x4] ∧ (∀ d ∈ ds, 0 ≤ d ∧ d < 9973) ∧ ds.length ≤ 60 * i ∧ Own H [(p, .lst (ds.map V.int))] H') ?_ ?_ ?_
    · exact ⟨[], none, none, none, rfl, by simp, by simp, O⟩
    · rintro i σ H2 hi ⟨ds, x2, x3, x4, rfl, hd, hl, O⟩
      walk_at "z"
      refine g_ixL (O.fr.seq hS) (atI_int (by omega) (by omega)) ?_
      walk_at "z"
      refine ite_d (fun hc => ?_) (fun hc => ?_)
      · walk_at "z"
        refine g_tyL (O.lst 0) ?_
        walk_at "z"
        refine ⟨_, _, rfl, fun n h0 h1 => ?_⟩
        walk_at "z"
        refine g_append O 0 rfl (small_of (by rw [List.length_map]; omega)) fun H3 O => ?_
        refine ⟨ds ++ [n], _, _, _, rfl, ?_, by rw [List.length_append]; show ds.length + 1 ≤ _; omega, by rw [List.map_append]; exact O⟩
        intro d hm
        rcases List.mem_append.mp hm with hm | hm
        · exact hd d hm
        · rw [List.mem_singleton.mp hm]; exact ⟨h0, h1⟩
      · walk_at "z"
        refine forB_rng0 (fun j σ H' => ∃ (ds : List Int) (c : Int) (x4 : Option V), σ = [some (.ref a), some (.ref p), some (.int (i : Int)), some (.int c), x4] ∧ (∀ d ∈ ds, 0 ≤ d ∧ d < 9973) ∧ ds.length ≤ 60 * i + j ∧ Own H [(p, .lst (ds.map V.int))] H') ?_ ?_ ?_
        · exact ⟨ds, _, x4, rfl, hd, hl, O⟩
        · rintro j σ H3 hj ⟨ds, c, x4, rfl, hd, hl, O⟩
          walk_at "z"
          refine ite_d (fun hc => ?_) (fun hc => ?_)
          · walk_at "z"
            refine g_tyL (O.lst 0) ?_
            walk_at "z"
            refine g_append O 0 rfl (small_of (by rw [List.length_map]; omega)) fun H3 O => ?_
            walk_at "z"
            refine ⟨ds ++ [_], _, _, rfl, ?_, by rw [List.length_append]; show ds.length + 1 ≤ _; omega, by rw [List.map_append]; exact O⟩
            intro d hm
            rcases List.mem_append.mp hm with hm | hm
            · exact hd d hm
            · rw [List.mem_singleton.mp hm]; exact ⟨by omega, by omega⟩
          · exact ⟨ds, c, _, rfl, hd, by omega, O⟩
        · rintro σ H3 ⟨ds, c, x4, rfl, hd, hl, O⟩
          exact ⟨ds, _, _, _, rfl, hd, by omega, O⟩
    · rintro σ H2 ⟨ds, x2, x3, x4, rfl, hd, hl, O⟩
      walk_at "z"
      exact q p H2 ds O.fr np (O.get 0) ⟨hd, by omega⟩
def sp__law_at (K : PySem.W.Frag) : Sp := fun vs H Q _ => ∃ (a : Addr) (ds : List Int) (i : Int), vs = [.ref a, .int i] ∧ SqL K H a (ds.map V.int) ∧ DrawsOk ds ∧ 0 ≤ i ∧ ∀ n, 0 ≤ n → n < 9973 → Q (.int n) H

theorem ok__law_at (T : Txt K mg base) : FnOk P w K mg base CX0 2 T.a__law_at T.d__law_at P__law_at (sp__law_at K) := by
  refine T.F__law_at.ok sc__law_at (fun vs H Q E h => ?_) (fun cdv A outer s H vs Q E hr h => ?_)
  · obtain ⟨a, ds, i, rfl, _⟩ := h
    rfl
  · obtain ⟨a, ds, i, rfl, hS, hd, hi, q⟩ := h
    refine ⟨_, (pss_cons (ps_if (pt_cmpR op_lt (pv 1) (pe_callB call_lenU (by rfl) T.z_len PySem.boot_len (pa_cons (pv 0) pa_nil)) (nomark _))
          (pss_one (ps_ret (pe_ix ix_seq (pv 0) (pv 1) (fun _ _ => rfl))))
          pss_nil)
        (pss_cons (ps_if (pt_cmpR (op_eqU (hu64 hr)) (pe_callB call_lenU (by rfl) T.z_len PySem.boot_len (pa_cons (pv 0) pa_nil)) pe_int (nomark _))
          (pss_one (ps_ret (pe_call (ok__law_mix T) (hr.mono (by omega)) (by rfl) T.g__law_mix T.F__law_mix.kp T.b__law_mix .nil pass0 (pa_cons (pv 1) (pa_cons pe_int pa_nil)))))
          pss_nil)
        (pss_one (ps_ret (pe_call (ok__law_mix T) (hr.mono (by omega)) (by rfl) T.g__law_mix T.F__law_mix.kp T.b__law_mix .nil pass0 (pa_cons (pe_op op_addU (pe_ix ix_seq (pv 0) (pe_op op_mod (pe_callTy call_intU (by rfl) T.z_int (by decide +kernel) (pa_cons (pv 1) pa_nil)) (pe_callB call_lenU (by rfl) T.z_len PySem.boot_len (pa_cons (pv 0) pa_nil))) (fun _ _ => rfl)) (pe_op op_mulU (pv 1) pe_int)) (pa_cons (pv 1) pa_nil))))))), ?_⟩
    have hlm : (List.map V.int ds).length = ds.length := List.length_map ..
    have hb : ∀ j : Nat, 0 ≤ ds.getD j 0 ∧ ds.getD j 0 < 9973 := fun j => by
      rw [List.getD_eq_getElem?_getD]
      cases e : ds[j]? with
      | none => exact ⟨by decide, by decide⟩
      | some x => exact hd.1 x (List.mem_of_getElem? e)
    walk_at "z"
    refine g_lenL hS ?_
    walk_at "z"
    refine ite_d (fun hc => ?_) (fun hc => ?_)
    · walk_at "z"
      refine g_ixL hS (atI_int hi (by omega)) ?_
      exact q _ (hb _).1 (hb _).2
    · walk_at "z"
      refine g_lenL hS ?_
      walk_at "z"
      refine ite_d (fun hc2 => ?_) (fun hc2 => ?_)
      · walk_at "z"
        exact ⟨_, _, rfl, q⟩
      · walk_at "z"
        refine g_lenL hS ?_
        walk_at "z"
        have h1 : 0 ≤ i % (((List.map V.int ds).length : Nat) : Int) := Int.emod_nonneg _ (by omega)
        have h2 : i % (((List.map V.int ds).length : Nat) : Int) < (((List.map V.int ds).length : Nat) : Int) := Int.emod_lt_of_pos _ (by omega)
        refine g_ixL hS (atI_int h1 (by omega)) ?_
        walk_at "z"
        exact ⟨_, _, rfl, q⟩
def isInt : PyData → Bool
  | .int _ => true
  | _ => false
def sp__law_is_integer (K : PySem.W.Frag) : Sp := fun vs H Q _ => ∃ (x : V) (d : PyData), vs = [x] ∧ Dp K H x d ∧ Q (.bl (isInt d)) H

theorem ok__law_is_integer (T : Txt K mg base) : FnOk P w K mg base CX0 1 T.a__law_is_integer T.d__law_is_integer P__law_is_integer (sp__law_is_integer K) := by
  refine T.F__law_is_integer.ok sc__law_is_integer (fun vs H Q E h => ?_) (fun cdv A outer s H vs Q E hr h => ?_)
  · obtain ⟨x, d, rfl, _⟩ := h
    rfl
  · obtain ⟨x, d, rfl, hx, q⟩ := h
    refine ⟨_, (pss_one (ps_ret (pe_and (pe_callB call_isiU (by rfl) T.z_isinstance (by decide +kernel) (pa_cons (pv 0) (pa_cons (pe_bltn (v := .ty "int") (by rfl) T.z_int (by decide +kernel) rfl) pa_nil))) (pe_one (pe_not (pe_callB call_isiU (by rfl) T.z_isinstance (by decide +kernel) (pa_cons (pv 0) (pa_cons (pe_bltn (v := .ty "bool") (by rfl) T.z_bool (by decide +kernel) rfl) pa_nil)))))))), ?_⟩
    walk_at "z"
    cases hx with
    | non => exact g_isi (b := false) .non rfl (by walk_at "z"; exact q)
    | bl b => exact g_isi (b := true) (.bl b) rfl (by walk_at "z"; exact iteT (by walk_at "z"; exact g_isi (b := true) (.bl b) rfl (by walk_at "z"; exact q)))
    | int i => exact g_isi (b := true) (.int i) rfl (by walk_at "z"; exact iteT (by walk_at "z"; exact g_isi (b := false) (.int i) rfl (by walk_at "z"; exact q)))
    | str s => exact g_isi (b := false) (.str s) rfl (by walk_at "z"; exact q)
    | lst h1 h2 => exact g_isi (b := false) (.lst h1 h2) rfl (by walk_at "z"; exact q)
    | tup h1 h2 => exact g_isi (b := false) (.tup h1 h2) rfl (by walk_at "z"; exact q)
def sp__law_same (n : Nat) (K : PySem.W.Frag) : Sp := fun vs H Q _ => ∃ (x y : V) (d e : PyData), vs = [x, y] ∧ Dp K H x d ∧ Dp K H y e ∧ Dl n e ∧ ∀ b H', (b = true ↔ d = e) → Same H H' → Q (.bl b) H'

theorem step__law_same (T : Txt K mg base) (n : Nat) (ih : FnOk P w K mg base CX0 (n + 1) T.a__law_same T.d__law_same P__law_same (sp__law_same n K)) : FnOk P w K mg base CX0 (n + 2) T.a__law_same T.d__law_same P__law_same (sp__law_same (n + 1) K) := by
  refine T.F__law_same.ok sc__law_same (fun vs H Q E h => ?_) (fun cdv A outer s H vs Q E hr h => ?_)
  · obtain ⟨x, y, d, e, rfl, _⟩ := h
    rfl
  · obtain ⟨x, y, d, e, rfl, hx, hy, he, q⟩ := h
    refine ⟨_, (pss_cons (ps_if (pt_val (pe_callB call_isiU (by rfl) T.z_isinstance (by decide +kernel) (pa_cons (pv 1) (pa_cons (pe_tup (pa_cons (pe_bltn (v := .ty "list") (by rfl) T.z_list (by decide +kernel) rfl) (pa_cons (pe_bltn (v := .ty "tuple") (by rfl) T.z_tuple (by decide +kernel) rfl) pa_nil))) pa_nil))))
          (pss_cons (ps_if (PW.pt (pw_or (pt_cmpR (op_neU (hu64 hr)) (pe_callB call_isiU (by rfl) T.z_isinstance (by decide +kernel) (pa_cons (pv 1) (pa_cons (pe_bltn (v := .ty "list") (by rfl) T.z_list (by decide +kernel) rfl) pa_nil))) (pe_callB call_isiU (by rfl) T.z_isinstance (by decide +kernel) (pa_cons (pv 0) (pa_cons (pe_bltn (v := .ty "list") (by rfl) T.z_list (by decide +kernel) rfl) pa_nil))) (nomark _)) (pw_or1 (pt_cmpR (op_neU (hu64 hr)) (pe_callB call_isiU (by rfl) T.z_isinstance (by decide +kernel) (pa_cons (pv 1) (pa_cons (pe_bltn (v := .ty "tuple") (by rfl) T.z_tuple (by decide +kernel) rfl) pa_nil))) (pe_callB call_isiU (by rfl) T.z_isinstance (by decide +kernel) (pa_cons (pv 0) (pa_cons (pe_bltn (v := .ty "tuple") (by rfl) T.z_tuple (by decide +kernel) rfl) pa_nil))) (nomark _)))))
          (pss_one (ps_ret pe_bl))
          pss_nil)
        (pss_cons (ps_if (pt_cmpR (op_neU (hu64 hr)) (pe_callB call_lenU (by rfl) T.z_len PySem.boot_len (pa_cons (pv 0) pa_nil)) (pe_callB call_lenU (by rfl) T.z_len PySem.boot_len (pa_cons (pv 1) pa_nil)) (nomark _))
          (pss_one (ps_ret pe_bl))
          pss_nil)
        (pss_cons (ps_for PassesOwn.never rfl (pi_range1 (by rfl) T.z_range (pa_cons (pe_callB call_lenU (by rfl) T.z_len PySem.boot_len (pa_cons (pv 1) pa_nil)) pa_nil)) (pg_name (i := 2) sc__law_same.nd rfl (Or.inl rfl))
          (pss_one (ps_if (pt_not (pt_val (pe_call ih (hr.mono (by omega)) (by rfl) T.g__law_same T.F__law_same.kp T.b__law_same .nil pass0 (pa_cons (pe_ix ix_seq (pv 0) (pv 2) (fun _ _ => rfl)) (pa_cons (pe_ix ix_seq (pv 1) (pv 2) (fun _ _ => rfl)) pa_nil)))))
          (pss_one (ps_ret pe_bl))
          pss_nil)))
        (pss_one (ps_ret pe_bl)))))
          pss_nil)
        (pss_cons (ps_if (pt_cmpR op_isNU (pv 1) pe_non (nomark _))
          (pss_one (ps_ret (pe_cmpR op_isNU (pv 0) pe_non (nomark _))))
          pss_nil)
        (pss_cons (ps_if (pt_val (pe_callB call_isiU (by rfl) T.z_isinstance (by decide +kernel) (pa_cons (pv 1) (pa_cons (pe_bltn (v := .ty "bool") (by rfl) T.z_bool (by decide +kernel) rfl) pa_nil))))
          (pss_one (ps_ret (pe_and (pe_callB call_isiU (by rfl) T.z_isinstance (by decide +kernel) (pa_cons (pv 0) (pa_cons (pe_bltn (v := .ty "bool") (by rfl) T.z_bool (by decide +kernel) rfl) pa_nil))) (pe_one (pe_cmpR (op_eqU (hu64 hr)) (pv 0) (pv 1) (nomark _))))))
          pss_nil)
        (pss_cons (ps_if (pt_val (pe_callB call_isiU (by rfl) T.z_isinstance (by decide +kernel) (pa_cons (pv 1) (pa_cons (pe_bltn (v := .ty "int") (by rfl) T.z_int (by decide +kernel) rfl) pa_nil))))
          (pss_one (ps_ret (pe_and (pe_call (ok__law_is_integer T) (hr.mono (by omega)) (by rfl) T.g__law_is_integer T.F__law_is_integer.kp T.b__law_is_integer .nil pass0 (pa_cons (pv 0) pa_nil)) (pe_one (pe_cmpR (op_eqU (hu64 hr)) (pv 0) (pv 1) (nomark _))))))
          pss_nil)
        (pss_one (ps_ret (pe_and (pe_callB call_isiU (by rfl) T.z_isinstance (by decide +kernel) (pa_cons (pv 0) (pa_cons (pe_bltn (v := .ty "str") (by rfl) T.z_str (by decide +kernel) rfl) pa_nil))) (pe_one (pe_cmpR (op_eqU (hu64 hr)) (pv 0) (pv 1) (nomark _)))))))))), ?_⟩
    walk_at "z"
    refine g_new (by decide) (Own.start H) fun t H1 nt O => ?_
    walk_at "z"
    have q : ∀ b H', (b = true ↔ d = e) → Same H1 H' → Q (.bl b) H' := fun b H' hb e => q b H' hb (O.fr.trans e)
    have hx := dp_ex O.fr hx
    have hy := dp_ex O.fr hy
    cases hy with
    | non =>
      refine g_isi2 (O.get 0) .non rfl rfl ?_
      walk_at "z"
      refine iteF ?_
      walk_at "z"
      refine ite_d (fun _ => ?_) (fun h => absurd rfl h)
      walk_at "z"
      refine q _ _ ?_ (Same.refl _)
      cases hx <;> simp
    | bl b =>
      refine g_isi2 (O.get 0) (.bl b) rfl rfl ?_
      walk_at "z"
      refine iteF ?_
      walk_at "z"
      refine ite_d (fun h => nomatch h) (fun _ => ?_)
      walk_at "z"
      refine g_isi (.bl b) rfl ?_
      walk_at "z"
      refine iteT ?_
      walk_at "z"
      cases hx with
      | bl b' =>
        refine g_isi (.bl b') rfl ?_
        walk_at "z"
        refine iteT ?_
        walk_at "z"
        refine g_eqB (q _ _ ?_ (Same.refl _))
        simp
      | non => exact g_isi (b := false) .non rfl (by walk_at "z"; exact iteF (q _ _ (by simp) (Same.refl _)))
      | int i => exact g_isi (b := false) (.int i) rfl (by walk_at "z"; exact iteF (q _ _ (by simp) (Same.refl _)))
      | str s => exact g_isi (b := false) (.str s) rfl (by walk_at "z"; exact iteF (q _ _ (by simp) (Same.refl _)))
      | lst h1 h2 => exact g_isi (b := false) (.lst h1 h2) rfl (by walk_at "z"; exact iteF (q _ _ (by simp) (Same.refl _)))
      | tup h1 h2 => exact g_isi (b := false) (.tup h1 h2) rfl (by walk_at "z"; exact iteF (q _ _ (by simp) (Same.refl _)))
    | int b =>
      refine g_isi2 (O.get 0) (.int b) rfl rfl ?_
      walk_at "z"
      refine iteF ?_
      walk_at "z"
      refine ite_d (fun h => nomatch h) (fun _ => ?_)
      walk_at "z"
      refine g_isi (.int b) rfl ?_
      walk_at "z"
      refine iteF ?_
      walk_at "z"
      refine g_isi (.int b) rfl ?_
      walk_at "z"
      refine iteT ?_
      walk_at "z"
      refine ⟨_, _, rfl, hx, ?_⟩
      walk_at "z"
      cases hx with
      | int i =>
        refine iteT ?_
        walk_at "z"
        refine q _ _ ?_ (Same.refl _)
        simp
      | non => exact iteF (q _ _ (by simp) (Same.refl _))
      | bl i => exact iteF (q _ _ (by simp) (Same.refl _))
      | str s => exact iteF (q _ _ (by simp) (Same.refl _))
      | lst h1 h2 => exact iteF (q _ _ (by simp) (Same.refl _))
      | tup h1 h2 => exact iteF (q _ _ (by simp) (Same.refl _))
    | str b =>
      refine g_isi2 (O.get 0) (.str b) rfl rfl ?_
      walk_at "z"
      refine iteF ?_
      walk_at "z"
      refine ite_d (fun h => nomatch h) (fun _ => ?_)
      walk_at "z"
      refine g_isi (.str b) rfl ?_
      walk_at "z"
      refine iteF ?_
      walk_at "z"
      refine g_isi (.str b) rfl ?_
      walk_at "z"
      refine iteF ?_
      walk_at "z"
      cases hx with
      | str b' =>
        refine g_isi (.str b') rfl ?_
        walk_at "z"
        refine iteT ?_
        walk_at "z"
        refine g_eqS (q _ _ ?_ (Same.refl _))
        simp
      | non => exact g_isi (b := false) .non rfl (by walk_at "z"; exact iteF (q _ _ (by simp) (Same.refl _)))
      | int i => exact g_isi (b := false) (.int i) rfl (by walk_at "z"; exact iteF (q _ _ (by simp) (Same.refl _)))
      | bl s => exact g_isi (b := false) (.bl s) rfl (by walk_at "z"; exact iteF (q _ _ (by simp) (Same.refl _)))
      | lst h1 h2 => exact g_isi (b := false) (.lst h1 h2) rfl (by walk_at "z"; exact iteF (q _ _ (by simp) (Same.refl _)))
      | tup h1 h2 => exact g_isi (b := false) (.tup h1 h2) rfl (by walk_at "z"; exact iteF (q _ _ (by simp) (Same.refl _)))
    | @lst b ys es hS hA =>
      cases he with
      | lst hz he =>
      refine g_isi2 (O.get 0) (.lst hS hA) rfl rfl ?_
      walk_at "z"
      refine iteT ?_
      walk_at "z"
      refine g_isi (.lst hS hA) rfl ?_
      walk_at "z"
      cases hx with
      | non => exact g_isi (b := false) .non rfl (g_neB (by walk_at "z"; exact iteT (by walk_at "z"; exact iteT (by walk_at "z"; exact q _ _ (by simp) (Same.refl _)))))
      | bl i => exact g_isi (b := false) (.bl i) rfl (g_neB (by walk_at "z"; exact iteT (by walk_at "z"; exact iteT (by walk_at "z"; exact q _ _ (by simp) (Same.refl _)))))
      | int i => exact g_isi (b := false) (.int i) rfl (g_neB (by walk_at "z"; exact iteT (by walk_at "z"; exact iteT (by walk_at "z"; exact q _ _ (by simp) (Same.refl _)))))
      | str i => exact g_isi (b := false) (.str i) rfl (g_neB (by walk_at "z"; exact iteT (by walk_at "z"; exact iteT (by walk_at "z"; exact q _ _ (by simp) (Same.refl _)))))
      | tup h1 h2 => exact g_isi (b := false) (.tup h1 h2) rfl (g_neB (by walk_at "z"; exact iteT (by walk_at "z"; exact iteT (by walk_at "z"; exact q _ _ (by simp) (Same.refl _)))))
      | @lst a xs ds h1 h2 =>
        refine g_isi (.lst h1 h2) rfl (g_neB ?_)
        walk_at "z"
        refine iteF ?_
        walk_at "z"
        refine g_isi (.lst hS hA) rfl ?_
        walk_at "z"
        refine g_isi (.lst h1 h2) rfl (g_neB ?_)
        walk_at "z"
        refine iteF ?_
        walk_at "z"
        refine g_lenL h1 ?_
        walk_at "z"
        refine g_lenL hS ?_
        walk_at "z"
        have l1 := dps_len h2
        have l2 := dps_len hA
        refine ite_nd (fun hne => ?_) (fun hlen => ?_)
        · walk_at "z"
          refine q _ _ (iff_false_of fun e => hne ?_) (Same.refl _)
          injection e with e
          rw [l1, l2, e]
        · walk_at "z"
          refine g_lenL hS ?_
          refine g_rng1v ⟨by omega, by omega⟩ ?_
          refine forB_rng0 (fun i σ H' => ∃ x2, σ = [some (.ref a), some (.ref b), x2] ∧ Same H1 H' ∧ ∀ j, j < i → ds[j]? = es[j]?) ?_ ?_ ?_
          · exact ⟨_, rfl, Same.refl _, fun j hj => absurd hj (Nat.not_lt_zero j)⟩
          · rintro i σ H2 hi ⟨x2, rfl, eH, hj⟩
            walk_at "z"
            have hi1 : i < xs.length := by omega
            have hi2 : i < ys.length := by omega
            refine g_ixL (eH.seq h1) (atI_nat (List.getElem?_eq_getElem hi1)) ?_
            walk_at "z"
            refine g_ixL (eH.seq hS) (atI_nat (List.getElem?_eq_getElem hi2)) ?_
            walk_at "z"
            obtain ⟨d, ed, hd⟩ := dps_get h2 (List.getElem?_eq_getElem hi1)
            obtain ⟨e, ee, hee⟩ := dps_get hA (List.getElem?_eq_getElem hi2)
            refine ⟨_, _, d, e, rfl, dp_ex eH hd, dp_ex eH hee, he e (List.mem_of_getElem? ee), fun c H3 hc e3 => ?_⟩
            walk_at "z"
            refine ite_nb (fun hcb => ?_) (fun hcb => ?_)
            · walk_at "z"
              refine q _ _ (iff_false_of fun e' => ?_) (eH.trans e3)
              injection e' with e'
              rw [e', ee] at ed
              rw [hcb] at hc
              exact absurd (hc.mpr (Option.some.inj ed).symm) (by simp)
            · walk_at "z"
              refine ⟨_, rfl, eH.trans e3, fun j hji => ?_⟩
              by_cases hjj : j < i
              · exact hj j hjj
              · have : j = i := by omega
                subst this
                rw [ed, ee, hc.mp hcb]
          · rintro σ H2 ⟨x2, rfl, eH, hj⟩
            walk_at "z"
            refine q _ _ (iff_true_of ?_) eH
            congr 1
            apply List.ext_getElem?
            intro j
            by_cases hjl : j < ys.length
            · exact hj j (by omega)
            · rw [List.getElem?_eq_none (by omega), List.getElem?_eq_none (by omega)]
    | @tup b ys es hS hA =>
      cases he with
      | tup hz he =>
      refine g_isi2 (O.get 0) (.tup hS hA) rfl rfl ?_
      walk_at "z"
      refine iteT ?_
      walk_at "z"
      refine g_isi (.tup hS hA) rfl ?_
      walk_at "z"
      cases hx with
      | non => exact g_isi (b := false) .non rfl (g_neB (by walk_at "z"; exact iteF (by walk_at "z"; exact g_isi (.tup hS hA) rfl (by walk_at "z"; exact g_isi (b := false) .non rfl (g_neB (by walk_at "z"; exact iteT (by walk_at "z"; exact q _ _ (by simp) (Same.refl _))))))))
      | bl i => exact g_isi (b := false) (.bl i) rfl (g_neB (by walk_at "z"; exact iteF (by walk_at "z"; exact g_isi (.tup hS hA) rfl (by walk_at "z"; exact g_isi (b := false) (.bl i) rfl (g_neB (by walk_at "z"; exact iteT (by walk_at "z"; exact q _ _ (by simp) (Same.refl _))))))))
      | int i => exact g_isi (b := false) (.int i) rfl (g_neB (by walk_at "z"; exact iteF (by walk_at "z"; exact g_isi (.tup hS hA) rfl (by walk_at "z"; exact g_isi (b := false) (.int i) rfl (g_neB (by walk_at "z"; exact iteT (by walk_at "z"; exact q _ _ (by simp) (Same.refl _))))))))
      | str i => exact g_isi (b := false) (.str i) rfl (g_neB (by walk_at "z"; exact iteF (by walk_at "z"; exact g_isi (.tup hS hA) rfl (by walk_at "z"; exact g_isi (b := false) (.str i) rfl (g_neB (by walk_at "z"; exact iteT (by walk_at "z"; exact q _ _ (by simp) (Same.refl _))))))))
      | lst h1 h2 => exact g_isi (b := true) (.lst h1 h2) rfl (g_neB (by walk_at "z"; exact iteT (by walk_at "z"; exact iteT (by walk_at "z"; exact q _ _ (by simp) (Same.refl _)))))
      | @tup a xs ds h1 h2 =>
        refine g_isi (.tup h1 h2) rfl (g_neB ?_)
        walk_at "z"
        refine iteF ?_
        walk_at "z"
        refine g_isi (.tup hS hA) rfl ?_
        walk_at "z"
        refine g_isi (.tup h1 h2) rfl (g_neB ?_)
        walk_at "z"
        refine iteF ?_
        walk_at "z"
        refine g_lenT h1 ?_
        walk_at "z"
        refine g_lenT hS ?_
        walk_at "z"
        have l1 := dps_len h2
        have l2 := dps_len hA
        refine ite_nd (fun hne => ?_) (fun hlen => ?_)
        · walk_at "z"
          refine q _ _ (iff_false_of fun e => hne ?_) (Same.refl _)
          injection e with e
          rw [l1, l2, e]
        · walk_at "z"
          refine g_lenT hS ?_
          refine g_rng1v ⟨by omega, by omega⟩ ?_
          refine forB_rng0 (fun i σ H' => ∃ x2, σ = [some (.ref a), some (.ref b), x2] ∧ Same H1 H' ∧ ∀ j, j < i → ds[j]? = es[j]?) ?_ ?_ ?_
          · exact ⟨_, rfl, Same.refl _, fun j hj => absurd hj (Nat.not_lt_zero j)⟩
          · rintro i σ H2 hi ⟨x2, rfl, eH, hj⟩
            walk_at "z"
            have hi1 : i < xs.length := by omega
            have hi2 : i < ys.length := by omega
            refine g_ixT (sq_t eH h1) (atI_nat (List.getElem?_eq_getElem hi1)) ?_
            walk_at "z"
            refine g_ixT (sq_t eH hS) (atI_nat (List.getElem?_eq_getElem hi2)) ?_
            walk_at "z"
            obtain ⟨d, ed, hd⟩ := dps_get h2 (List.getElem?_eq_getElem hi1)
            obtain ⟨e, ee, hee⟩ := dps_get hA (List.getElem?_eq_getElem hi2)
            refine ⟨_, _, d, e, rfl, dp_ex eH hd, dp_ex eH hee, he e (List.mem_of_getElem? ee), fun c H3 hc e3 => ?_⟩
            walk_at "z"
            refine ite_nb (fun hcb => ?_) (fun hcb => ?_)
            · walk_at "z"
              refine q _ _ (iff_false_of fun e' => ?_) (eH.trans e3)
              injection e' with e'
              rw [e', ee] at ed
              rw [hcb] at hc
              exact absurd (hc.mpr (Option.some.inj ed).symm) (by simp)
            · walk_at "z"
              refine ⟨_, rfl, eH.trans e3, fun j hji => ?_⟩
              by_cases hjj : j < i
              · exact hj j hjj
              · have : j = i := by omega
                subst this
                rw [ed, ee, hc.mp hcb]
          · rintro σ H2 ⟨x2, rfl, eH, hj⟩
            walk_at "z"
            refine q _ _ (iff_true_of ?_) eH
            congr 1
            apply List.ext_getElem?
            intro j
            by_cases hjl : j < ys.length
            · exact hj j (by omega)
            · rw [List.getElem?_eq_none (by omega), List.getElem?_eq_none (by omega)]
theorem ok__law_same_n (T : Txt K mg base) : ∀ n : Nat, FnOk P w K mg base CX0 (n + 1) T.a__law_same T.d__law_same P__law_same (sp__law_same n K)
  | 0 => fn_none fun vs H Q E h => by
    obtain ⟨x, y, d, e, _, _, _, he, _⟩ := h
    cases he
  | n + 1 => step__law_same T n (ok__law_same_n T n)
theorem ok__law_same (T : Txt K mg base) : FnOk P w K mg base CX0 13 T.a__law_same T.d__law_same P__law_same (sp__law_same 12 K) := ok__law_same_n T 12


/-! ### deeds -/
abbrev Mk := Int × Int
inductive Deed
  | back (p : Int)
  | chg (m : Str) (rm : List Mk) (bh : Option Mk) (n : Int) (t : List Nat)
def encO : Option Mk → PyData
  | none => .none
  | some k => kzD k
def encD : Deed → PyData
  | .back p => .tuple [.str (Str.ofString "back"), .int p]
  | .chg m rm bh n t => .tuple [.str (Str.ofString "change"), .str m, .tuple (rm.map kzD), encO bh, .int n, .str (S t)]
abbrev Item := Mk × Option Mk × Nat
def encI (x : Item) : PyData := .tuple [kzD x.1, encO x.2.1, .str (S [x.2.2])]
def insA (r : Int) : Int → Option Mk → List Nat → List Item
  | _, _, [] => []
  | n, bh, c :: t => ((n, r), bh, c) :: insA r (n + 1) (some (n, r)) t
def bhA (r n : Int) (bh : Option Mk) : Nat → Option Mk
  | 0 => bh
  | i + 1 => some (n + i, r)
theorem insA_snoc (r : Int) (c : Nat) : ∀ (t : List Nat) (n : Int) (bh : Option Mk), insA r n bh (t ++ [c]) = insA r n bh t ++ [((n + t.length, r), bhA r n bh t.length, c)]
  | [], n, bh => by simp [insA, bhA]
  | d :: t, n, bh => by
    show ((n, r), bh, d) :: insA r (n + 1) (some (n, r)) (t ++ [c]) = _
    rw [insA_snoc r c t (n + 1) (some (n, r))]
    have e1 : n + 1 + (t.length : Int) = n + ((d :: t).length : Nat) := by rw [List.length_cons]; omega
    have e2 : bhA r (n + 1) (some (n, r)) t.length = bhA r n bh (d :: t).length := by
      rw [List.length_cons]
      cases t with
      | nil => show some (n, r) = some (n + ((0 : Nat) : Int), r); simp
      | cons x t => rw [List.length_cons]; show some (n + 1 + ((t.length : Nat) : Int), r) = some (n + ((t.length + 1 : Nat) : Int), r); congr 2; omega
    rw [e1, e2]
    rfl
theorem insA_len (r : Int) : ∀ (t : List Nat) (n : Int) (bh : Option Mk), (insA r n bh t).length = t.length
  | [], _, _ => rfl
  | _ :: t, n, _ => congrArg (· + 1) (insA_len r t (n + 1) _)
theorem td_chg {H : Hp} {v : V} {m : Str} {rm : List Mk} {bh : Option Mk} {n : Int} {t : List Nat} (h : Td H v (encD (.chg m rm bh n t))) : ∃ a vr vb, v = .ref a ∧ H a = some (.tup [.str (Str.ofString "change"), .str m, vr, vb, .int n, .str (S t)]) ∧ Td H vr (.tuple (rm.map kzD)) ∧ Td H vb (encO bh) := by
  cases h with
  | tup h1 h2 =>
    cases h2 with
    | cons x1 h2 => cases h2 with
      | cons x2 h2 => cases h2 with
        | cons x3 h2 => cases h2 with
          | cons x4 h2 => cases h2 with
            | cons x5 h2 => cases h2 with
              | cons x6 h2 =>
                cases h2
                cases x1
                cases x2
                cases x5
                cases x6
                exact ⟨_, _, _, rfl, h1, x3, x4⟩
theorem td_kz {B : Hp} {a : Addr} {n r : Int} (h : B a = some (.tup [.int n, .int r])) : Td B (.ref a) (kzD (n, r)) := .tup h (.cons (.int _) (.cons (.int _) .nil))
theorem fz {B H : Hp} {p : Addr} {o : HO} {cs : List (Addr × HO)} (O : Own B ((p, o) :: cs) H) : ∃ B', Same B B' ∧ B' p = some o ∧ Own B' cs H := ⟨_, O.freezeB, upd_same, O.freeze⟩

def sp_inserted (K : PySem.W.Frag) : Sp := fun vs H Q _ => ∃ (v : V) (r : Int) (m : Str) (rm : List Mk) (bh : Option Mk) (n : Int) (t : List Nat), vs = [.int r, v] ∧ Td H v (encD (.chg m rm bh n t)) ∧ t.length ≤ 1000 ∧
  ∀ (B' : Hp) (p : Addr) (ws : List V) (H' : Hp), Same H B' → Own B' [(p, .lst ws)] H' → TdAll B' ws ((insA r n bh t).map encI) → Q (.ref p) H'

theorem ok_inserted (T : Txt K mg base) : FnOk P w K mg base CX0 1 T.a_inserted T.d_inserted P_inserted (sp_inserted K) := by
  refine T.F_inserted.ok sc_inserted (fun vs H Q E h => ?_) (fun cdv A outer s H vs Q E hr h => ?_)
  · obtain ⟨v, r, m, rm, bh, n, t, rfl, _⟩ := h
    rfl
  · obtain ⟨v, r, m, rm, bh, n, t, rfl, hv, hz, q⟩ := h
    refine ⟨_, (pss_cons (ps_set (i := 2) sc_inserted.nd rfl (Or.inl rfl) (pe_lst pa_nil))
        (pss_cons (ps_set (i := 3) sc_inserted.nd rfl (Or.inl rfl) (pe_ix ix_seq (pv 1) pe_int (fun _ _ => rfl)))
        (pss_cons (ps_for PassesOwn.never rfl (pi_enumS (by rfl) T.z_enumerate (pa_cons (pe_ix ix_seq (pv 1) pe_int (fun _ _ => rfl)) pa_nil)) (pg_tup rfl (pgs_cons (pg_name (i := 4) sc_inserted.nd rfl (Or.inl rfl)) (pgs_cons (pg_name (i := 5) sc_inserted.nd rfl (Or.inl rfl)) pgs_nil)))
          (pss_cons (ps_set (i := 6) sc_inserted.nd rfl (Or.inl rfl) (pe_tup (pa_cons (pe_op op_addU (pe_ix ix_seq (pv 1) pe_int (fun _ _ => rfl)) (pv 4)) (pa_cons (pv 0) pa_nil))))
        (pss_cons (ps_expr (pe_bm PySem.F.plainAttrs_list PySem.F.slot_list_append PySem.F.type_list_append mt_append (pv 2) (pa_cons (pe_tup (pa_cons (pv 6) (pa_cons (pv 3) (pa_cons (pv 5) pa_nil)))) pa_nil)))
        (pss_one (ps_set (i := 3) sc_inserted.nd rfl (Or.inl rfl) (pv 6))))))
        (pss_one (ps_ret (pv 2)))))), ?_⟩
    obtain ⟨a, vr, vb, rfl, ha, _, hb⟩ := td_chg hv
    walk_at "z"
    refine g_new (Nat.zero_le _) (Own.start H) fun p H1 np O => ?_
    walk_at "z"
    refine g_ixT (.inl (.inl (O.fr _ _ ha))) (atI_nat (j := 3) rfl) ?_
    walk_at "z"
    refine g_ixT (.inl (.inl (O.fr _ _ ha))) (atI_nat (j := 5) rfl) ?_
    walk_at "z"
    walk_at "z"
    refine forB_enumS (fun i σ H' => ∃ (B' : Hp) (ws : List V) (vb : V) (x4 x5 x6 : Option V), σ = [some (.int r), some (.ref a), some (.ref p), some vb, x4, x5, x6] ∧ Same H B' ∧ Own B' [(p, .lst ws)] H' ∧ TdAll B' ws ((insA r n bh (t.take i)).map encI) ∧ Td B' vb (encO (bhA r n bh i))) ?_ ?_ ?_
    · exact ⟨H, [], vb, none, none, none, rfl, Same.refl _, O, .nil, hb⟩
    · clear O hb
      rintro i c T1 σ H2 hc hT1 ⟨B', ws, vb, x4, x5, x6, rfl, eB, O, hT, hb⟩
      have hi := (List.getElem?_eq_some_iff.mp hc).1
      have O := O.alloc (o := .tup [.int (i : Nat), .str (S [c])]) hT1
      refine g_gtup (O.tup 0) rfl ?_
      walk_at "z"
      have O := O.tail
      have ha := eB _ _ ha
      refine g_ixT (.inl (.inl (O.fr _ _ ha))) (atI_nat (j := 4) rfl) ?_
      walk_at "z"
      refine g_new (small_le (by simp)) O fun mk H3 nmk O => ?_
      obtain ⟨B2, e2, hmk, O⟩ := fz O
      walk_at "z"
      refine g_tyL (O.lst 0) ?_
      walk_at "z"
      refine g_new (small_le (by simp)) O fun it H4 nit O => ?_
      obtain ⟨B3, e3, hit, O⟩ := fz O
      have hwl := tds_len hT
      rw [List.length_map, insA_len, List.length_take] at hwl
      walk_at "z"
      refine g_append O 0 rfl (small_of (by omega)) fun H5 O => ?_
      walk_at "z"
      refine ⟨B3, _, .ref mk, _, _, _, rfl, (eB.trans e2).trans e3, O, ?_, ?_⟩
      · have e4 : t.take (i + 1) = t.take i ++ [c] := by rw [List.take_add_one, hc]; rfl
        have e5 : (t.take i).length = i := by rw [List.length_take]; omega
        rw [e4, insA_snoc, e5, List.map_append]
        refine tds_snoc (tds_ex (e2.trans e3) hT) ?_
        exact .tup hit (.cons (td_kz (e3 _ _ hmk)) (.cons (td_ex (e2.trans e3) hb) (.cons (.str _) .nil)))
      · exact td_kz (e3 _ _ hmk)
    · rintro σ H2 ⟨B', ws, vb, x4, x5, x6, rfl, eB, O, hT, hb⟩
      walk_at "z"
      rw [List.take_length] at hT
      exact q B' p ws H2 eB O hT
theorem ok__law_inserted (T : Txt K mg base) : FnOk P w K mg base CX0 1 T.a__law_inserted T.d__law_inserted P__law_inserted (sp_inserted K) := by
  refine T.F__law_inserted.ok sc__law_inserted (fun vs H Q E h => ?_) (fun cdv A outer s H vs Q E hr h => ?_)
  · obtain ⟨v, r, m, rm, bh, n, t, rfl, _⟩ := h
    rfl
  · obtain ⟨v, r, m, rm, bh, n, t, rfl, hv, hz, q⟩ := h
    refine ⟨_, (pss_cons (ps_set (i := 2) sc__law_inserted.nd rfl (Or.inl rfl) (pe_lst pa_nil))
        (pss_cons (ps_set (i := 3) sc__law_inserted.nd rfl (Or.inl rfl) (pe_ix ix_seq (pv 1) pe_int (fun _ _ => rfl)))
        (pss_cons (ps_for PassesOwn.never rfl (pi_range1 (by rfl) T.z_range (pa_cons (pe_callB call_lenU (by rfl) T.z_len PySem.boot_len (pa_cons (pe_ix ix_seq (pv 1) pe_int (fun _ _ => rfl)) pa_nil)) pa_nil)) (pg_name (i := 4) sc__law_inserted.nd rfl (Or.inl rfl))
          (pss_cons (ps_expr (pe_bm PySem.F.plainAttrs_list PySem.F.slot_list_append PySem.F.type_list_append mt_append (pv 2) (pa_cons (pe_tup (pa_cons (pe_tup (pa_cons (pe_op op_addU (pe_ix ix_seq (pv 1) pe_int (fun _ _ => rfl)) (pv 4)) (pa_cons (pv 0) pa_nil))) (pa_cons (pv 3) (pa_cons (pe_ix ix_seq (pe_ix ix_seq (pv 1) pe_int (fun _ _ => rfl)) (pv 4) (fun _ _ => rfl)) pa_nil)))) pa_nil)))
        (pss_one (ps_set (i := 3) sc__law_inserted.nd rfl (Or.inl rfl) (pe_tup (pa_cons (pe_op op_addU (pe_ix ix_seq (pv 1) pe_int (fun _ _ => rfl)) (pv 4)) (pa_cons (pv 0) pa_nil)))))))
        (pss_one (ps_ret (pv 2)))))), ?_⟩
    obtain ⟨a, vr, vb, rfl, ha, _, hb⟩ := td_chg hv
    walk_at "z"
    refine g_new (Nat.zero_le _) (Own.start H) fun p H1 np O => ?_
    walk_at "z"
    refine g_ixT (.inl (.inl (O.fr _ _ ha))) (atI_nat (j := 3) rfl) ?_
    walk_at "z"
    refine g_ixT (.inl (.inl (O.fr _ _ ha))) (atI_nat (j := 5) rfl) ?_
    walk_at "z"
    refine g_lenSS (by omega) ?_
    walk_at "z"
    refine forB_rng0 (fun i σ H' => ∃ (B' : Hp) (ws : List V) (vb : V) (x4 : Option V), σ = [some (.int r), some (.ref a), some (.ref p), some vb, x4] ∧ Same H B' ∧ Own B' [(p, .lst ws)] H' ∧ TdAll B' ws ((insA r n bh (t.take i)).map encI) ∧ Td B' vb (encO (bhA r n bh i))) ?_ ?_ ?_
    · exact ⟨H, [], vb, none, rfl, Same.refl _, O, .nil, hb⟩
    · clear O hb
      rintro i σ H2 hi ⟨B', ws, vb, x4, rfl, eB, O, hT, hb⟩
      have hi : i < t.length := by omega
      have hc : t[i]? = some t[i] := List.getElem?_eq_getElem hi
      have ha := eB _ _ ha
      walk_at "z"
      refine g_tyL (O.lst 0) ?_
      walk_at "z"
      refine g_ixT (.inl (.inl (O.fr _ _ ha))) (atI_nat (j := 4) rfl) ?_
      walk_at "z"
      refine g_new (small_le (by simp)) O fun mk H3 nmk O => ?_
      obtain ⟨B2, e2, hmk, O⟩ := fz O
      have ha := e2 _ _ ha
      walk_at "z"
      refine g_ixT (.inl (.inl (O.fr _ _ ha))) (atI_nat (j := 5) rfl) ?_
      walk_at "z"
      refine g_ixSS (by omega) (by omega) (show t[((i : Int)).toNat]? = some t[i] from hc) ?_
      walk_at "z"
      refine g_new (small_le (by simp)) O fun it H4 nit O => ?_
      obtain ⟨B3, e3, hit, O⟩ := fz O
      have ha := e3 _ _ ha
      have hwl := tds_len hT
      rw [List.length_map, insA_len, List.length_take] at hwl
      walk_at "z"
      refine g_append O 0 rfl (small_of (by omega)) fun H5 O => ?_
      walk_at "z"
      refine g_ixT (.inl (.inl (O.fr _ _ ha))) (atI_nat (j := 4) rfl) ?_
      walk_at "z"
      refine g_new (small_le (by simp)) O fun mk2 H6 nmk2 O => ?_
      obtain ⟨B4, e4, hmk2, O⟩ := fz O
      walk_at "z"
      refine ⟨B4, _, .ref mk2, _, rfl, ((eB.trans e2).trans e3).trans e4, O, ?_, ?_⟩
      · have e5 : t.take (i + 1) = t.take i ++ [t[i]] := by rw [List.take_add_one, hc]; rfl
        have e6 : (t.take i).length = i := by rw [List.length_take]; omega
        rw [e5, insA_snoc, e6, List.map_append]
        refine tds_snoc (tds_ex ((e2.trans e3).trans e4) hT) ?_
        exact .tup (e4 _ _ hit) (.cons (td_kz (e4 _ _ (e3 _ _ hmk))) (.cons (td_ex ((e2.trans e3).trans e4) hb) (.cons (.str _) .nil)))
      · exact td_kz hmk2
    · rintro σ H2 ⟨B', ws, vb, x4, rfl, eB, O, hT, hb⟩
      walk_at "z"
      rw [List.take_of_length_le (by omega)] at hT
      exact q B' p ws H2 eB O hT
theorem shaped_of {d : PyData} (h1 : PyData.canLay0 d = true) (h2 : d.depth ≤ 64) : SeqAt.shaped d = true := by
  show (PyData.canLay0 d && decide (PyData.depth d ≤ 64)) = true
  rw [h1, decide_eq_true h2]
  rfl
theorem lay_kz (k : Mk) : PyData.canLay0 (kzD k) = true := by simp [PyData.canLay0, PyData.canLayAll0]
theorem lay_kzs : ∀ l : List Mk, PyData.canLayAll0 (l.map kzD) = true
  | [] => by simp [PyData.canLayAll0]
  | k :: l => by simp only [List.map_cons, PyData.canLayAll0, lay_kz, lay_kzs l, Bool.and_self]
theorem dep_kzs : ∀ l : List Mk, PyData.depthAll (l.map kzD) ≤ 1
  | [] => by simp [PyData.depthAll]
  | k :: l => by
    have h := dep_kzs l
    simp only [List.map_cons, PyData.depthAll, PyData.depth, kzD]
    simp
    omega
theorem lay_O (o : Option Mk) : PyData.canLay0 (encO o) = true := by
  cases o with
  | none => simp [encO, PyData.canLay0]
  | some k => exact lay_kz k
theorem dep_O (o : Option Mk) : PyData.depth (encO o) ≤ 1 := by
  cases o with
  | none => simp [encO, PyData.depth]
  | some k => simp [encO, kzD, PyData.depth, PyData.depthAll]
theorem dep_D (d : Deed) : PyData.depth (encD d) ≤ 3 := by
  cases d with
  | back p => simp [encD, PyData.depth, PyData.depthAll]
  | chg m rm bh n t =>
    have h1 := dep_kzs rm
    have h2 := dep_O bh
    simp only [encD, PyData.depth, PyData.depthAll]
    omega
/-- its texts are texts that can be laid -/
def DOk (d : Deed) : Prop := PyData.canLay0 (encD d) = true
theorem shaped_D {d : Deed} (h : DOk d) : SeqAt.shaped (encD d) = true := shaped_of h (by have := dep_D d; omega)
theorem eqv_back (d : Deed) (p : Int) : PyData.eqv (encD d) (encD (.back p)) = (match d with | .back q => q == p | _ => false) := by
  cases d with
  | back q => simp [encD, PyData.eqv, PyData.eqvAll]
  | chg m rm bh n t =>
    simp only [encD, PyData.eqv, PyData.eqvAll]
    simp


/-! ### which deeds are in force, told from the last one back -/
def isBack (p : Int) : Option Deed → Bool
  | some (.back q) => q == p
  | _ => false
/-- one of the first deeds (from the back) is a back to p, in force -/
def takenBy (rev : List Deed) (fs : List Bool) (p : Int) : Bool := (List.range fs.length).any fun j => (fs[j]?.getD false) && isBack p rev[j]?
def fR (rev : List Deed) : Nat → List Bool
  | 0 => []
  | k + 1 => fR rev k ++ [!takenBy rev (fR rev k) ((rev.length : Int) - k)]
theorem fR_len (rev : List Deed) : ∀ k, (fR rev k).length = k
  | 0 => rfl
  | k + 1 => by show (fR rev k ++ [_]).length = _; rw [List.length_append, fR_len rev k]; rfl
def frc (row : List Deed) : List Bool := (fR row.reverse row.length).reverse
theorem frc_len (row : List Deed) : (frc row).length = row.length := by unfold frc; rw [List.length_reverse, fR_len]
theorem any_cong {l : List Nat} {f g : Nat → Bool} (h : ∀ j ∈ l, f j = g j) : l.any f = l.any g := by
  induction l with
  | nil => rfl
  | cons x l ih => rw [List.any_cons, List.any_cons, h x (.head _), ih fun j hj => h j (.tail _ hj)]
theorem takenBy_snoc (rev : List Deed) (fs : List Bool) (f : Bool) (p : Int) : takenBy rev (fs ++ [f]) p = (takenBy rev fs p || (f && isBack p rev[fs.length]?)) := by
  unfold takenBy
  rw [List.length_append, show fs.length + [f].length = fs.length + 1 from rfl, List.range_succ, List.any_append]
  congr 1
  · refine any_cong fun j hj => ?_
    rw [List.getElem?_append_left (List.mem_range.mp hj)]
  · rw [List.any_cons, List.any_nil, Bool.or_false, List.getElem?_append_right (Nat.le_refl _), Nat.sub_self]
    rfl


def DOkAll (row : List Deed) : Prop := ∀ d ∈ row, DOk d
def sp_lforces (K : PySem.W.Frag) : Sp := fun vs H Q _ => ∃ (a : Addr) (ws : List V) (row : List Deed), vs = [.ref a] ∧ SqL K H a ws ∧ TdAll H ws (row.map encD) ∧ DOkAll row ∧ row.length ≤ 1000 ∧
  ∀ (p : Addr) (H' : Hp), Own H [(p, .lst ((frc row).map V.bl))] H' → Q (.ref p) H'
theorem td_back {B : Hp} {a : Addr} {p : Int} (h : B a = some (.tup [.str (Str.ofString "back"), .int p])) : Td B (.ref a) (encD (.back p)) := .tup h (.cons (.str _) (.cons (.int _) .nil))
theorem dok_back (p : Int) : DOk (.back p) := by
  unfold DOk
  simp only [encD, PyData.canLay0, PyData.canLayAll0, Bool.and_true]
  decide +kernel
theorem isBack_eq (d : Deed) (p : Int) : PyData.eqv (encD d) (encD (.back p)) = isBack p (some d) := by rw [eqv_back]; cases d <;> rfl
theorem tds_at {H : Hp} {ws : List V} {row : List Deed} (h : TdAll H ws (row.map encD)) {j : Nat} (hj : j < row.length) : ∃ v, ws[j]? = some v ∧ Td H v (encD row[j]) := tds_getD h (by rw [List.getElem?_map, List.getElem?_eq_getElem hj]; rfl)

theorem ok__law_forces (T : Txt K mg base) : FnOk P w K mg base CX0 1 T.a__law_forces T.d__law_forces P__law_forces (sp_lforces K) := by
  refine T.F__law_forces.ok sc__law_forces (fun vs H Q E h => ?_) (fun cdv A outer s H vs Q E hr h => ?_)
  · obtain ⟨a, ws, row, rfl, _⟩ := h
    rfl
  · obtain ⟨a, ws, row, rfl, hS, hT, hok, hz, q⟩ := h
    refine ⟨_, (pss_cons (ps_set (i := 1) sc__law_forces.nd rfl (Or.inr rfl) (pe_lst pa_nil))
        (pss_cons (ps_for PassesOwn.never rfl (pi_range1 (by rfl) T.z_range (pa_cons (pe_callB call_lenU (by rfl) T.z_len PySem.boot_len (pa_cons (pv 0) pa_nil)) pa_nil)) (pg_name (i := 2) sc__law_forces.nd rfl (Or.inl rfl))
          (pss_cons (ps_set (i := 3) sc__law_forces.nd rfl (Or.inr rfl) (pe_op op_sub (pe_callB call_lenU (by rfl) T.z_len PySem.boot_len (pa_cons (pv 0) pa_nil)) (pv 2)))
        (pss_cons (ps_setLc (i := 4) (own := [("j", 5)]) rfl sc__law_forces.nd rfl rfl (sw_true rfl rfl rfl (by decide +kernel)) (pi_range1 (by rfl) T.z_range (pa_cons (pe_callB call_lenU (by rfl) T.z_len PySem.boot_len (pa_cons (pv 1) pa_nil)) pa_nil)) (blkOk_by (own := [("j", 5)]) (N := N__law_forces) (sc := defScope s__law_forces) (by decide +kernel)) (fun _ _ _ _ _ => (pg_name (i := 5) sc__law_forces.nd rfl (Or.inl rfl))) (fun _ _ _ _ _ => (pts_one (PW.pt (pw_and (show PT _ _ (tTr K _) from (pt_tr (by intro _; rfl) (pe_ix (show IxR _ (rIx K) from ix_seq) (pv 1) (pv 5) (fun _ _ => rfl)))) (pw_and1 (pt_cmpR (show OpR _ _ (rEqU K) from (op_eqU (hu64 hr))) (pe_ix (show IxR _ (rIx K) from ix_seq) (pv 0) (pe_op op_sub (pe_op op_sub (pe_callB (show CallR _ _ (rLenU K) from call_lenU) (by rfl) T.z_len PySem.boot_len (pa_cons (pv 0) pa_nil)) pe_int) (pv 5)) (fun _ _ => rfl)) (pe_tup (pa_cons pe_str (pa_cons (pv 3) pa_nil))) (nomark _))))))) (fun _ _ _ _ _ => (pv 5)))
        (pss_one (ps_expr (pe_bm PySem.F.plainAttrs_list PySem.F.slot_list_append PySem.F.type_list_append mt_append (pv 1) (pa_cons (pe_cmpR (op_eqU (hu64 hr)) (pe_callB call_lenU (by rfl) T.z_len PySem.boot_len (pa_cons (pv 4) pa_nil)) pe_int (nomark _)) pa_nil)))))))
        (pss_one (ps_ret (pe_lc (own := [("k", 2)]) rfl sc__law_forces.nd (pi_range1 (by rfl) T.z_range (pa_cons (pe_callB call_lenU (by rfl) T.z_len PySem.boot_len (pa_cons (pv 0) pa_nil)) pa_nil)) (blkOk_by (own := [("k", 2)]) (N := N__law_forces) (sc := defScope s__law_forces) (by decide +kernel)) (fun _ _ _ _ _ => (pg_name (i := 2) sc__law_forces.nd rfl (Or.inl rfl))) (fun _ _ _ _ _ => pts_nil) (fun _ _ _ _ _ => (pe_ix (show IxR _ (rIx K) from ix_seq) (pv 1) (pe_op op_sub (pe_op op_sub (pe_callB (show CallR _ _ (rLenU K) from call_lenU) (by rfl) T.z_len PySem.boot_len (pa_cons (pv 0) pa_nil)) pe_int) (pv 2)) (fun _ _ => rfl)))))))), ?_⟩
    have hwl := tds_len hT
    rw [List.length_map] at hwl
    walk_at "z"
    refine g_new (Nat.zero_le _) (Own.start H) fun p H1 np O => ?_
    walk_at "z"
    refine g_lenL (O.fr.seq hS) ?_
    walk_at "z"
    refine forB_rng0 (fun k σ H' => ∃ (x2 x3 x4 x5 : Option V), σ = [some (.ref a), some (.ref p), x2, x3, x4, x5] ∧ Own H [(p, .lst ((fR row.reverse k).map V.bl))] H') ?_ ?_ ?_
    · exact ⟨none, none, none, none, rfl, O⟩
    · clear O
      rintro k σ H2 hk ⟨x2, x3, x4, x5, rfl, O⟩
      walk_at "z"
      refine g_lenL (O.fr.seq hS) ?_
      walk_at "z"
      have hfl := fR_len row.reverse k
      have hfm : ((fR row.reverse k).map V.bl).length = k := by rw [List.length_map, hfl]
      refine g_lenL (O.lst 0) ?_
      walk_at "z"
      rw [hfm]
      have hrl : row.reverse.length = row.length := List.length_reverse ..
      refine lcB_rng0 (fun D j H' => Own H [(D, .lst (((List.range j).filter fun j => ((fR row.reverse k)[j]?.getD false) && isBack ((row.reverse.length : Int) - k) row.reverse[j]?).map fun n => V.int ((n : Nat) : Int))), (p, .lst ((fR row.reverse k).map V.bl))] H') ?_ ?_ ?_
      · intro D nD
        exact O.alloc nD
      · clear O
        intro D j H3 hj O
        have hj : j < k := by omega
        have hjf : (fR row.reverse k)[j]? = some ((fR row.reverse k)[j]'(by omega)) := List.getElem?_eq_getElem _
        have e1 : ((List.range (j + 1)).filter fun j => ((fR row.reverse k)[j]?.getD false) && isBack ((row.reverse.length : Int) - k) row.reverse[j]?) = ((List.range j).filter fun j => ((fR row.reverse k)[j]?.getD false) && isBack ((row.reverse.length : Int) - k) row.reverse[j]?) ++ (if ((fR row.reverse k)[j]'(by omega)) && isBack ((row.reverse.length : Int) - k) row.reverse[j]? then [j] else []) := by
          rw [List.range_succ, List.filter_append]
          congr 1
          rw [List.filter_cons, hjf]
          rfl
        have hlen := List.length_filter_le (fun j => ((fR row.reverse k)[j]?.getD false) && isBack ((row.reverse.length : Int) - k) row.reverse[j]?) (List.range j)
        rw [List.length_range] at hlen
        rw [e1]
        walk_at "z"
        refine g_ixL (v := .bl ((fR row.reverse k)[j]'(by omega))) (O.lst 1) (atI_nat (j := j) (by rw [List.getElem?_map, hjf]; rfl)) ?_
        walk_at "z"
        refine ite_b (fun hb => ?_) (fun hb => ?_)
        · walk_at "z"
          refine g_lenL (O.fr.seq hS) ?_
          walk_at "z"
          obtain ⟨v, hv, hTv⟩ := tds_at hT (j := row.length - 1 - j) (by omega)
          refine g_ixL (O.fr.seq hS) (atI_of (by omega) (show ws[((ws.length : Int) - 1 - j).toNat]? = some v by rw [show ((ws.length : Int) - 1 - j).toNat = row.length - 1 - j by omega]; exact hv)) ?_
          walk_at "z"
          refine g_new (small_le (by simp)) O fun t H4 nt O => ?_
          have hback := td_back (B := H4) (O.get 0)
          refine g_eqD (td_dp (td_ex O.fr hTv)) (td_dp hback) (shaped_D (hok _ (List.getElem_mem _))) (shaped_D (dok_back _)) ?_
          rw [isBack_eq]
          have er : row.reverse[j]? = some (row[row.length - 1 - j]'(by omega)) := by
            rw [List.getElem?_reverse (by omega), List.getElem?_eq_getElem (by omega)]
          rw [er, hb, hrl, show ((ws.length : Int) - k) = (row.length : Int) - k by omega, Bool.true_and]
          walk_at "z"
          refine ite_b (fun hc => ?_) (fun hc => ?_)
          · walk_at "z"
            refine g_lcPut O 1 rfl (small_of (by rw [List.length_map]; omega)) fun H5 O => ?_
            rw [hc, if_pos rfl, List.map_append]
            simp only [hrl] at O ⊢
            exact O.tail
          · rw [hc]
            simp only [hrl] at O ⊢
            simp only [Bool.false_eq_true, if_false, List.append_nil]
            exact O.tail
        · refine iteF ?_
          rw [hb]
          simp only [Bool.false_and, Bool.false_eq_true, if_false, List.append_nil]
          exact O
      · clear O
        intro D H3 nD O
        walk_at "z"
        refine g_tyL (O.lst 1) ?_
        walk_at "z"
        refine g_lenL (O.lst 0) ?_
        walk_at "z"
        refine g_append O 1 rfl (small_of (by omega)) fun H4 O => ?_
        walk_at "z"
        refine ⟨_, _, _, _, rfl, ?_⟩
        show Own H [(p, .lst ((fR row.reverse k ++ [!takenBy row.reverse (fR row.reverse k) ((row.reverse.length : Int) - k)]).map V.bl))] H4
        have e2 : (decide ((((((List.range ((k : Nat) : Int).toNat).filter fun j => ((fR row.reverse k)[j]?.getD false) && isBack ((row.reverse.length : Int) - k) row.reverse[j]?).map fun n => V.int ((n : Nat) : Int)).length : Nat) : Int) = 0)) = !takenBy row.reverse (fR row.reverse k) ((row.reverse.length : Int) - k) := by
          rw [List.length_map, Int.toNat_natCast]
          unfold takenBy
          rw [hfl]
          generalize (fun j : Nat => ((fR row.reverse k)[j]?.getD false) && isBack ((row.reverse.length : Int) - k) row.reverse[j]?) = f
          cases h : (List.range k).any f with
          | true =>
            obtain ⟨x, hx, hfx⟩ := List.any_eq_true.mp h
            have : 0 < ((List.range k).filter f).length := List.length_pos_of_mem (List.mem_filter.mpr ⟨hx, hfx⟩)
            exact decide_eq_false (by omega)
          | false =>
            have : (List.range k).filter f = [] := by
              rw [List.filter_eq_nil_iff]
              intro x hx hfx
              have := List.any_eq_true.mpr ⟨x, hx, hfx⟩
              rw [h] at this
              exact nomatch this
            rw [this]
            rfl
        rw [← e2, List.map_append]
        exact O.tail
    · clear O
      rintro σ H2 ⟨x2, x3, x4, x5, rfl, O⟩
      walk_at "z"
      refine g_lenL (O.fr.seq hS) ?_
      walk_at "z"
      have hfl := fR_len row.reverse ws.length
      rw [hwl] at hfl
      have hO : Own H [(p, .lst ((fR row.reverse row.length).map V.bl))] H2 := by rw [← hwl]; exact O
      refine lcB_rng0 (fun D j H' => Own H [(D, .lst (((frc row).take j).map V.bl)), (p, .lst ((fR row.reverse row.length).map V.bl))] H') ?_ ?_ ?_
      · intro D nD
        exact hO.alloc nD
      · clear O hO
        intro D j H3 hj O
        have hj : j < row.length := by omega
        walk_at "z"
        refine iteT ?_
        walk_at "z"
        refine g_lenL (O.fr.seq hS) ?_
        walk_at "z"
        have hg : (frc row)[j]? = some ((fR row.reverse row.length)[row.length - 1 - j]'(by rw [fR_len]; omega)) := by
          unfold frc
          rw [List.getElem?_reverse (by rw [fR_len]; exact hj)]
          simp only [fR_len]
          exact List.getElem?_eq_getElem _
        refine g_ixL (v := .bl ((fR row.reverse row.length)[row.length - 1 - j]'(by rw [fR_len]; omega))) (O.lst 1) (atI_of (by omega) ?_) ?_
        · rw [show ((ws.length : Int) - 1 - j).toNat = row.length - 1 - j by omega, List.getElem?_map, List.getElem?_eq_getElem]
          rfl
        · refine g_lcPut O 0 rfl (small_of (by rw [List.length_map, List.length_take]; omega)) fun H4 O => ?_
          rw [List.take_add_one, hg, List.map_append]
          exact O
      · clear O hO
        intro D H3 nD O
        rw [List.take_of_length_le (by rw [frc_len]; omega)] at O
        exact q D H3 (O.sub ((List.Sublist.refl _).cons _ |>.cons_cons _))
def dfl (R : Addr) : List (Str × V) := [("rows", .ref R)]
theorem dfl_r (R : Addr) : (dfl R).lookup ("rows" : Str) = some (.ref R) := by
  unfold dfl
  rw [List.lookup_cons, show (("rows" : Str) == ("rows" : Str)) = true from by decide +kernel]
theorem dfl_n (R : Addr) {m : Str} (h : (m == ("rows" : Str)) = false) : (dfl R).lookup m = none := by
  unfold dfl
  rw [List.lookup_cons, h]
  rfl
theorem td_backs {H : Hp} {v : V} {q : Int} (h : Td H v (encD (.back q))) : ∃ a, v = .ref a ∧ H a = some (.tup [.str (Str.ofString "back"), .int q]) := by
  cases h with
  | tup h1 h2 =>
    cases h2 with
    | cons x1 h2 => cases h2 with
      | cons x2 h2 =>
        cases h2
        cases x1
        cases x2
        exact ⟨_, rfl, h1⟩

def sp_dforces (K : PySem.W.Frag) (C : Addr) : Sp := fun vs H Q _ => ∃ (o dx R a : Addr) (wsR ws : List V) (row : List Deed) (r : Int), vs = [.ref o, .int r] ∧ H o = some (.ins C dx (dfl R)) ∧ H R = some (.lst wsR) ∧ 0 ≤ r ∧ wsR[r.toNat]? = some (.ref a) ∧ H a = some (.lst ws) ∧ TdAll H ws (row.map encD) ∧ row.length ≤ 1000 ∧
  ∀ (p : Addr) (H' : Hp), Own H [(p, .lst ((frc row).map V.bl))] H' → Q (.ref p) H'

theorem ok_Deeds_forces (T : Txt K mg base) : FnOk P w K mg base CX0 1 T.a_Deeds_forces T.d_Deeds_forces P_Deeds_forces (sp_dforces K T.a_Deeds) := by
  refine T.F_Deeds_forces.ok sc_Deeds_forces (fun vs H Q E h => ?_) (fun cdv A outer s H vs Q E hr h => ?_)
  · obtain ⟨o, dx, R, a, wsR, ws, row, r, rfl, _⟩ := h
    rfl
  · obtain ⟨o, dx, R, a, wsR, ws, row, r, rfl, ho, hR, hr0, hra, ha, hT, hz, q⟩ := h
    refine ⟨_, (pss_cons (ps_set (i := 2) sc_Deeds_forces.nd rfl (Or.inl rfl) (pe_ix ix_seq (pe_fld (pv 0) rfl) (pv 1) (fun _ _ => rfl)))
        (pss_cons (ps_set (i := 3) sc_Deeds_forces.nd rfl (Or.inl rfl) pe_dnewK)
        (pss_cons (ps_set (i := 4) sc_Deeds_forces.nd rfl (Or.inl rfl) (pe_lst pa_nil))
        (pss_cons (ps_for PassesOwn.never rfl (pi_range3 (by rfl) T.z_range (pa_cons (pe_callB call_lenU (by rfl) T.z_len PySem.boot_len (pa_cons (pv 2) pa_nil)) (pa_cons pe_int (pa_cons (pe_un un_neg pe_int) pa_nil)))) (pg_name (i := 5) sc_Deeds_forces.nd rfl (Or.inl rfl))
          (pss_cons (ps_set (i := 6) sc_Deeds_forces.nd rfl (Or.inl rfl) (pe_cmp (pc_dnotin (hu_of hr) (pv 5) (pv 3)) rfl))
        (pss_cons (ps_if (PW.pt (pw_and (pt_val (pv 6)) (pw_and1 (pt_cmpR (op_eqU (hu64 hr)) (pe_ix ix_seq (pe_ix ix_seq (pv 2) (pe_op op_sub (pv 5) pe_int) (fun _ _ => rfl)) pe_int (fun _ _ => rfl)) pe_str (nomark _)))))
          (pss_one (ps_dput (hu_of hr) (pv 3) (pe_ix ix_seq (pe_ix ix_seq (pv 2) (pe_op op_sub (pv 5) pe_int) (fun _ _ => rfl)) pe_int (fun _ _ => rfl)) pe_bl rfl))
          pss_nil)
        (pss_one (ps_expr (pe_bm PySem.F.plainAttrs_list PySem.F.slot_list_append PySem.F.type_list_append mt_append (pv 4) (pa_cons (pv 6) pa_nil)))))))
        (pss_one (ps_ret (pe_revL (pv 4)))))))), ?_⟩
    have hwl := tds_len hT
    rw [List.length_map] at hwl
    walk_at "z"
    refine g_fldK ho T.cl_Deeds T.n_Deeds_rows (dfl_r R) ?_
    walk_at "z"
    refine g_ixL (.inl (.inl hR)) (atI_of hr0 hra) ?_
    walk_at "z"
    refine g_newQ (Own.start H) fun t H1 nt O => ?_
    walk_at "z"
    refine g_new (Nat.zero_le _) O fun p H2 np O => ?_
    walk_at "z"
    refine g_lenL (.inl (.inl (O.fr _ _ ha))) ?_
    walk_at "z"
    refine g_rng3v (RgC.neg (by omega) (by omega) (by omega) (by omega)) ?_
    refine forB_rngc (fun k σ H' => ∃ (kvs : List (Key × V)) (x5 x6 : Option V), σ = [some (.ref o), some (.int r), some (.ref a), some (.ref t), some (.ref p), x5, x6] ∧ Own H [(p, .lst ((fR row.reverse k).map V.bl)), (t, .dK kvs)] H' ∧ kvs.length ≤ k ∧ ∀ i, (valV kvs (.inl i)).isSome = takenBy row.reverse (fR row.reverse k) i) ?_ ?_ ?_
    · exact ⟨[], none, none, rfl, O, Nat.le_refl _, fun i => rfl⟩
    · clear O
      rintro k σ H3 hk ⟨kvs, x5, x6, rfl, O, hkl, hkv⟩
      have hk : k < row.length := by omega
      have hfl := fR_len row.reverse k
      have hrl : row.reverse.length = row.length := List.length_reverse ..
      walk_at "z"
      refine g_dnotinI (O.get 1) ?_
      rw [hkv, show ((ws.length : Int) + (k : Nat) * -1) = (row.length : Int) - k by omega]
      walk_at "z"
      obtain ⟨v, hv, hTv⟩ := tds_at hT (j := row.length - 1 - k) (by omega)
      have er : row.reverse[(fR row.reverse k).length]? = some (row[row.length - 1 - k]'(by omega)) := by
        rw [hfl, List.getElem?_reverse (by omega), List.getElem?_eq_getElem (by omega)]
      have hv' : atI ws ((row.length : Int) - k - 1) = some v := atI_of (by omega) (by rw [show ((row.length : Int) - k - 1).toNat = row.length - 1 - k by omega]; exact hv)
      have nxt : ∀ (kvs' : List (Key × V)) H4, Own H [(p, .lst ((fR row.reverse k).map V.bl)), (t, .dK kvs')] H4 → kvs'.length ≤ k + 1 → (∀ i, (valV kvs' (.inl i)).isSome = (takenBy row.reverse (fR row.reverse k) i || ((!takenBy row.reverse (fR row.reverse k) ((row.length : Int) - k)) && isBack i (some (row[row.length - 1 - k]'(by omega)))))) →
          ∀ H5, Own H [(p, .lst ((fR row.reverse k).map V.bl ++ [.bl (!takenBy row.reverse (fR row.reverse k) ((row.length : Int) - k))])), (t, .dK kvs')] H5 → ∃ (kvs : List (Key × V)) (x5 x6 : Option V), [some (.ref o), some (.int r), some (.ref a), some (.ref t), some (.ref p), some (.int ((row.length : Int) - k)), some (.bl (!takenBy row.reverse (fR row.reverse k) ((row.length : Int) - k)))] = [some (.ref o), some (.int r), some (.ref a), some (.ref t), some (.ref p), x5, x6] ∧ Own H [(p, .lst ((fR row.reverse (k + 1)).map V.bl)), (t, .dK kvs)] H5 ∧ kvs.length ≤ k + 1 ∧ ∀ i, (valV kvs (.inl i)).isSome = takenBy row.reverse (fR row.reverse (k + 1)) i := fun kvs' H4 _ hl hk' H5 O => by
        refine ⟨kvs', _, _, rfl, ?_, hl, fun i => ?_⟩
        · show Own H [(p, .lst ((fR row.reverse k ++ [!takenBy row.reverse (fR row.reverse k) ((row.reverse.length : Int) - k)]).map V.bl)), _] H5
          rw [hrl, List.map_append]
          exact O
        · show _ = takenBy row.reverse (fR row.reverse k ++ [!takenBy row.reverse (fR row.reverse k) ((row.reverse.length : Int) - k)]) i
          rw [takenBy_snoc, er, hrl]
          exact hk' i
      have stay : ∀ H4, isBack 0 none = false → ((!takenBy row.reverse (fR row.reverse k) ((row.length : Int) - k)) = false ∨ ∀ i, isBack i (some (row[row.length - 1 - k]'(by omega))) = false) → Own H [(p, .lst ((fR row.reverse k).map V.bl)), (t, .dK kvs)] H4 → ∀ i, (valV kvs (.inl i)).isSome = (takenBy row.reverse (fR row.reverse k) i || ((!takenBy row.reverse (fR row.reverse k) ((row.length : Int) - k)) && isBack i (some (row[row.length - 1 - k]'(by omega))))) := fun H4 _ hc _ i => by
        rw [hkv]
        rcases hc with hc | hc
        · rw [hc]; simp
        · rw [hc i]; simp
      refine ite_b (fun hb => ?_) (fun hb => ?_)
      · walk_at "z"
        refine g_ixL (.inl (.inl (O.fr _ _ ha))) hv' ?_
        walk_at "z"
        cases hd : row[row.length - 1 - k]'(by omega) with
        | back q0 =>
          rw [hd] at hTv
          obtain ⟨b, rfl, hbb⟩ := td_backs hTv
          refine g_ixT (.inl (.inl (O.fr _ _ hbb))) (atI_nat (j := 0) rfl) ?_
          walk_at "z"
          refine g_eqS ?_
          walk_at "z"
          refine ite_d (fun _ => ?_) (fun h => absurd rfl h)
          walk_at "z"
          refine g_ixL (.inl (.inl (O.fr _ _ ha))) hv' ?_
          walk_at "z"
          refine g_ixT (.inl (.inl (O.fr _ _ hbb))) (atI_nat (j := 1) rfl) ?_
          refine g_dputI O 1 rfl (small_of (by omega)) fun H4 O => ?_
          walk_at "z"
          refine g_tyL (O.lst 0) ?_
          walk_at "z"
          have O0 := O
          refine g_append O 0 rfl (small_of (by rw [List.length_map, hfl]; omega)) fun H5 O => ?_
          refine nxt _ H4 O0 (by have := length_putK kvs (.inl q0) (V.bl true); omega) (fun i => ?_) H5 O
          rw [valV_put, hb, hd]
          show _ = (_ || (true && (q0 == i)))
          by_cases hi : i = q0
          · rw [if_pos (by rw [hi]), hi]
            simp
          · rw [if_neg (fun h => hi (Sum.inl.inj h)), hkv, beq_eq_false_iff_ne.mpr (Ne.symm hi)]
            simp
        | chg m rm bh n tx =>
          rw [hd] at hTv
          obtain ⟨b, vr, vb, rfl, hbb, _, _⟩ := td_chg hTv
          refine g_ixT (.inl (.inl (O.fr _ _ hbb))) (atI_nat (j := 0) rfl) ?_
          walk_at "z"
          refine g_eqS ?_
          walk_at "z"
          refine ite_d (fun h => absurd h (by decide +kernel)) (fun _ => ?_)
          walk_at "z"
          refine g_tyL (O.lst 0) ?_
          walk_at "z"
          have O0 := O
          refine g_append O 0 rfl (small_of (by rw [List.length_map, hfl]; omega)) fun H5 O => ?_
          exact nxt _ H3 O0 (by omega) (stay H3 rfl (.inr fun i => by rw [hd]; rfl) O0) H5 O
      · refine iteF ?_
        walk_at "z"
        refine g_tyL (O.lst 0) ?_
        walk_at "z"
        have O0 := O
        refine g_append O 0 rfl (small_of (by rw [List.length_map, hfl]; omega)) fun H5 O => ?_
        exact nxt _ H3 O0 (by omega) (stay H3 rfl (.inl hb) O0) H5 O
    · rintro σ H3 ⟨kvs, x5, x6, rfl, O, hkl, hkv⟩
      walk_at "z"
      refine ⟨.ref p, rfl, p, _, rfl, O.lst 0, own_new O fun p2 H4 np2 O => ?_⟩
      have O : Own H [(p2, .lst ((fR row.reverse ((ws.length : Int) - 0).toNat).map V.bl).reverse)] H4 := O.sub ((((List.Sublist.refl []).cons _).cons _).cons_cons _)
      rw [show ((ws.length : Int) - 0).toNat = row.length by omega, ← List.map_reverse] at O
      exact q p2 H4 O

/-! ### rows of deeds -/
abbrev Rows := List (List Deed)
def isM (m : Str) : Deed → Bool
  | .chg m' _ _ _ _ => decide (m' = m)
  | _ => false
abbrev Chg := Int × Deed × Bool
def encC (x : Chg) : PyData := .tuple [.int x.1, encD x.2.1, .bool x.2.2]
def chgP (m : Str) (r : Int) (l : List (Deed × Bool)) : List Chg := (l.filter fun x => isM m x.1).map fun x => (r, x.1, x.2)
def chg1 (m : Str) (r : Int) (row : List Deed) : List Chg := chgP m r (row.zip (frc row))
def rowN (rows : Rows) (r : Nat) : List Deed := rows.getD r []
def chgN (m : Str) (rows : Rows) (k : Nat) : List Chg := (List.range k).flatMap fun r : Nat => chg1 m (r : Int) (rowN rows r)
theorem chgP_snoc (m : Str) (r : Int) (l : List (Deed × Bool)) (x : Deed × Bool) : chgP m r (l ++ [x]) = chgP m r l ++ (if isM m x.1 then [(r, x.1, x.2)] else []) := by
  unfold chgP
  rw [List.filter_append, List.map_append]
  congr 1
  rw [List.filter_cons]
  cases isM m x.1 <;> rfl
theorem chgN_succ (m : Str) (rows : Rows) (k : Nat) : chgN m rows (k + 1) = chgN m rows k ++ chg1 m k (rowN rows k) := by
  unfold chgN
  rw [List.range_succ, List.flatMap_append, List.flatMap_cons, List.flatMap_nil, List.append_nil]
theorem take_succ_of {α : Type} {l : List α} {i : Nat} {x : α} (h : l[i]? = some x) : l.take (i + 1) = l.take i ++ [x] := by rw [List.take_add_one, h]; rfl
structure RowsAt (H : Hp) (R : Addr) (as : List Addr) (rows : Rows) : Prop where
  top : H R = some (.lst (as.map V.ref))
  len : as.length = rows.length
  row : ∀ (i : Nat) (a : Addr), as[i]? = some a → ∃ ws, H a = some (.lst ws) ∧ TdAll H ws ((rowN rows i).map encD)
theorem RowsAt.ex {H H' : Hp} {R : Addr} {as : List Addr} {rows : Rows} (e : Same H H') (h : RowsAt H R as rows) : RowsAt H' R as rows := ⟨e _ _ h.top, h.len, fun i a ha => by
  obtain ⟨ws, h1, h2⟩ := h.row i a ha
  exact ⟨ws, e _ _ h1, tds_ex e h2⟩⟩
theorem RowsAt.dels {H : Hp} {R P : Addr} {as : List Addr} {rows : Rows} {ps : Array Value} (hP : H P = some (.tbl ps)) (h : RowsAt H R as rows) : RowsAt (dels H [P]) R as rows := ⟨dels1 hP h.top (fun q => nomatch q), h.len, fun i a ha => by
  obtain ⟨ws, h1, h2⟩ := h.row i a ha
  exact ⟨ws, dels1 hP h1 (fun q => nomatch q), (dels1_imm hP rfl).tds h2⟩⟩
structure Sz (rows : Rows) : Prop where
  len : rows.length = 8
  row : ∀ row ∈ rows, row.length ≤ 200
theorem Sz.at {rows : Rows} (h : Sz rows) (i : Nat) : (rowN rows i).length ≤ 200 := by
  unfold rowN
  rw [List.getD_eq_getElem?_getD]
  cases e : rows[i]? with
  | none => exact Nat.zero_le _
  | some r => exact h.row r (List.mem_of_getElem? e)
theorem RowsAt.at {H : Hp} {R : Addr} {as : List Addr} {rows : Rows} (h : RowsAt H R as rows) {i : Nat} (hi : i < rows.length) : ∃ a ws, (as.map V.ref)[i]? = some (.ref a) ∧ as[i]? = some a ∧ H a = some (.lst ws) ∧ TdAll H ws ((rowN rows i).map encD) ∧ ws.length = (rowN rows i).length := by
  have hl := h.len
  obtain ⟨ws, h1, h2⟩ := h.row i as[i] (List.getElem?_eq_getElem (by omega))
  have h3 := tds_len h2
  rw [List.length_map] at h3
  exact ⟨as[i], ws, by rw [List.getElem?_map, List.getElem?_eq_getElem (by omega)]; rfl, List.getElem?_eq_getElem (by omega), h1, h2, h3⟩
def DOkR (rows : Rows) : Prop := ∀ i, DOkAll (rowN rows i)
theorem td_C {B : Hp} {b c : Addr} {r : Int} {d : Deed} {f : Bool} {v : V} (h : B c = some (.tup [.int r, v, .bl f])) (hd : Td B v (encD d)) : Td B (.ref c) (encC (r, d, f)) := .tup h (.cons (.int _) (.cons hd (.cons (.bl _) .nil)))
theorem zip_snoc {row : List Deed} {k : Nat} (h : k < row.length) : (row.zip (frc row)).take (k + 1) = (row.zip (frc row)).take k ++ [(row[k], (frc row)[k]'(by rw [frc_len]; exact h))] := by
  have hl := frc_len row
  refine take_succ_of ?_
  rw [List.getElem?_zip_eq_some]
  exact ⟨List.getElem?_eq_getElem h, List.getElem?_eq_getElem (by omega)⟩
theorem chg1_all (m : Str) (r : Int) (row : List Deed) : chgP m r ((row.zip (frc row)).take row.length) = chg1 m r row := by
  rw [List.take_of_length_le]
  · rfl
  · rw [List.length_zip]; omega
theorem chgP_le (m : Str) (r : Int) (l : List (Deed × Bool)) : (chgP m r l).length ≤ l.length := by
  unfold chgP
  rw [List.length_map]
  exact List.length_filter_le _ _
theorem chgN_le (m : Str) {rows : Rows} (h : Sz rows) : ∀ k, (chgN m rows k).length ≤ 200 * k
  | 0 => Nat.le_refl _
  | k + 1 => by
    have ih := chgN_le m h k
    have h1 := chgP_le m k ((rowN rows k).zip (frc (rowN rows k)))
    have h2 := h.at k
    rw [chgN_succ, List.length_append]
    have h3 : ((rowN rows k).zip (frc (rowN rows k))).length ≤ 200 := by rw [List.length_zip]; omega
    have h4 : (chg1 m k (rowN rows k)).length ≤ 200 := by unfold chg1; omega
    omega
theorem td_mod {H : Hp} {v : V} {d : Deed} (h : Td H v (encD d)) : ∃ a xs, v = .ref a ∧ H a = some (.tup xs) ∧ ((∃ p, d = .back p ∧ xs = [.str (Str.ofString "back"), .int p]) ∨ (∃ m rm bh n t vr vb, d = .chg m rm bh n t ∧ xs = [.str (Str.ofString "change"), .str m, vr, vb, .int n, .str (S t)] ∧ Td H vr (.tuple (rm.map kzD)) ∧ Td H vb (encO bh))) := by
  cases d with
  | back p =>
    obtain ⟨a, rfl, h1⟩ := td_backs h
    exact ⟨a, _, rfl, h1, .inl ⟨p, rfl, rfl⟩⟩
  | chg m rm bh n t =>
    obtain ⟨a, vr, vb, rfl, h1, h2, h3⟩ := td_chg h
    exact ⟨a, _, rfl, h1, .inr ⟨m, rm, bh, n, t, vr, vb, rfl, rfl, h2, h3⟩⟩


def sp_lchanges (K : PySem.W.Frag) : Sp := fun vs H Q _ => ∃ (R : Addr) (as : List Addr) (rows : Rows) (m : Str), vs = [.ref R, .str m] ∧ RowsAt H R as rows ∧ Sz rows ∧ DOkR rows ∧
  ∀ (B' : Hp) (p : Addr) (ws : List V) (H' : Hp), Same H B' → Own B' [(p, .lst ws)] H' → TdAll B' ws ((chgN m rows 8).map encC) → Q (.ref p) H'

theorem ok__law_changes (T : Txt K mg base) : FnOk P w K mg base CX0 2 T.a__law_changes T.d__law_changes P__law_changes (sp_lchanges K) := by
  refine T.F__law_changes.ok sc__law_changes (fun vs H Q E h => ?_) (fun cdv A outer s H vs Q E hr h => ?_)
  · obtain ⟨R, as, rows, m, rfl, _⟩ := h
    rfl
  · obtain ⟨R, as, rows, m, rfl, hR, hz, hok, q⟩ := h
    refine ⟨_, (pss_cons (ps_set (i := 2) sc__law_changes.nd rfl (Or.inl rfl) (pe_lst pa_nil))
        (pss_cons (ps_for PassesOwn.never rfl (pi_range1 (by rfl) T.z_range (pa_cons pe_int pa_nil)) (pg_name (i := 3) sc__law_changes.nd rfl (Or.inl rfl))
          (pss_cons (ps_set (i := 4) sc__law_changes.nd rfl (Or.inl rfl) (pe_call (ok__law_forces T) (hr.mono (by omega)) (by rfl) T.g__law_forces T.F__law_forces.kp T.b__law_forces .nil pass0 (pa_cons (pe_ix ix_seq (pv 0) (pv 3) (fun _ _ => rfl)) pa_nil)))
        (pss_one (ps_for PassesOwn.never rfl (pi_range1 (by rfl) T.z_range (pa_cons (pe_callB call_lenU (by rfl) T.z_len PySem.boot_len (pa_cons (pe_ix ix_seq (pv 0) (pv 3) (fun _ _ => rfl)) pa_nil)) pa_nil)) (pg_name (i := 5) sc__law_changes.nd rfl (Or.inl rfl))
          (pss_one (ps_if (PW.pt (pw_and (pt_cmpR (op_eqU (hu64 hr)) (pe_ix ix_seq (pe_ix ix_seq (pe_ix ix_seq (pv 0) (pv 3) (fun _ _ => rfl)) (pv 5) (fun _ _ => rfl)) pe_int (fun _ _ => rfl)) pe_str (nomark _)) (pw_and1 (pt_cmpR (op_eqU (hu64 hr)) (pe_ix ix_seq (pe_ix ix_seq (pe_ix ix_seq (pv 0) (pv 3) (fun _ _ => rfl)) (pv 5) (fun _ _ => rfl)) pe_int (fun _ _ => rfl)) (pv 1) (nomark _)))))
          (pss_one (ps_expr (pe_bm PySem.F.plainAttrs_list PySem.F.slot_list_append PySem.F.type_list_append mt_append (pv 2) (pa_cons (pe_tup (pa_cons (pv 3) (pa_cons (pe_ix ix_seq (pe_ix ix_seq (pv 0) (pv 3) (fun _ _ => rfl)) (pv 5) (fun _ _ => rfl)) (pa_cons (pe_ix ix_seq (pv 4) (pv 5) (fun _ _ => rfl)) pa_nil)))) pa_nil))))
          pss_nil))))))
        (pss_one (ps_ret (pv 2))))), ?_⟩
    walk_at "z"
    refine g_new (Nat.zero_le _) (Own.start H) fun p H1 np O => ?_
    walk_at "z"
    refine forB_rng0 (fun r σ H' => ∃ (B' : Hp) (ws : List V) (x3 x4 x5 : Option V), σ = [some (.ref R), some (.str m), some (.ref p), x3, x4, x5] ∧ Same H B' ∧ Own B' [(p, .lst ws)] H' ∧ TdAll B' ws ((chgN m rows r).map encC)) ?_ ?_ ?_
    · exact ⟨H, [], _, _, _, rfl, Same.refl _, O, .nil⟩
    · clear O
      rintro r σ H2 hr8 ⟨B, ws, x3, x4, x5, rfl, eB, O, hT⟩
      have hr8 : r < 8 := by omega
      obtain ⟨a, rs, ha1, ha2, ha, hrs, hrl⟩ := (hR.ex eB).at (i := r) (by rw [hz.len]; omega)
      have hz1 := hz.at r
      have hwl := tds_len hT
      rw [List.length_map] at hwl
      have hc := chgN_le m hz r
      walk_at "z"
      refine g_ixL (.inl (.inl (O.fr _ _ (hR.ex eB).top))) (atI_nat ha1) ?_
      walk_at "z"
      refine ⟨a, rs, rowN rows r, rfl, .inl (.inl (O.fr _ _ ha)), tds_ex O.fr hrs, hok r, by omega, fun p2 H3 O2 => ?_⟩
      have O := O.join O2
      walk_at "z"
      refine g_ixL (.inl (.inl (O.fr _ _ (hR.ex eB).top))) (atI_nat ha1) ?_
      walk_at "z"
      refine g_lenL (.inl (.inl (O.fr _ _ ha))) ?_
      refine g_rng1v ⟨by omega, by omega⟩ ?_
      refine forB_rng0 (fun k σ H' => ∃ (B' : Hp) (ws : List V) (x5 : Option V), σ = [some (.ref R), some (.str m), some (.ref p), some (.int (r : Nat)), some (.ref p2), x5] ∧ Same B B' ∧ Own B' [(p2, .lst ((frc (rowN rows r)).map V.bl)), (p, .lst ws)] H' ∧ TdAll B' ws ((chgN m rows r ++ chgP m r (((rowN rows r).zip (frc (rowN rows r))).take k)).map encC)) ?_ ?_ ?_
      · exact ⟨B, ws, x5, rfl, Same.refl _, O, by rw [List.take_zero]; simpa [chgP] using hT⟩
      · clear O hT O2
        rintro k σ H3 hk ⟨B2, ws, x5, rfl, e2, O, hT⟩
        have hk : k < (rowN rows r).length := by omega
        have hRR := hR.ex (eB.trans e2)
        have ha := e2 _ _ ha
        have hrs := tds_ex e2 hrs
        obtain ⟨v, hv, hTv⟩ := tds_at hrs hk
        obtain ⟨b, xs, rfl, hb, hcase⟩ := td_mod hTv
        have hwl := tds_len hT
        rw [List.length_map, List.length_append] at hwl
        have hcp := chgP_le m r (((rowN rows r).zip (frc (rowN rows r))).take k)
        rw [List.length_take] at hcp
        rw [zip_snoc hk, chgP_snoc, ← List.append_assoc, List.map_append]
        walk_at "z"
        refine g_ixL (.inl (.inl (O.fr _ _ hRR.top))) (atI_nat ha1) ?_
        walk_at "z"
        refine g_ixL (.inl (.inl (O.fr _ _ ha))) (atI_nat hv) ?_
        walk_at "z"
        have fin : isM m (rowN rows r)[k] = false → ∃ (B' : Hp) (ws : List V) (x5' : Option V), [some (V.ref R), some (.str m), some (.ref p), some (.int (r : Nat)), some (.ref p2), some (.int (k : Nat))] = [some (V.ref R), some (.str m), some (.ref p), some (.int (r : Nat)), some (.ref p2), x5'] ∧ Same B B' ∧ Own B' [(p2, .lst ((frc (rowN rows r)).map V.bl)), (p, .lst ws)] H3 ∧ TdAll B' ws (List.map encC (chgN m rows r ++ chgP m r (List.take k ((rowN rows r).zip (frc (rowN rows r))))) ++ List.map encC (if isM m (rowN rows r)[k] = true then [((r : Int), (rowN rows r)[k], (frc (rowN rows r))[k]'(by rw [frc_len]; exact hk))] else [])) := fun hm => ⟨B2, ws, _, rfl, e2, O, by rw [hm]; simpa using hT⟩
        rcases hcase with ⟨q0, hd, rfl⟩ | ⟨m', rm, bh, n, t, vr, vb, hd, rfl, _, _⟩
        · refine g_ixT (.inl (.inl (O.fr _ _ hb))) (atI_nat (j := 0) rfl) ?_
          walk_at "z"
          refine g_eqS ?_
          walk_at "z"
          refine ite_d (fun h => absurd h (by decide +kernel)) (fun _ => ?_)
          exact iteF (fin (by rw [hd]; rfl))
        · refine g_ixT (.inl (.inl (O.fr _ _ hb))) (atI_nat (j := 0) rfl) ?_
          walk_at "z"
          refine g_eqS ?_
          walk_at "z"
          refine ite_d (fun _ => ?_) (fun h => absurd rfl h)
          walk_at "z"
          refine g_ixL (.inl (.inl (O.fr _ _ hRR.top))) (atI_nat ha1) ?_
          walk_at "z"
          refine g_ixL (.inl (.inl (O.fr _ _ ha))) (atI_nat hv) ?_
          walk_at "z"
          refine g_ixT (.inl (.inl (O.fr _ _ hb))) (atI_nat (j := 1) rfl) ?_
          walk_at "z"
          refine g_eqS ?_
          walk_at "z"
          refine ite_d (fun hm => ?_) (fun hm => fin (by rw [hd]; exact decide_eq_false hm))
          walk_at "z"
          refine g_tyL (O.lst 1) ?_
          walk_at "z"
          refine g_ixL (.inl (.inl (O.fr _ _ hRR.top))) (atI_nat ha1) ?_
          walk_at "z"
          refine g_ixL (.inl (.inl (O.fr _ _ ha))) (atI_nat hv) ?_
          walk_at "z"
          refine g_ixL (v := .bl ((frc (rowN rows r))[k]'(by rw [frc_len]; exact hk))) (O.lst 0) (atI_nat (by rw [List.getElem?_map, List.getElem?_eq_getElem (by rw [frc_len]; exact hk)]; rfl)) ?_
          walk_at "z"
          refine g_new (small_le (by simp)) O fun c H4 nc O => ?_
          obtain ⟨B3, e3, hc3, O⟩ := fz O
          walk_at "z"
          refine g_append O 1 rfl (small_of (by omega)) fun H5 O => ?_
          refine ⟨B3, _, _, rfl, e2.trans e3, O, ?_⟩
          rw [show isM m (rowN rows r)[k] = true by rw [hd]; exact decide_eq_true hm]
          exact tds_snoc (tds_ex e3 hT) (td_C (b := c) hc3 (td_ex e3 hTv))
      · clear O hT O2
        rintro σ H3 ⟨B2, ws, x5, rfl, e2, O, hT⟩
        refine ⟨B2, ws, _, _, _, rfl, eB.trans e2, O.tail, ?_⟩
        rw [hrl, Int.toNat_natCast, chg1_all] at hT
        rw [chgN_succ]
        exact hT
    · clear O
      rintro σ H2 ⟨B, ws, x3, x4, x5, rfl, eB, O, hT⟩
      walk_at "z"
      exact q B p ws H2 eB O hT

def sp_dinit (C : Addr) : Sp := fun vs H Q _ => ∃ (x dx : Addr), vs = [.ref x] ∧ H x = some (.ins C dx []) ∧
  ∀ (R : Addr) (as : List Addr) (H' : Hp), as.length = 8 → Own (dels H [x]) ((R, .lst (as.map V.ref)) :: (rc as (List.replicate 8 []) ++ [(x, .ins C dx (dfl R))])) H' → Q .non H'

theorem ok_Deeds___init__ (T : Txt K mg base) : FnOk P w K mg base CX0 1 T.a_Deeds___init__ T.d_Deeds___init__ P_Deeds___init__ (sp_dinit T.a_Deeds) := by
  refine T.F_Deeds___init__.ok sc_Deeds___init__ (fun vs H Q E h => ?_) (fun cdv A outer s H vs Q E hr h => ?_)
  · obtain ⟨x, dx, rfl, _⟩ := h
    rfl
  · obtain ⟨x, dx, rfl, hx, q⟩ := h
    refine ⟨_, (pss_one (ps_fld (pv 0) (pe_lc (own := [("_", 1)]) rfl sc_Deeds___init__.nd (pi_range1 (by rfl) T.z_range (pa_cons (pe_glob (by rfl) T.c_REPLICAS T.r_REPLICAS) pa_nil)) (blkOk_by (own := [("_", 1)]) (N := N_Deeds___init__) (sc := defScope s_Deeds___init__) (by decide +kernel)) (fun _ _ _ _ _ => (pg_name (i := 1) sc_Deeds___init__.nd rfl (Or.inl rfl))) (fun _ _ _ _ _ => pts_nil) (fun _ _ _ _ _ => (pe_lst pa_nil))) rfl)), ?_⟩
    have O := Own.arg1 hx
    walk_at "z"
    refine lcB_rng0 (fun D i H' => ∃ as : List Addr, as.length = i ∧ Own (dels H [x]) ((D, .lst (as.map V.ref)) :: (rc as (List.replicate i []) ++ [(x, .ins T.a_Deeds dx [])])) H') ?_ ?_ ?_
    · intro D nD
      exact ⟨[], rfl, O.alloc nD⟩
    · clear O
      rintro D i H1 hi ⟨as, hl, O⟩
      walk_at "z"
      refine iteT ?_
      walk_at "z"
      refine g_new (Nat.zero_le _) O fun l H2 nl O => ?_
      refine g_lcPut O 1 rfl (small_of (by rw [List.length_map]; omega)) fun H3 O => ?_
      refine ⟨as ++ [l], by rw [List.length_append]; show as.length + 1 = _; omega, ?_⟩
      rw [List.replicate_succ', rc_snoc (by rw [List.length_replicate]; exact hl), List.map_append]
      refine O.perm (List.Perm.symm ?_)
      show ((l, HO.lst []) :: (D, HO.lst (as.map V.ref ++ [V.ref l])) :: (rc as (List.replicate i []) ++ [(x, HO.ins T.a_Deeds dx [])])).Perm ((D, HO.lst (as.map V.ref ++ [V.ref l])) :: (rc as (List.replicate i []) ++ [(l, HO.lst [])] ++ [(x, HO.ins T.a_Deeds dx [])]))
      rw [List.append_assoc]
      exact (List.Perm.swap _ _ _).trans (List.Perm.cons _ List.perm_middle.symm)
    · clear O
      rintro D H1 nD ⟨as, hl, O⟩
      walk_at "z"
      have O2 : Own (dels H [x]) ((x, .ins T.a_Deeds dx []) :: (D, .lst (as.map V.ref)) :: rc as (List.replicate 8 [])) H1 := O.perm (List.perm_append_singleton _ ((D, HO.lst (as.map V.ref)) :: rc as (List.replicate 8 []))).symm
      refine g_sFldK O2 0 rfl T.cl_Deeds T.n_Deeds_rows (by decide) fun H2 O => ?_
      refine q D as H2 hl (O.perm ?_)
      exact List.perm_append_singleton (x, HO.ins T.a_Deeds dx (dfl D)) ((D, HO.lst (as.map V.ref)) :: rc as (List.replicate 8 []))
def cntV (rows : Rows) : List V := (rows.map fun row => (row.length : Int)).map V.int
structure DeedsAt (H : Hp) (C o R : Addr) (as : List Addr) (rows : Rows) : Prop where
  obj : ∃ dx, H o = some (.ins C dx (dfl R))
  rows : RowsAt H R as rows
theorem DeedsAt.ex {H H' : Hp} {C o R : Addr} {as : List Addr} {rows : Rows} (e : Same H H') (h : DeedsAt H C o R as rows) : DeedsAt H' C o R as rows := ⟨by obtain ⟨dx, h⟩ := h.obj; exact ⟨dx, e _ _ h⟩, h.rows.ex e⟩
def sp_dcounts (C : Addr) : Sp := fun vs H Q _ => ∃ (o R : Addr) (as : List Addr) (rows : Rows), vs = [.ref o] ∧ DeedsAt H C o R as rows ∧ Sz rows ∧
  ∀ (p : Addr) (H' : Hp), Own H [(p, .lst (cntV rows))] H' → Q (.ref p) H'

theorem ok_Deeds_counts (T : Txt K mg base) : FnOk P w K mg base CX0 1 T.a_Deeds_counts T.d_Deeds_counts P_Deeds_counts (sp_dcounts T.a_Deeds) := by
  refine T.F_Deeds_counts.ok sc_Deeds_counts (fun vs H Q E h => ?_) (fun cdv A outer s H vs Q E hr h => ?_)
  · obtain ⟨o, R, as, rows, rfl, _⟩ := h
    rfl
  · obtain ⟨o, R, as, rows, rfl, ⟨⟨dx, ho⟩, hR⟩, hz, q⟩ := h
    refine ⟨_, (pss_one (ps_ret (pe_lc (own := [("row", 1)]) rfl sc_Deeds_counts.nd (pi_list (pe_fld (pv 0) rfl)) (blkOk_by (own := [("row", 1)]) (N := N_Deeds_counts) (sc := defScope s_Deeds_counts) (by decide +kernel)) (fun _ _ _ _ _ => (pg_name (i := 1) sc_Deeds_counts.nd rfl (Or.inl rfl))) (fun _ _ _ _ _ => pts_nil) (fun _ _ _ _ _ => (pe_callB (show CallR _ _ (rLenU K) from call_lenU) (by rfl) T.z_len PySem.boot_len (pa_cons (pv 1) pa_nil)))))), ?_⟩
    walk_at "z"
    refine g_fldK ho T.cl_Deeds T.n_Deeds_rows (dfl_r R) ?_
    walk_at "z"
    refine g_iListv (.inl (.inl hR.top)) ?_
    have hal := hR.len
    have hml : (as.map V.ref).length = as.length := List.length_map ..
    refine lcB_list (as.map V.ref) (fun D i H' => Own H [(D, .lst ((cntV rows).take i))] H') ?_ ?_ ?_ ?_
    · intro D nD
      exact (Own.start H).alloc nD
    · intro D i H1 _ O
      exact .inl (.inl (O.fr _ _ hR.top))
    · intro D i x H1 hx O
      have hi : i < rows.length := by have := (List.getElem?_eq_some_iff.mp hx).1; omega
      obtain ⟨a, ws, ha1, ha2, ha, hT, hwl⟩ := hR.at hi
      rw [ha1] at hx
      cases hx
      have hrw : rows[i]? = some rows[i] := List.getElem?_eq_getElem hi
      have hrN : rowN rows i = rows[i] := by unfold rowN; rw [List.getD_eq_getElem?_getD, hrw]; rfl
      have hz1 := hz.len
      walk_at "z"
      refine iteT ?_
      walk_at "z"
      refine g_lenL (.inl (.inl (O.fr _ _ ha))) ?_
      refine g_lcPut O 0 rfl (small_of (by rw [List.length_take]; omega)) fun H2 O => ?_
      rw [hwl] at O
      rw [take_succ_of (x := V.int ((rowN rows i).length : Nat)) (by unfold cntV; rw [List.getElem?_map, List.getElem?_map, hrw, hrN]; rfl)]
      exact O
    · intro D H1 nD O
      rw [List.take_of_length_le (by unfold cntV; rw [List.length_map, List.length_map]; omega)] at O
      exact q D H1 O
def sp_dadd (C : Addr) : Sp := fun vs H Q _ => ∃ (o dx R a : Addr) (as : List Addr) (r : Int) (v : V) (ws : List V), vs = [.ref o, .int r, v] ∧ H o = some (.ins C dx (dfl R)) ∧ H R = some (.lst (as.map V.ref)) ∧ 0 ≤ r ∧ as[r.toNat]? = some a ∧ H a = some (.lst ws) ∧ ws.length ≤ 1000 ∧
  ∀ (H' : Hp), (∀ b u, b ≠ a → H b = some u → H' b = some u) → H' a = some (.lst (ws ++ [v])) → Q .non H'

theorem ok_Deeds_add (T : Txt K mg base) : FnOk P w K mg base CX0 1 T.a_Deeds_add T.d_Deeds_add P_Deeds_add (sp_dadd T.a_Deeds) := by
  refine T.F_Deeds_add.ok sc_Deeds_add (fun vs H Q E h => ?_) (fun cdv A outer s H vs Q E hr h => ?_)
  · obtain ⟨o, dx, R, a, as, r, v, ws, rfl, _⟩ := h
    rfl
  · obtain ⟨o, dx, R, a, as, r, v, ws, rfl, ho, hR, hr0, hra, ha, hwz, q⟩ := h
    refine ⟨_, (pss_one (ps_expr (pe_bm PySem.F.plainAttrs_list PySem.F.slot_list_append PySem.F.type_list_append mt_append (pe_ix ix_seq (pe_fld (pv 0) rfl) (pv 1) (fun _ _ => rfl)) (pa_cons (pv 2) pa_nil)))), ?_⟩
    have O := Own.arg1 ha
    walk_at "z"
    refine g_fldK ho T.cl_Deeds T.n_Deeds_rows (dfl_r R) ?_
    walk_at "z"
    refine g_ixL (.inl (.inl hR)) (atI_of hr0 (show (as.map V.ref)[r.toNat]? = some (.ref a) by rw [List.getElem?_map, hra]; rfl)) ?_
    refine g_tyL (.inl (.inl ha)) ?_
    walk_at "z"
    refine g_append O 0 rfl (small_of (by omega)) fun H1 O => ?_
    exact q H1 O.give1 (O.get 0)
def sp_dinforce (C : Addr) : Sp := fun vs H Q _ => ∃ (o R : Addr) (as : List Addr) (rows : Rows) (r k : Nat), vs = [.ref o, .int (r : Int), .int ((k : Int) + 1)] ∧ DeedsAt H C o R as rows ∧ Sz rows ∧ r < 8 ∧ k < (rowN rows r).length ∧
  ∀ (b : Bool) (H' : Hp), (frc (rowN rows r))[k]? = some b → Same H H' → Q (.bl b) H'

theorem ok_Deeds_in_force (T : Txt K mg base) : FnOk P w K mg base CX0 2 T.a_Deeds_in_force T.d_Deeds_in_force P_Deeds_in_force (sp_dinforce T.a_Deeds) := by
  refine T.F_Deeds_in_force.ok sc_Deeds_in_force (fun vs H Q E h => ?_) (fun cdv A outer s H vs Q E hr h => ?_)
  · obtain ⟨o, R, as, rows, r, k, rfl, _⟩ := h
    rfl
  · obtain ⟨o, R, as, rows, r, k, rfl, ⟨⟨dx, ho⟩, hR⟩, hz, hr8, hk, q⟩ := h
    refine ⟨_, (pss_one (ps_ret (pe_ix ix_seq (pe_meth (pv 0) T.cl_Deeds T.m_Deeds_forces (ok_Deeds_forces T) (hr.mono (by omega)) T.b_Deeds_forces .nil pass0 (pa_cons (pv 1) pa_nil)) (pe_op op_sub (pv 2) pe_int) (fun _ _ => rfl)))), ?_⟩
    obtain ⟨a, ws, ha1, ha2, ha, hT, hwl⟩ := hR.at (i := r) (by rw [hz.len]; exact hr8)
    have hz1 := hz.at r
    walk_at "z"
    refine g_methK ho (dfl_n R (by decide +kernel)) ?_
    walk_at "z"
    refine ⟨o, dx, R, a, as.map V.ref, ws, rowN rows r, r, rfl, ho, hR.top, by omega, by rw [Int.toNat_natCast]; exact ha1, ha, hT, by omega, fun p H1 O => ?_⟩
    walk_at "z"
    have hf : (frc (rowN rows r))[k]? = some ((frc (rowN rows r))[k]'(by rw [frc_len]; exact hk)) := List.getElem?_eq_getElem _
    refine g_ixL (O.lst 0) (atI_of (by omega) (show _ = some (V.bl ((frc (rowN rows r))[k]'(by rw [frc_len]; exact hk))) by rw [show ((k : Int) + 1 - 1).toNat = k by omega, List.getElem?_map, hf]; rfl)) ?_
    exact q _ H1 hf O.fr
def sp_dchanges (C : Addr) : Sp := fun vs H Q _ => ∃ (o R : Addr) (as : List Addr) (rows : Rows) (m : Str), vs = [.ref o, .str m] ∧ DeedsAt H C o R as rows ∧ Sz rows ∧
  ∀ (B' : Hp) (p : Addr) (ws : List V) (H' : Hp), Same H B' → Own B' [(p, .lst ws)] H' → TdAll B' ws ((chgN m rows 8).map encC) → Q (.ref p) H'

theorem ok_Deeds_changes (T : Txt K mg base) : FnOk P w K mg base CX0 2 T.a_Deeds_changes T.d_Deeds_changes P_Deeds_changes (sp_dchanges T.a_Deeds) := by
  refine T.F_Deeds_changes.ok sc_Deeds_changes (fun vs H Q E h => ?_) (fun cdv A outer s H vs Q E hr h => ?_)
  · obtain ⟨o, R, as, rows, m, rfl, _⟩ := h
    rfl
  · obtain ⟨o, R, as, rows, m, rfl, ⟨⟨dx, ho⟩, hR⟩, hz, q⟩ := h
    refine ⟨_, (pss_cons (ps_set (i := 2) sc_Deeds_changes.nd rfl (Or.inl rfl) (pe_lst pa_nil))
        (pss_cons (ps_for PassesOwn.never rfl (pi_range1 (by rfl) T.z_range (pa_cons (pe_glob (by rfl) T.c_REPLICAS T.r_REPLICAS) pa_nil)) (pg_name (i := 3) sc_Deeds_changes.nd rfl (Or.inl rfl))
          (pss_one (ps_for PassesOwn.never rfl (pi_zip (by rfl) T.z_zip (pa_cons (pe_ix ix_seq (pe_fld (pv 0) rfl) (pv 3) (fun _ _ => rfl)) (pa_cons (pe_meth (pv 0) T.cl_Deeds T.m_Deeds_forces (ok_Deeds_forces T) (hr.mono (by omega)) T.b_Deeds_forces .nil pass0 (pa_cons (pv 3) pa_nil)) pa_nil))) (pg_tup rfl (pgs_cons (pg_name (i := 4) sc_Deeds_changes.nd rfl (Or.inl rfl)) (pgs_cons (pg_name (i := 5) sc_Deeds_changes.nd rfl (Or.inl rfl)) pgs_nil)))
          (pss_one (ps_if (PW.pt (pw_and (pt_cmpR (op_eqU (hu64 hr)) (pe_ix ix_seq (pv 4) pe_int (fun _ _ => rfl)) pe_str (nomark _)) (pw_and1 (pt_cmpR (op_eqU (hu64 hr)) (pe_ix ix_seq (pv 4) pe_int (fun _ _ => rfl)) (pv 1) (nomark _)))))
          (pss_one (ps_expr (pe_bm PySem.F.plainAttrs_list PySem.F.slot_list_append PySem.F.type_list_append mt_append (pv 2) (pa_cons (pe_tup (pa_cons (pv 3) (pa_cons (pv 4) (pa_cons (pv 5) pa_nil)))) pa_nil))))
          pss_nil)))))
        (pss_one (ps_ret (pv 2))))), ?_⟩
    walk_at "z"
    refine g_new (Nat.zero_le _) (Own.start H) fun p H1 np O => ?_
    walk_at "z"
    refine forB_rng0 (fun r σ H' => ∃ (B' : Hp) (ws : List V) (x3 x4 x5 : Option V), σ = [some (.ref o), some (.str m), some (.ref p), x3, x4, x5] ∧ Same H B' ∧ Own B' [(p, .lst ws)] H' ∧ TdAll B' ws ((chgN m rows r).map encC)) ?_ ?_ ?_
    · exact ⟨H, [], _, _, _, rfl, Same.refl _, O, .nil⟩
    · clear O
      rintro r σ H2 hr8 ⟨B, ws, x3, x4, x5, rfl, eB, O, hT⟩
      have hr8 : r < 8 := by omega
      obtain ⟨a, rs, ha1, ha2, ha, hrs, hrl⟩ := (hR.ex eB).at (i := r) (by rw [hz.len]; omega)
      have hz1 := hz.at r
      have hwl := tds_len hT
      rw [List.length_map] at hwl
      have hc := chgN_le m hz r
      have hRR := hR.ex (eB.trans O.fr)
      have ho2 := O.fr _ _ (eB _ _ ho)
      walk_at "z"
      refine g_fldK ho2 T.cl_Deeds T.n_Deeds_rows (dfl_r R) ?_
      walk_at "z"
      refine g_ixL (.inl (.inl hRR.top)) (atI_nat ha1) ?_
      walk_at "z"
      refine g_methK ho2 (dfl_n R (by decide +kernel)) ?_
      walk_at "z"
      refine ⟨o, dx, R, a, as.map V.ref, rs, rowN rows r, r, rfl, ho2, hRR.top, by omega, by rw [Int.toNat_natCast]; exact ha1, O.fr _ _ ha, tds_ex O.fr hrs, by omega, fun p2 H3 O2 => ?_⟩
      have O := O.join O2
      walk_at "z"
      refine g_iZipv (.inl (.inl (O.fr _ _ ha))) (O.lst 0) ?_
      refine forB_zip rs ((frc (rowN rows r)).map V.bl) (by rw [List.length_map, frc_len]; omega) (fun k σ H' => ∃ (B' : Hp) (ws : List V) (x4 x5 : Option V), σ = [some (.ref o), some (.str m), some (.ref p), some (.int (r : Nat)), x4, x5] ∧ Same B B' ∧ Own B' [(p2, .lst ((frc (rowN rows r)).map V.bl)), (p, .lst ws)] H' ∧ TdAll B' ws ((chgN m rows r ++ chgP m r (((rowN rows r).zip (frc (rowN rows r))).take k)).map encC)) ?_ ?_ ?_ ?_
      · exact ⟨B, ws, x4, x5, rfl, Same.refl _, O, by rw [List.take_zero]; simpa [chgP] using hT⟩
      · rintro k σ H3 ⟨B2, ws, x4, x5, rfl, e2, O, hT⟩
        exact ⟨.inl (.inl (O.fr _ _ (e2 _ _ ha))), O.lst 0⟩
      · clear O hT O2
        rintro k v fv Tz σ H3 hv hfv nT ⟨B2, ws, x4, x5, rfl, e2, O, hT⟩
        have hk : k < (rowN rows r).length := by have := (List.getElem?_eq_some_iff.mp hv).1; omega
        have hrs := tds_ex e2 hrs
        obtain ⟨v', hv', hTv⟩ := tds_at hrs hk
        rw [hv] at hv'
        cases hv'
        have hfv' : fv = V.bl ((frc (rowN rows r))[k]'(by rw [frc_len]; exact hk)) := by
          rw [List.getElem?_map, List.getElem?_eq_getElem (by rw [frc_len]; exact hk)] at hfv
          exact (Option.some.inj hfv).symm
        subst hfv'
        obtain ⟨b, xs, rfl, hb, hcase⟩ := td_mod hTv
        have hwl := tds_len hT
        rw [List.length_map, List.length_append] at hwl
        have hcp := chgP_le m r (((rowN rows r).zip (frc (rowN rows r))).take k)
        rw [List.length_take] at hcp
        rw [zip_snoc hk, chgP_snoc, ← List.append_assoc, List.map_append]
        have O := O.alloc (o := .tup [.ref b, .bl ((frc (rowN rows r))[k]'(by rw [frc_len]; exact hk))]) nT
        refine g_gtup (O.tup 0) rfl ?_
        walk_at "z"
        have O := O.tail
        have fin : isM m (rowN rows r)[k] = false → ∃ (B' : Hp) (ws : List V) (x4' x5' : Option V), [some (V.ref o), some (.str m), some (.ref p), some (.int (r : Nat)), some (.ref b), some (.bl ((frc (rowN rows r))[k]'(by rw [frc_len]; exact hk)))] = [some (V.ref o), some (.str m), some (.ref p), some (.int (r : Nat)), x4', x5'] ∧ Same B B' ∧ Own B' [(p2, .lst ((frc (rowN rows r)).map V.bl)), (p, .lst ws)] _ ∧ TdAll B' ws (List.map encC (chgN m rows r ++ chgP m r (List.take k ((rowN rows r).zip (frc (rowN rows r))))) ++ List.map encC (if isM m (rowN rows r)[k] = true then [((r : Int), (rowN rows r)[k], (frc (rowN rows r))[k]'(by rw [frc_len]; exact hk))] else [])) := fun hm => ⟨B2, ws, _, _, rfl, e2, O, by rw [hm]; simpa using hT⟩
        rcases hcase with ⟨q0, hd, rfl⟩ | ⟨m', rm, bh, n, t, vr, vb, hd, rfl, _, _⟩
        · refine g_ixT (.inl (.inl (O.fr _ _ hb))) (atI_nat (j := 0) rfl) ?_
          walk_at "z"
          refine g_eqS ?_
          walk_at "z"
          refine ite_d (fun h => absurd h (by decide +kernel)) (fun _ => ?_)
          exact iteF (fin (by rw [hd]; rfl))
        · refine g_ixT (.inl (.inl (O.fr _ _ hb))) (atI_nat (j := 0) rfl) ?_
          walk_at "z"
          refine g_eqS ?_
          walk_at "z"
          refine ite_d (fun _ => ?_) (fun h => absurd rfl h)
          walk_at "z"
          refine g_ixT (.inl (.inl (O.fr _ _ hb))) (atI_nat (j := 1) rfl) ?_
          walk_at "z"
          refine g_eqS ?_
          walk_at "z"
          refine ite_d (fun hm => ?_) (fun hm => fin (by rw [hd]; exact decide_eq_false hm))
          walk_at "z"
          refine g_tyL (O.lst 1) ?_
          walk_at "z"
          refine g_new (small_le (by simp)) O fun c H4 nc O => ?_
          obtain ⟨B3, e3, hc3, O⟩ := fz O
          walk_at "z"
          refine g_append O 1 rfl (small_of (by omega)) fun H5 O => ?_
          refine ⟨B3, _, _, _, rfl, e2.trans e3, O, ?_⟩
          rw [show isM m (rowN rows r)[k] = true by rw [hd]; exact decide_eq_true hm]
          exact tds_snoc (tds_ex e3 hT) (td_C (b := c) hc3 (td_ex e3 hTv))
      · clear O hT O2
        rintro σ H3 ⟨B2, ws, x4, x5, rfl, e2, O, hT⟩
        refine ⟨B2, ws, _, _, _, rfl, eB.trans e2, O.tail, ?_⟩
        rw [hrl, chg1_all] at hT
        rw [chgN_succ]
        exact hT
    · clear O
      rintro σ H2 ⟨B, ws, x3, x4, x5, rfl, eB, O, hT⟩
      walk_at "z"
      exact q B p ws H2 eB O hT

/-- what stands in the rows of an object, list by list -/
def WsOk (H : Hp) (wss : List (List V)) (rows : Rows) : Prop := wss.length = rows.length ∧ ∀ (i : Nat) (ws : List V), wss[i]? = some ws → TdAll H ws ((rowN rows i).map encD)
theorem WsOk.ex {H H' : Hp} {wss : List (List V)} {rows : Rows} (e : Same H H') (h : WsOk H wss rows) : WsOk H' wss rows := ⟨h.1, fun i ws hw => tds_ex e (h.2 i ws hw)⟩
theorem WsOk.imm {H H' : Hp} {wss : List (List V)} {rows : Rows} (e : Imm H H') (h : WsOk H wss rows) : WsOk H' wss rows := ⟨h.1, fun i ws hw => e.tds (h.2 i ws hw)⟩
/-- the cells of rows -/
def RowsC (R : Addr) (as : List Addr) (wss : List (List V)) : List (Addr × HO) := (R, .lst (as.map V.ref)) :: rc as wss
theorem RowsC.mut (R : Addr) (as : List Addr) (wss : List (List V)) : Mut (RowsC R as wss) := Mut.cons rfl (rc_mut _ _)
theorem mem_mid {α : Type} {X M Y : List α} {c : α} (h : c ∈ M) : c ∈ X ++ (M ++ Y) := List.mem_append.mpr (.inr (List.mem_append.mpr (.inl h)))
theorem rowsAt_of {H : Hp} {R : Addr} {as : List Addr} {wss : List (List V)} {rows : Rows} (hc : ∀ c ∈ RowsC R as wss, H c.1 = some c.2) (hl : as.length = wss.length) (hw : WsOk H wss rows) : RowsAt H R as rows := by
  refine ⟨hc _ (.head _), by rw [hl]; exact hw.1, fun i a ha => ?_⟩
  have hi := (List.getElem?_eq_some_iff.mp ha).1
  have hws : wss[i]? = some (wss[i]'(by omega)) := List.getElem?_eq_getElem _
  exact ⟨_, hc _ (.tail _ (List.mem_of_getElem? (rc_get ha hws))), hw.2 i _ hws⟩
theorem Own.rows {B H : Hp} {X Y : List (Addr × HO)} {R : Addr} {as : List Addr} {wss : List (List V)} {rows : Rows} (O : Own B (X ++ (RowsC R as wss ++ Y)) H) (hl : as.length = wss.length) (hw : WsOk H wss rows) : RowsAt H R as rows :=
  rowsAt_of (fun c hc => O.have_ c (mem_mid hc)) hl hw
theorem Own.getX {B H : Hp} {X Y M : List (Addr × HO)} {a : Addr} {o : HO} {i : Nat} (O : Own B (X ++ (M ++ Y)) H) (h : M[i]? = some (a, o)) : H a = some o := O.have_ (a, o) (mem_mid (List.mem_of_getElem? h))
def DeedsC (C o dx R : Addr) (as : List Addr) (wss : List (List V)) : List (Addr × HO) := (o, .ins C dx (dfl R)) :: RowsC R as wss
theorem DeedsC.mut (C o dx R : Addr) (as : List Addr) (wss : List (List V)) : Mut (DeedsC C o dx R as wss) := Mut.cons rfl (RowsC.mut _ _ _)
theorem deedsAt_of {H : Hp} {C o dx R : Addr} {as : List Addr} {wss : List (List V)} {rows : Rows} (hc : ∀ c ∈ DeedsC C o dx R as wss, H c.1 = some c.2) (hl : as.length = wss.length) (hw : WsOk H wss rows) : DeedsAt H C o R as rows :=
  ⟨⟨dx, hc _ (.head _)⟩, rowsAt_of (fun c h => hc c (.tail _ h)) hl hw⟩
theorem Own.deeds {B H : Hp} {X Y : List (Addr × HO)} {C o dx R : Addr} {as : List Addr} {wss : List (List V)} {rows : Rows} (O : Own B (X ++ (DeedsC C o dx R as wss ++ Y)) H) (hl : as.length = wss.length) (hw : WsOk H wss rows) : DeedsAt H C o R as rows :=
  deedsAt_of (fun c hc => O.have_ c (mem_mid hc)) hl hw
/-- the rows, with a further deed -/
def addD (rows : Rows) (r : Nat) (d : Deed) : Rows := rows.set r (rowN rows r ++ [d])
theorem rowN_add {rows : Rows} {r i : Nat} {d : Deed} (h : r < rows.length) : rowN (addD rows r d) i = if i = r then rowN rows r ++ [d] else rowN rows i := by
  unfold rowN addD
  rw [List.getD_eq_getElem?_getD, List.getD_eq_getElem?_getD, List.getD_eq_getElem?_getD, List.getElem?_set]
  by_cases e : r = i
  · subst e
    rw [if_pos rfl, if_pos h, if_pos rfl]
    rfl
  · rw [if_neg e, if_neg (Ne.symm e)]
theorem addD_len {rows : Rows} {r : Nat} {d : Deed} : (addD rows r d).length = rows.length := List.length_set ..
theorem WsOk.add {H : Hp} {wss : List (List V)} {rows : Rows} {r : Nat} {d : Deed} {ws : List V} {v : V} (h : WsOk H wss rows) (hr : wss[r]? = some ws) (hv : Td H v (encD d)) : WsOk H (wss.set r (ws ++ [v])) (addD rows r d) := by
  have hl := (List.getElem?_eq_some_iff.mp hr).1
  refine ⟨by rw [List.length_set, addD_len]; exact h.1, fun i ws' hw => ?_⟩
  rw [rowN_add (by rw [← h.1]; exact hl)]
  rw [List.getElem?_set] at hw
  by_cases e : r = i
  · subst e
    rw [if_pos rfl, if_pos hl] at hw
    cases hw
    rw [if_pos rfl, List.map_append]
    exact tds_snoc (h.2 r ws hr) hv
  · rw [if_neg e] at hw
    rw [if_neg (Ne.symm e)]
    exact h.2 i ws' hw
theorem WsOk.len_at {H : Hp} {wss : List (List V)} {rows : Rows} {i : Nat} {ws : List V} (h : WsOk H wss rows) (hw : wss[i]? = some ws) : ws.length = (rowN rows i).length := by
  have := tds_len (h.2 i ws hw)
  rwa [List.length_map] at this
theorem wsOk_nil (H : Hp) (n : Nat) : WsOk H (List.replicate n []) (List.replicate n []) := ⟨by simp, fun i ws hw => by
  have h1 := List.mem_of_getElem? hw
  have h2 := List.eq_of_mem_replicate h1
  subst h2
  have : rowN (List.replicate n []) i = [] := by
    unfold rowN
    rw [List.getD_eq_getElem?_getD, List.getElem?_replicate]
    split <;> rfl
  rw [this]
  exact .nil⟩

def sp_dcopy (C : Addr) : Sp := fun vs H Q _ => ∃ (o R : Addr) (as : List Addr) (rows : Rows), vs = [.ref o] ∧ DeedsAt H C o R as rows ∧ Sz rows ∧
  ∀ (o' dx' R' : Addr) (as' : List Addr) (wss : List (List V)) (H' : Hp), as'.length = wss.length → WsOk H wss rows → Own H (DeedsC C o' dx' R' as' wss) H' → Q (.ref o') H'


/-! ### the rows of characters: sorted by their marks, placed one after another -/
abbrev FI := Item × Bool
def encF (x : FI) : PyData := .tuple [kzD x.1.1, encO x.1.2.1, .str (S [x.1.2.2]), .bool x.2]
def items1 : Chg → List FI
  | (r, .chg _ _ bh n t, f) => (insA r n bh t).map fun x => (x, f)
  | _ => []
def foundOf (cs : List Chg) : List FI := cs.flatMap items1
def rems1 : Chg → List Mk
  | (_, .chg _ rm _ _ _, true) => rm
  | _ => []
def remOf (cs : List Chg) : List Mk := cs.flatMap rems1
theorem foundOf_snoc (cs : List Chg) (c : Chg) : foundOf (cs ++ [c]) = foundOf cs ++ items1 c := by
  unfold foundOf
  rw [List.flatMap_append, List.flatMap_cons, List.flatMap_nil, List.append_nil]
theorem remOf_snoc (cs : List Chg) (c : Chg) : remOf (cs ++ [c]) = remOf cs ++ rems1 c := by
  unfold remOf
  rw [List.flatMap_append, List.flatMap_cons, List.flatMap_nil, List.append_nil]
def mle (a b : Mk) : Bool := decide (a.1 < b.1 ∨ (a.1 = b.1 ∧ a.2 ≤ b.2))
def fle (a b : FI) : Bool := mle a.1.1 b.1.1
def sortF (l : List FI) : List FI := l.mergeSort fle
abbrev Cell := Mk × Nat × Bool
def encR (c : Cell) : PyData := .tuple [kzD c.1, .str (S [c.2.1]), .bool c.2.2]
def posB (row : List Cell) : Option Mk → Nat
  | none => 0
  | some b => (row.map (·.1)).idxOf b + 1
def putAt {α : Type} (l : List α) (p : Nat) (c : α) : List α := l.take p ++ [c] ++ l.drop p
def insB (rem : List Mk) (row : List Cell) (x : FI) : List Cell := putAt row (posB row x.1.2.1) (x.1.1, x.1.2.2, x.2 && !rem.contains x.1.1)
def placeF (rem : List Mk) (l : List FI) : List Cell := l.foldl (insB rem) []
def rowOf (m : Str) (rows : Rows) : List Cell := placeF (remOf (chgN m rows 8)) (sortF (foundOf (chgN m rows 8)))
theorem placeF_snoc (rem : List Mk) (l : List FI) (x : FI) : placeF rem (l ++ [x]) = insB rem (placeF rem l) x := by
  unfold placeF
  rw [List.foldl_append]
  rfl
theorem putAt_perm {α : Type} (l : List α) (p : Nat) (c : α) : (putAt l p c).Perm (c :: l) := by
  unfold putAt
  rw [List.append_assoc]
  refine List.perm_middle.trans (List.Perm.cons _ ?_)
  show (l.take p ++ l.drop p).Perm l
  rw [List.take_append_drop]
theorem putAt_len {α : Type} (l : List α) (p : Nat) (c : α) : (putAt l p c).length = l.length + 1 := (putAt_perm l p c).length_eq
theorem putAt_map {α β : Type} (f : α → β) (l : List α) (p : Nat) (c : α) : (putAt l p c).map f = putAt (l.map f) p (f c) := by
  unfold putAt
  rw [List.map_append, List.map_append, List.map_take, List.map_drop]
  rfl
theorem tds_putAt {H : Hp} {ws : List V} {ds : List PyData} {v : V} {d : PyData} (h : TdAll H ws ds) (p : Nat) (hv : Td H v d) : TdAll H (putAt ws p v) (putAt ds p d) := tds_app (tds_app (tds_take p h) (.cons hv .nil)) (tds_drop p h)
def mksF (l : List FI) : List Mk := l.map (·.1.1)
theorem place_perm (rem : List Mk) (l : List FI) : ((placeF rem l).map (·.1)).Perm (mksF l) := by
  have key : ∀ k, ((placeF rem (l.take k)).map (·.1)).Perm (mksF (l.take k)) := by
    intro k
    induction k with
    | zero => exact .refl _
    | succ k ih =>
      cases e : l[k]? with
      | none =>
        rw [List.take_add_one, e]
        simpa using ih
      | some x =>
        rw [take_succ_of e, placeF_snoc]
        unfold insB
        refine ((putAt_perm _ _ _).map _).trans ?_
        show (x.1.1 :: (placeF rem (l.take k)).map (·.1)).Perm _
        unfold mksF
        rw [List.map_append]
        exact (List.Perm.cons _ ih).trans (List.perm_append_singleton _ _).symm
  have := key l.length
  rwa [List.take_length] at this
theorem place_len (rem : List Mk) (l : List FI) : (placeF rem l).length = l.length := by
  have := (place_perm rem l).length_eq
  rwa [List.length_map, show (mksF l).length = l.length from List.length_map ..] at this
/-- what is sorted may be placed -/
structure FOk (l : List FI) : Prop where
  nd : (mksF l).Nodup
  bh : ∀ (i : Nat) (x : FI), l[i]? = some x → ∀ b, x.1.2.1 = some b → b ∈ mksF (l.take i)
theorem mle_total (a b : Mk) : (mle a b || mle b a) = true := by
  unfold mle
  simp only [Bool.or_eq_true, decide_eq_true_eq]
  omega
theorem mle_trans {a b c : Mk} (h1 : mle a b = true) (h2 : mle b c = true) : mle a c = true := by
  unfold mle at *
  simp only [decide_eq_true_eq] at *
  omega
theorem sortF_perm (l : List FI) : (sortF l).Perm l := List.mergeSort_perm _ _
theorem sortF_sorted (l : List FI) : (sortF l).Pairwise fun a b => fle a b = true := List.pairwise_mergeSort (le := fle) (fun a b c h1 h2 => mle_trans (b := b.1.1) h1 h2) (fun a b => mle_total a.1.1 b.1.1) l
theorem mem_mks {l : List FI} {b : Mk} : b ∈ mksF l ↔ ∃ x ∈ l, x.1.1 = b := List.mem_map
theorem fok_of {l : List FI} (nd : (mksF l).Nodup) (bh : ∀ x ∈ l, ∀ b, x.1.2.1 = some b → b ∈ mksF l ∧ b.1 < x.1.1.1) : FOk (sortF l) := by
  have hp := sortF_perm l
  have hm : (mksF (sortF l)).Perm (mksF l) := hp.map _
  refine ⟨hm.nodup_iff.mpr nd, fun i x hx b hb => ?_⟩
  have hxm : x ∈ l := hp.mem_iff.mp (List.mem_of_getElem? hx)
  obtain ⟨h1, h2⟩ := bh x hxm b hb
  obtain ⟨y, hy, hyb⟩ := mem_mks.mp (hm.mem_iff.mpr h1)
  obtain ⟨j, hj⟩ := List.mem_iff_getElem?.mp hy
  have hij : j < i := by
    refine Nat.lt_of_not_le fun hle => ?_
    have hne : i ≠ j := fun q => by
      subst q
      rw [hx] at hj
      cases hj
      rw [hyb] at h2
      omega
    have hs := List.pairwise_iff_getElem.mp (sortF_sorted l)
    obtain ⟨hi', ei⟩ := List.getElem?_eq_some_iff.mp hx
    obtain ⟨hj', ej⟩ := List.getElem?_eq_some_iff.mp hj
    have := hs i j hi' hj' (by omega)
    rw [ei, ej] at this
    unfold fle mle at this
    rw [hyb] at this
    simp only [decide_eq_true_eq] at this
    omega
  refine mem_mks.mpr ⟨y, List.mem_iff_getElem?.mpr ⟨j, ?_⟩, hyb⟩
  rw [List.getElem?_take_of_lt hij]
  exact hj
/-- the place of what stands there -/
theorem idx_at {row : List Mk} {b : Mk} (h : b ∈ row) : row[row.idxOf b]? = some b ∧ ∀ m z, m < row.idxOf b → row[m]? = some z → z ≠ b := by
  have hlt := List.idxOf_lt_length_of_mem h
  refine ⟨by rw [List.getElem?_eq_getElem hlt, List.getElem_idxOf], fun m z hm hz e => ?_⟩
  subst e
  have hml := (List.getElem?_eq_some_iff.mp hz)
  have h2 := List.not_of_lt_findIdx (p := (· == z)) (xs := row) (i := m) hm
  obtain ⟨q, e⟩ := hml
  simp only [e] at h2
  simp at h2
theorem eqv_kz (a b : Mk) : PyData.eqv (kzD a) (kzD b) = decide (a = b) := by
  have e : PyData.eqv (kzD a) (kzD b) = ((a.1 == b.1) && ((a.2 == b.2) && true)) := rfl
  rw [e]
  by_cases h1 : a.1 = b.1
  · by_cases h2 : a.2 = b.2
    · have : a = b := Prod.ext h1 h2
      rw [decide_eq_true this, h1, h2]
      simp
    · rw [decide_eq_false (fun q => h2 (congrArg (·.2) q)), beq_eq_false_iff_ne.mpr h2]
      simp
  · rw [decide_eq_false (fun q => h1 (congrArg (·.1) q)), beq_eq_false_iff_ne.mpr h1]
    rfl
theorem any_kz (l : List Mk) (a : Mk) : (l.map kzD).any (fun z => PyData.eqv z (kzD a)) = l.contains a := by
  induction l with
  | nil => rfl
  | cons b l ih =>
    rw [List.map_cons, List.any_cons, ih, eqv_kz, List.contains_cons]
    congr 1
    by_cases h : b = a
    · rw [h]; simp
    · rw [decide_eq_false h, beq_eq_false_iff_ne.mpr (Ne.symm h)]
theorem shaped_kzs (l : List Mk) : SeqAt.shaped (.list (l.map kzD)) = true := shaped_of (by simp only [PyData.canLay0]; exact lay_kzs l) (by have := dep_kzs l; simp only [PyData.depth]; omega)
theorem shaped_kz (k : Mk) : SeqAt.shaped (kzD k) = true := shaped_of (lay_kz k) (by simp [kzD, PyData.depth, PyData.depthAll])
/-! the key of a value that stands for an item -/
def kzOf (H : Hp) (v : V) : Int × Int := match v with
  | .ref t => match H t with
    | some (.tup (.ref m :: _)) => match H m with
      | some (.tup [.int a, .int b]) => (a, b)
      | _ => (0, 0)
    | _ => (0, 0)
  | _ => (0, 0)
theorem td_kzs {H : Hp} {v : V} {k : Mk} (h : Td H v (kzD k)) : ∃ a, v = .ref a ∧ H a = some (.tup [.int k.1, .int k.2]) := by
  cases h with
  | tup h1 h2 =>
    cases h2 with
    | cons x1 h2 => cases h2 with
      | cons x2 h2 =>
        cases h2
        cases x1
        cases x2
        exact ⟨_, rfl, h1⟩
theorem td_F {H : Hp} {v : V} {x : FI} (h : Td H v (encF x)) : ∃ a m vb, v = .ref a ∧ H a = some (.tup [.ref m, vb, .str (S [x.1.2.2]), .bl x.2]) ∧ H m = some (.tup [.int x.1.1.1, .int x.1.1.2]) ∧ Td H vb (encO x.1.2.1) := by
  cases h with
  | tup h1 h2 =>
    cases h2 with
    | cons x1 h2 => cases h2 with
      | cons x2 h2 => cases h2 with
        | cons x3 h2 => cases h2 with
          | cons x4 h2 =>
            cases h2
            cases x3
            cases x4
            obtain ⟨m, rfl, hm⟩ := td_kzs x1
            exact ⟨_, m, _, rfl, h1, hm, x2⟩
theorem td_I {H : Hp} {v : V} {x : Item} (h : Td H v (encI x)) : ∃ a m vb, v = .ref a ∧ H a = some (.tup [.ref m, vb, .str (S [x.2.2])]) ∧ H m = some (.tup [.int x.1.1, .int x.1.2]) ∧ Td H vb (encO x.2.1) := by
  cases h with
  | tup h1 h2 =>
    cases h2 with
    | cons x1 h2 => cases h2 with
      | cons x2 h2 => cases h2 with
        | cons x3 h2 =>
          cases h2
          cases x3
          obtain ⟨m, rfl, hm⟩ := td_kzs x1
          exact ⟨_, m, _, rfl, h1, hm, x2⟩
theorem td_C3 {H : Hp} {v : V} {x : Chg} (h : Td H v (encC x)) : ∃ a vd, v = .ref a ∧ H a = some (.tup [.int x.1, vd, .bl x.2.2]) ∧ Td H vd (encD x.2.1) := by
  cases h with
  | tup h1 h2 =>
    cases h2 with
    | cons x1 h2 => cases h2 with
      | cons x2 h2 => cases h2 with
        | cons x3 h2 =>
          cases h2
          cases x1
          cases x3
          exact ⟨_, _, rfl, h1, x2⟩
theorem kzOf_F {H : Hp} {v : V} {x : FI} (h : Td H v (encF x)) : kzOf H v = x.1.1 := by
  obtain ⟨a, m, vb, rfl, h1, h2, _⟩ := td_F h
  unfold kzOf
  simp only [h1, h2]
theorem keyAt_F {H : Hp} {v : V} {x : FI} (h : Td H v (encF x)) : KeyAt H (kzOf H) v := by
  have e := kzOf_F h
  obtain ⟨a, m, vb, rfl, h1, h2, _⟩ := td_F h
  exact ⟨a, m, _, rfl, h1, by rw [e]; exact h2⟩
theorem tds_F {H : Hp} {ws : List V} {l : List FI} (h : TdAll H ws (l.map encF)) {i : Nat} {v : V} (hv : ws[i]? = some v) : ∃ x, l[i]? = some x ∧ Td H v (encF x) := by
  obtain ⟨d, hd, ht⟩ := tds_get h hv
  rw [List.getElem?_map] at hd
  cases e : l[i]? with
  | none => rw [e] at hd; exact nomatch hd
  | some x => rw [e] at hd; cases hd; exact ⟨x, rfl, ht⟩
theorem tds_of_pairs {α : Type} {H : Hp} {f : α → PyData} : ∀ {zs : List (V × α)}, (∀ p ∈ zs, Td H p.1 (f p.2)) → TdAll H (zs.map (·.1)) ((zs.map (·.2)).map f)
  | [], _ => .nil
  | p :: zs, h => .cons (h p (.head _)) (tds_of_pairs fun q hq => h q (.tail _ hq))
theorem leK_kz (kz : V → Int × Int) (a b : V) : leK kz a b = mle (kz a) (kz b) := by
  unfold leK kzD
  rw [PySem.W.dataLe_ii]
  rfl
/-- the sorted values stand for the sorted items -/
theorem sort_par {H : Hp} {ws : List V} {l : List FI} (h : TdAll H ws (l.map encF)) : TdAll H (ws.mergeSort (leK (kzOf H))) ((sortF l).map encF) := by
  have hl := tds_len h
  rw [List.length_map] at hl
  have e1 : (ws.zip l).map (·.1) = ws := by rw [← List.unzip_fst, List.unzip_zip_left (by omega)]
  have e2 : (ws.zip l).map (·.2) = l := by rw [← List.unzip_snd, List.unzip_zip_right (by omega)]
  have ht : ∀ p ∈ ws.zip l, Td H p.1 (encF p.2) := fun p hp => by
    obtain ⟨i, hi⟩ := List.mem_iff_getElem?.mp hp
    obtain ⟨h1, h2⟩ := (List.getElem?_zip_eq_some (z := p)).mp hi
    obtain ⟨x, hx, hxt⟩ := tds_F h h1
    rw [h2] at hx
    cases hx
    exact hxt
  have s1 : ((ws.zip l).mergeSort fun a b => leK (kzOf H) a.1 b.1).map (·.1) = ws.mergeSort (leK (kzOf H)) := by
    rw [List.map_mergeSort (s := leK (kzOf H)) (fun a _ b _ => rfl), e1]
  have s2 : ((ws.zip l).mergeSort fun a b => leK (kzOf H) a.1 b.1).map (·.2) = sortF l := by
    rw [List.map_mergeSort (s := fle) (fun a ha b hb => by rw [leK_kz, kzOf_F (ht a ha), kzOf_F (ht b hb)]; rfl), e2]
    rfl
  rw [← s1, ← s2]
  exact tds_of_pairs fun p hp => ht p ((List.mergeSort_perm _ _).mem_iff.mp hp)
theorem isM_chg {m : Str} {d : Deed} (h : isM m d = true) : ∃ rm bh n t, d = .chg m rm bh n t := by
  cases d with
  | back p => exact nomatch h
  | chg m' rm bh n t =>
    have := of_decide_eq_true h
    subst this
    exact ⟨rm, bh, n, t, rfl⟩
theorem chgN_mem {m : Str} {rows : Rows} {k : Nat} {c : Chg} (h : c ∈ chgN m rows k) : ∃ r : Nat, r < k ∧ c.1 = (r : Int) ∧ c.2.1 ∈ rowN rows r ∧ isM m c.2.1 = true := by
  unfold chgN at h
  obtain ⟨r, hr, hc⟩ := List.mem_flatMap.mp h
  unfold chg1 chgP at hc
  obtain ⟨x, hx, rfl⟩ := List.mem_map.mp hc
  obtain ⟨hx1, hx2⟩ := List.mem_filter.mp hx
  exact ⟨r, List.mem_range.mp hr, rfl, (List.of_mem_zip (show (x.1, x.2) ∈ _ from hx1)).1, hx2⟩


abbrev qLam (x : Str) : Str := x ++ ".<locals>." ++ "<lambda>"
theorem g_idxK {K : PySem.W.Frag} {H : Hp} {p : Addr} {xs : List V} {l : List Mk} {y : V} {b : Mk} {Q : VK} (h : SqL K H p xs) (hT : TdAll H xs (l.map kzD)) (hy : Td H y (kzD b)) (hb : b ∈ l) (k : Q (.int (l.idxOf b : Nat)) H) : rIndexD K (.ref p) [y] H Q := by
  obtain ⟨e1, e2⟩ := idx_at hb
  refine ⟨p, y, kzD b, l.map kzD, l.idxOf b, kzD b, rfl, rfl, .lst h (tds_dp hT), td_dp hy, shaped_kzs l, shaped_kz b, ?_, ?_, ?_, k⟩
  · rw [List.getElem?_map, e1]; rfl
  · rw [eqv_kz]; exact decide_eq_true rfl
  · intro m z' hm hz
    rw [List.getElem?_map] at hz
    cases e : l[m]? with
    | none => rw [e] at hz; exact nomatch hz
    | some z => rw [e] at hz; cases hz; rw [eqv_kz]; exact decide_eq_false (e2 m z hm e)
theorem g_notInK {K : PySem.W.Frag} {H : Hp} {p : Addr} {xs : List V} {l : List Mk} {y : V} {b : Mk} {Q : VK} (h : SqL K H p xs) (hT : TdAll H xs (l.map kzD)) (hy : Td H y (kzD b)) (k : Q (.bl (!l.contains b)) H) : rNotInU K y (.ref p) H Q :=
  .inr (.inr ⟨kzD b, l.map kzD, td_dp hy, .lst h (tds_dp hT), shaped_kz b, shaped_kzs l, by rw [any_kz]; exact k⟩)
theorem g_inK {K : PySem.W.Frag} {H : Hp} {p : Addr} {xs : List V} {l : List Mk} {y : V} {b : Mk} {Q : VK} (h : SqL K H p xs) (hT : TdAll H xs (l.map kzD)) (hy : Td H y (kzD b)) (k : Q (.bl (l.contains b)) H) : rInU K y (.ref p) H Q :=
  .inr (.inr ⟨kzD b, l.map kzD, td_dp hy, .lst h (tds_dp hT), shaped_kz b, shaped_kzs l, by rw [any_kz]; exact k⟩)
def MkOk (k : Mk) : Prop := 0 ≤ k.1 ∧ k.1 < 72057594037927936 ∧ 0 ≤ k.2 ∧ k.2 < 8
def ChgOk (c : Chg) : Prop := match c.2.1 with
  | .chg _ rm _ _ t => t.length ≤ 100 ∧ rm.length ≤ 100 ∧ ∀ k ∈ rm, MkOk k
  | _ => True
/-- a module's changes can be placed -/
structure RMok (m : Str) (rows : Rows) : Prop where
  fok : FOk (sortF (foundOf (chgN m rows 8)))
  ok : ∀ c ∈ chgN m rows 8, ChgOk c
theorem found_len {cs : List Chg} (h : ∀ c ∈ cs, ChgOk c) : (foundOf cs).length ≤ 100 * cs.length ∧ (remOf cs).length ≤ 100 * cs.length := by
  induction cs with
  | nil => exact ⟨Nat.le_refl _, Nat.le_refl _⟩
  | cons c cs ih =>
    have ih := ih fun x hx => h x (.tail _ hx)
    have hc := h c (.head _)
    have e1 : foundOf (c :: cs) = items1 c ++ foundOf cs := rfl
    have e2 : remOf (c :: cs) = rems1 c ++ remOf cs := rfl
    rw [e1, e2, List.length_append, List.length_append, List.length_cons]
    obtain ⟨r, d, f⟩ := c
    cases d with
    | back p =>
      have a1 : (items1 (r, .back p, f)).length = 0 := rfl
      have a2 : (rems1 (r, .back p, f)).length = 0 := by cases f <;> rfl
      omega
    | chg m rm bh n t =>
      obtain ⟨h1, h2, _⟩ := hc
      have a1 : (items1 (r, .chg m rm bh n t, f)).length = t.length := by
        show ((insA r n bh t).map fun x => (x, f)).length = _
        rw [List.length_map, insA_len]
      have a2 : (rems1 (r, .chg m rm bh n t, f)).length ≤ rm.length := by cases f <;> simp [rems1]
      omega
theorem found_take {m : Str} {rows : Rows} (hz : Sz rows) (h : ∀ c ∈ chgN m rows 8, ChgOk c) (i : Nat) : (foundOf ((chgN m rows 8).take i)).length ≤ 160000 ∧ (remOf ((chgN m rows 8).take i)).length ≤ 160000 := by
  have h1 := found_len (cs := (chgN m rows 8).take i) fun c hc => h c (List.mem_of_mem_take hc)
  have h2 := chgN_le m hz 8
  rw [List.length_take] at h1
  omega
theorem td_tups {H : Hp} {v : V} {ds : List PyData} (h : Td H v (.tuple ds)) : ∃ a xs, v = .ref a ∧ H a = some (.tup xs) ∧ TdAll H xs ds := by
  cases h with
  | tup h1 h2 => exact ⟨_, _, rfl, h1, h2⟩
theorem getElem_take_insA {r n : Int} {bh : Option Mk} {t : List Nat} {k : Nat} (h : k < (insA r n bh t).length) : (insA r n bh t).take (k + 1) = (insA r n bh t).take k ++ [(insA r n bh t)[k]] := take_succ_of (List.getElem?_eq_getElem h)
theorem tds_at' {α : Type} {f : α → PyData} {H : Hp} {ws : List V} {l : List α} (h : TdAll H ws (l.map f)) {i : Nat} {v : V} (hv : ws[i]? = some v) : ∃ x, l[i]? = some x ∧ Td H v (f x) := by
  obtain ⟨d, hd, ht⟩ := tds_get h hv
  rw [List.getElem?_map] at hd
  cases e : l[i]? with
  | none => rw [e] at hd; exact nomatch hd
  | some x => rw [e] at hd; cases hd; exact ⟨x, rfl, ht⟩
theorem td_mkF {B : Hp} {q m : Addr} {vb : V} {x : Item} {f : Bool} (h : B q = some (.tup [.ref m, vb, .str (S [x.2.2]), .bl f])) (hm : B m = some (.tup [.int x.1.1, .int x.1.2])) (hb : Td B vb (encO x.2.1)) : Td B (.ref q) (encF (x, f)) := .tup h (.cons (td_kz hm) (.cons hb (.cons (.str _) (.cons (.bl _) .nil))))
theorem td_mkR {B : Hp} {q m : Addr} {c : Nat} {k : Mk} {f : Bool} (h : B q = some (.tup [.ref m, .str (S [c]), .bl f])) (hm : B m = some (.tup [.int k.1, .int k.2])) : Td B (.ref q) (encR (k, c, f)) := .tup h (.cons (td_kz hm) (.cons (.str _) (.cons (.bl _) .nil)))
theorem encO_non {H : Hp} {v : V} {o : Option Mk} (h : Td H v (encO o)) : (o = none ∧ v = .non) ∨ ∃ b, o = some b ∧ Td H v (kzD b) ∧ v ≠ .non := by
  cases o with
  | none => cases h; exact .inl ⟨rfl, rfl⟩
  | some b =>
    refine .inr ⟨b, rfl, h, fun e => ?_⟩
    subst e
    cases (show Td H .non (kzD b) from h)
theorem tds_mks {H : Hp} {ws : List V} {l : List Cell} (h : TdAll H ws (l.map encR)) {i : Nat} {v : V} (hv : ws[i]? = some v) : ∃ c a m, l[i]? = some c ∧ v = .ref a ∧ H a = some (.tup [.ref m, .str (S [c.2.1]), .bl c.2.2]) ∧ H m = some (.tup [.int c.1.1, .int c.1.2]) := by
  obtain ⟨c, hc, ht⟩ := tds_at' h hv
  cases ht with
  | tup h1 h2 =>
    cases h2 with
    | cons x1 h2 => cases h2 with
      | cons x2 h2 => cases h2 with
        | cons x3 h2 =>
          cases h2
          cases x2
          cases x3
          obtain ⟨m, rfl, hm⟩ := td_kzs x1
          exact ⟨c, _, m, hc, rfl, h1, hm⟩

def sp_lrow (K : PySem.W.Frag) (P : Addr) : Sp := fun vs H Q _ => ∃ (R : Addr) (as : List Addr) (rows : Rows) (m : Str) (ps : Array Value), vs = [.ref R, .str m] ∧ RowsAt H R as rows ∧ Sz rows ∧ DOkR rows ∧ RMok m rows ∧ H P = some (.tbl ps) ∧ TabI H (qLam "_law_row") ps ∧
  ∀ (B' : Hp) (p : Addr) (ws : List V) (ps' : Array Value) (H' : Hp), Same (dels H [P]) B' → Own B' [(p, .lst ws), (P, .tbl ps')] H' → TabI B' (qLam "_law_row") ps' → TdAll B' ws ((rowOf m rows).map encR) → Q (.ref p) H'

theorem ok__law_row (T : Txt K mg base) : FnOk P w K mg base CX0 3 T.a__law_row T.d__law_row P__law_row (sp_lrow K T.ta__law_row) := by
  refine T.C__law_row.ok sc__law_row (fun vs H Q E h => ?_) (fun A outer s H vs Q E hr h => ?_)
  · obtain ⟨R, as, rows, m, ps, rfl, _⟩ := h
    rfl
  · obtain ⟨R, as, rows, m, ps, rfl, hR, hz, hok, hm, hP, hI, q⟩ := h
    refine ⟨_, (pss_cons (ps_set (i := 2) sc__law_row.nd rfl (Or.inl rfl) (pe_lst pa_nil))
        (pss_cons (ps_set (i := 3) sc__law_row.nd rfl (Or.inl rfl) (pe_lst pa_nil))
        (pss_cons (ps_for PassesOwn.never rfl (pi_list (pe_call (ok__law_changes T) (hr.mono (by omega)) (by rfl) T.g__law_changes T.F__law_changes.kp T.b__law_changes .nil pass0 (pa_cons (pv 0) (pa_cons (pv 1) pa_nil)))) (pg_tup rfl (pgs_cons (pg_name (i := 4) sc__law_row.nd rfl (Or.inl rfl)) (pgs_cons (pg_name (i := 5) sc__law_row.nd rfl (Or.inl rfl)) (pgs_cons (pg_name (i := 6) sc__law_row.nd rfl (Or.inl rfl)) pgs_nil))))
          (pss_cons (ps_for PassesOwn.never rfl (pi_list (pe_call (ok__law_inserted T) (hr.mono (by omega)) (by rfl) T.g__law_inserted T.F__law_inserted.kp T.b__law_inserted .nil pass0 (pa_cons (pv 4) (pa_cons (pv 5) pa_nil)))) (pg_tup rfl (pgs_cons (pg_name (i := 7) sc__law_row.nd rfl (Or.inl rfl)) (pgs_cons (pg_name (i := 8) sc__law_row.nd rfl (Or.inl rfl)) (pgs_cons (pg_name (i := 9) sc__law_row.nd rfl (Or.inl rfl)) pgs_nil))))
          (pss_one (ps_expr (pe_bm PySem.F.plainAttrs_list PySem.F.slot_list_append PySem.F.type_list_append mt_append (pv 3) (pa_cons (pe_tup (pa_cons (pv 7) (pa_cons (pv 8) (pa_cons (pv 9) (pa_cons (pv 6) pa_nil))))) pa_nil)))))
        (pss_one (ps_if (pt_tr (by intro _; rfl) (pv 6))
          (pss_one (ps_set (i := 2) sc__law_row.nd rfl (Or.inl rfl) (pe_op op_addU (pv 2) (pe_callTy call_listU (by rfl) T.z_list (by decide +kernel) (pa_cons (pe_ix ix_seq (pv 5) pe_int (fun _ _ => rfl)) pa_nil)))))
          pss_nil))))
        (pss_cons (ps_set (i := 10) sc__law_row.nd rfl (Or.inl rfl) (pe_lst pa_nil))
        (pss_cons (ps_for PassesOwn.never rfl (pi_list (pe_sortL (pa_cons (pv 3) pa_nil) (by rfl) T.z_sorted hr T.tb__law_row rfl)) (pg_tup rfl (pgs_cons (pg_name (i := 7) sc__law_row.nd rfl (Or.inl rfl)) (pgs_cons (pg_name (i := 8) sc__law_row.nd rfl (Or.inl rfl)) (pgs_cons (pg_name (i := 9) sc__law_row.nd rfl (Or.inl rfl)) (pgs_cons (pg_name (i := 6) sc__law_row.nd rfl (Or.inl rfl)) pgs_nil)))))
          (pss_cons (ps_set (i := 11) sc__law_row.nd rfl (Or.inl rfl) pe_int)
        (Evl.pss_cut (ps_if (pt_cmpR op_notNU (pv 8) pe_non (nomark _))
          (pss_one (ps_set (i := 11) sc__law_row.nd rfl (Or.inl rfl) (pe_op op_addU (pe_bm PySem.F.plainAttrs_list PySem.F.slot_list_index PySem.F.type_list_index (mt_indexD (hu65 hr)) (pe_lc (own := [("each", 12)]) rfl sc__law_row.nd (pi_list (pv 10)) (blkOk_by (own := [("each", 12)]) (N := N__law_row) (sc := defScope s__law_row) (by decide +kernel)) (fun _ _ _ _ _ => (pg_name (i := 12) sc__law_row.nd rfl (Or.inl rfl))) (fun _ _ _ _ _ => pts_nil) (fun _ _ _ _ _ => (pe_ix (show IxR _ (rIx K) from ix_seq) (pv 12) pe_int (fun _ _ => rfl)))) (pa_cons (pv 8) pa_nil)) pe_int)))
          pss_nil)
        (pss_one (ps_expr (pe_bm PySem.F.plainAttrs_list PySem.F.slot_list_insert PySem.F.type_list_insert mt_insertU (pv 10) (pa_cons (pv 11) (pa_cons (pe_tup (pa_cons (pv 7) (pa_cons (pv 9) (pa_cons (pe_and (pv 6) (pe_one (pe_cmpR (op_notInU (hu65 hr)) (pv 7) (pv 2) (by rfl)))) pa_nil)))) pa_nil))))))))
        (pss_one (ps_ret (pv 10)))))))), ?_⟩
    have hI := (dels1_imm hP rfl).tab hI
    have hR := hR.dels hP
    walk_at "z"
    refine g_new (Nat.zero_le _) (Own.arg1 hP) fun rm H1 nrm O => ?_
    walk_at "z"
    refine g_new (Nat.zero_le _) O fun fo H2 nfo O => ?_
    walk_at "z"
    refine ⟨R, as, rows, m, rfl, hR.ex O.fr, hz, hok, fun B1 p ws H3 e1 O1 hT => ?_⟩
    obtain ⟨B2, e2, O, im⟩ := O.call e1 O1 (.cons rfl (.cons rfl (.cons rfl .nil))) (.cons rfl .nil)
    have hT := im.tds (tds_ex O1.fr hT)
    obtain ⟨B3, e3, hp, O⟩ := fz O
    have hT := tds_ex e3 hT
    clear O1 e1 im
    have hI := (hI.ex e2).ex e3
    have hlen := chgN_le m hz 8
    have hcl := tds_len hT
    rw [List.length_map] at hcl
    generalize hcs : chgN m rows 8 = cs at *
    walk_at "z"
    refine g_iListv (.inl (.inl (O.fr _ _ hp))) ?_
    refine forB_list ws (fun i σ H' => ∃ (B' : Hp) (rm : Addr) (rs fs : List V) (x4 x5 x6 x7 x8 x9 : Option V), σ = [some (.ref R), some (.str m), some (.ref rm), some (.ref fo), x4, x5, x6, x7, x8, x9, none, none, none] ∧ Same B3 B' ∧ Own B' [(fo, .lst fs), (rm, .lst rs), (T.ta__law_row, .tbl ps)] H' ∧ TdAll B' rs ((remOf (cs.take i)).map kzD) ∧ TdAll B' fs ((foundOf (cs.take i)).map encF)) ?_ ?_ ?_ ?_
    · exact ⟨B3, rm, [], [], _, _, _, _, _, _, rfl, Same.refl _, O, .nil, .nil⟩
    · rintro i σ H4 _ ⟨B', rm, rs, fs, x4, x5, x6, x7, x8, x9, rfl, eB, O, _, _⟩
      exact .inl (.inl (O.fr _ _ (eB _ _ hp)))
    · clear O
      rintro i v σ H4 hv ⟨B, rm, rs, fs, x4, x5, x6, x7, x8, x9, rfl, eB, O, hrs, hfs⟩
      obtain ⟨c, hc, hTc⟩ := tds_at' (tds_ex eB hT) hv
      have hcm : c ∈ cs := List.mem_of_getElem? hc
      obtain ⟨r0, _, hr0, _, hisM⟩ := chgN_mem (by rw [hcs]; exact hcm)
      have hok1 := hm.ok c (by rw [hcs]; exact hcm)
      obtain ⟨r, d, f⟩ := c
      obtain ⟨rm0, bh, n, t, rfl⟩ := isM_chg hisM
      obtain ⟨htl, hrl, _⟩ := hok1
      obtain ⟨a, vd, rfl, ha, hvd⟩ := td_C3 hTc
      have hfl := (found_take hz hm.ok i)
      rw [hcs] at hfl
      have hfsl := tds_len hfs
      have hrsl := tds_len hrs
      rw [List.length_map] at hfsl hrsl
      rw [take_succ_of hc, foundOf_snoc, remOf_snoc]
      refine g_gtup (.inl (.inl (O.fr _ _ ha))) rfl ?_
      walk_at "z"
      refine ⟨vd, r, m, rm0, bh, n, t, rfl, td_ex O.fr hvd, by omega, fun B4 p4 ws4 H5 e4 O4 hT4 => ?_⟩
      obtain ⟨B5, e5, O, im⟩ := O.call e4 O4 (.cons rfl (.cons rfl (.cons rfl .nil))) (.cons rfl .nil)
      have hT4 := im.tds (tds_ex O4.fr hT4)
      obtain ⟨B6, e6, hp4, O⟩ := fz O
      have hT4 := tds_ex e6 hT4
      clear O4 e4 im
      have e56 := e5.trans e6
      have hl4 := tds_len hT4
      rw [List.length_map, insA_len] at hl4
      refine g_iListv (.inl (.inl (O.fr _ _ hp4))) ?_
      refine forB_list ws4 (fun k σ H' => ∃ (B' : Hp) (fs : List V) (x7 x8 x9 : Option V), σ = [some (.ref R), some (.str m), some (.ref rm), some (.ref fo), some (.int r), some vd, some (.bl f), x7, x8, x9, none, none, none] ∧ Same B6 B' ∧ Own B' [(fo, .lst fs), (rm, .lst rs), (T.ta__law_row, .tbl ps)] H' ∧ TdAll B' fs ((foundOf (cs.take i) ++ ((insA r n bh t).take k).map fun x => (x, f)).map encF)) ?_ ?_ ?_ ?_
      · exact ⟨B6, fs, _, _, _, rfl, Same.refl _, O, by simpa using tds_ex e56 hfs⟩
      · rintro k σ H6 _ ⟨B', fs, x7, x8, x9, rfl, eC, O, _⟩
        exact .inl (.inl (O.fr _ _ (eC _ _ hp4)))
      · clear O hfs
        rintro k v4 σ H6 hv4 ⟨B', fs, x7, x8, x9, rfl, eC, O, hfs⟩
        obtain ⟨x, hx, hTx⟩ := tds_at' (tds_ex eC hT4) hv4
        obtain ⟨a4, mk, vb, rfl, ha4, hmk, hvb⟩ := td_I hTx
        have hfl2 := tds_len hfs
        rw [List.length_map, List.length_append, List.length_map, List.length_take, insA_len] at hfl2
        refine g_gtup (.inl (.inl (O.fr _ _ ha4))) rfl ?_
        walk_at "z"
        refine g_tyL (O.lst 0) ?_
        walk_at "z"
        refine g_new (small_le (by simp)) O fun q4 H7 nq O => ?_
        obtain ⟨B7, e7, hq4, O⟩ := fz O
        walk_at "z"
        refine g_append O 0 rfl (small_of (by omega)) fun H8 O => ?_
        refine ⟨B7, _, _, _, _, rfl, eC.trans e7, O, ?_⟩
        have e9 : foundOf (cs.take i) ++ ((insA r n bh t).take (k + 1)).map (fun x => (x, f)) = (foundOf (cs.take i) ++ ((insA r n bh t).take k).map fun x => (x, f)) ++ [(x, f)] := by
          rw [take_succ_of hx, List.map_append, ← List.append_assoc]
          rfl
        rw [e9, List.map_append]
        exact tds_snoc (tds_ex e7 hfs) (td_mkF hq4 (e7 _ _ hmk) (td_ex e7 hvb))
      · clear O hfs
        rintro σ H6 ⟨B', fs, x7, x8, x9, rfl, eC, O, hfs⟩
        rw [hl4, show (insA r n bh t).take t.length = insA r n bh t from List.take_of_length_le (by rw [insA_len]; omega)] at hfs
        have hvd := td_ex (e56.trans eC) hvd
        have hrs := tds_ex (e56.trans eC) hrs
        walk_at "z"
        refine ite_b (fun hf => ?_) (fun hf => ?_)
        · obtain ⟨ad, vr, vb, rfl, had, hvr, _⟩ := td_chg hvd
          obtain ⟨ar, xr, rfl, har, hxr⟩ := td_tups hvr
          have hxl := tds_len hxr
          rw [List.length_map] at hxl
          walk_at "z"
          refine g_ixT (.inl (.inl (O.fr _ _ had))) (atI_nat (j := 2) rfl) ?_
          walk_at "z"
          refine g_listT (.inl (.inl (O.fr _ _ har))) ?_
          refine g_newQ O fun l1 H7 nl O => ?_
          refine g_addL (O.get 2) (O.get 0) (small_le (by omega)) ?_
          refine g_newQ O fun l2 H8 nl2 O => ?_
          walk_at "z"
          refine ⟨B', l2, _, fs, _, _, _, _, _, _, rfl, (eB.trans e56).trans eC, O.sel (cs' := [(fo, .lst fs), (l2, .lst (rs ++ xr)), (T.ta__law_row, .tbl ps)]) (fun c hc => by simp only [List.mem_cons, List.not_mem_nil, or_false] at hc ⊢; rcases hc with h | h | h <;> simp [h]) (by have := O.nd; simp only [List.map_cons, List.map_nil, List.nodup_cons, List.mem_cons, List.not_mem_nil, or_false, not_or, List.nodup_nil, and_true] at this ⊢; exact ⟨⟨Ne.symm this.1.2.1, this.2.2.1.2⟩, this.1.2.2.2, by simp⟩), ?_, ?_⟩
          · rw [List.map_append]
            subst hf
            exact tds_app hrs hxr
          · exact hfs
        · refine ⟨B', rm, rs, fs, _, _, _, _, _, _, rfl, (eB.trans e56).trans eC, O, ?_, hfs⟩
          subst hf
          show TdAll B' rs ((remOf (cs.take i) ++ []).map kzD)
          rw [List.append_nil]
          exact hrs
    · clear O
      rintro σ H4 ⟨B, rm, rs, fs, x4, x5, x6, x7, x8, x9, rfl, eB, O, hrs, hfs⟩
      rw [hcl, List.take_length] at hrs hfs
      have hI := hI.ex eB
      have hfl := found_take hz hm.ok cs.length
      rw [hcs, List.take_length] at hfl
      have hfsl := tds_len hfs
      rw [List.length_map] at hfsl
      walk_at "z"
      refine g_new (Nat.zero_le _) O fun rw_ H5 nrw O => ?_
      walk_at "z"
      refine g_sortLK O 3 rfl hI (O.lst 1) (kz := kzOf B) (fun y hy => ?_) fun B4 ps' p5 H6 e4 hI4 O => ?_
      · obtain ⟨i, hi⟩ := List.mem_iff_getElem?.mp hy
        obtain ⟨x, _, hx⟩ := tds_F hfs hi
        obtain ⟨t, m, vs, k1, k2, k3⟩ := keyAt_F hx
        exact ⟨t, m, vs, k1, O.fr _ _ k2, O.fr _ _ k3⟩
      have hsrt := sort_par hfs
      have hfok := hm.fok
      rw [hcs] at hfok
      obtain ⟨B5, e5, hp5, O5⟩ := fz O
      clear O
      have e45 := e4.trans e5
      have hsrt := tds_ex e45 hsrt
      have hrs := tds_ex e45 hrs
      have hI4 := hI4.ex e5
      have hsl := tds_len hsrt
      rw [List.length_map] at hsl
      have hsl2 := (sortF_perm (foundOf cs)).length_eq
      have hrw : rowOf m rows = placeF (remOf cs) (sortF (foundOf cs)) := by unfold rowOf; rw [hcs]
      rw [hrw] at q
      generalize hss : fs.mergeSort (leK (kzOf B)) = ss at *
      generalize hsx : sortF (foundOf cs) = sx at *
      generalize hrem : remOf cs = rem at *
      refine g_iListv (.inl (.inl (O5.fr _ _ hp5))) ?_
      refine forB_list ss (fun i σ H' => ∃ (B' : Hp) (ws : List V) (x4 x5 x6 x7 x8 x9 x11 x12 : Option V), σ = [some (.ref R), some (.str m), some (.ref rm), some (.ref fo), x4, x5, x6, x7, x8, x9, some (.ref rw_), x11, x12] ∧ Same B5 B' ∧ Own B' [(rw_, .lst ws), (rm, .lst rs), (T.ta__law_row, .tbl ps')] H' ∧ TdAll B' ws ((placeF rem (sx.take i)).map encR)) ?_ ?_ ?_ ?_
      · exact ⟨B5, [], _, _, _, _, _, _, _, _, rfl, Same.refl _, O5.sub (((List.Sublist.refl _).cons _).cons_cons _), .nil⟩
      · rintro i σ H7 _ ⟨B', ws, x4, x5, x6, x7, x8, x9, x11, x12, rfl, eC, O, _⟩
        exact .inl (.inl (O.fr _ _ (eC _ _ hp5)))
      · clear O5
        rintro i v σ H7 hv ⟨B', ws, x4, x5, x6, x7, x8, x9, x11, x12, rfl, eC, O, hws⟩
        obtain ⟨x, hx, hTx⟩ := tds_F (tds_ex eC hsrt) hv
        obtain ⟨a, mk, vb, rfl, ha, hmk, hvb⟩ := td_F hTx
        have hrs := tds_ex eC hrs
        have hwl := tds_len hws
        rw [List.length_map, place_len, List.length_take] at hwl
        have hbh := hfok.bh i x hx
        rw [take_succ_of hx, placeF_snoc]
        refine g_gtup (.inl (.inl (O.fr _ _ ha))) rfl ?_
        walk_at "z"
        refine ⟨fun σ H' => ∃ x12 : Option V, σ = [some (.ref R), some (.str m), some (.ref rm), some (.ref fo), x4, x5, some (.bl x.2), some (.ref mk), some vb, some (.str (S [x.1.2.2])), some (.ref rw_), some (.int (posB (placeF rem (sx.take i)) x.1.2.1 : Nat)), x12] ∧ Own B' [(rw_, .lst ws), (rm, .lst rs), (T.ta__law_row, .tbl ps')] H', ?_, ?_⟩
        · rcases encO_non hvb with ⟨hbn, rfl⟩ | ⟨b, hbs, hTb, hne⟩
          · walk_at "z"
            refine ite_nd (fun h => absurd rfl h) (fun _ => ?_)
            exact ⟨_, by rw [hbn]; rfl, O⟩
          · walk_at "z"
            refine ite_nd (fun _ => ?_) (fun h => absurd h hne)
            walk_at "z"
            have hbm := hbh b hbs
            have hmem : b ∈ (placeF rem (sx.take i)).map (·.1) := (place_perm _ _).mem_iff.mpr hbm
            refine g_iListv (O.lst 0) ?_
            refine lcB_list ws (fun D k H' => ∃ (zs : List V), Own B' [(D, .lst zs), (rw_, .lst ws), (rm, .lst rs), (T.ta__law_row, .tbl ps')] H' ∧ TdAll B' zs ((((placeF rem (sx.take i)).map (·.1)).take k).map kzD)) ?_ ?_ ?_ ?_
            · intro D nD
              exact ⟨[], O.alloc nD, .nil⟩
            · rintro D k H8 _ ⟨zs, O, _⟩
              exact O.lst 1
            · clear O
              rintro D k v8 H8 hv8 ⟨zs, O, hzs⟩
              obtain ⟨c, a8, m8, hc8, rfl, ha8, hm8⟩ := tds_mks hws hv8
              have hzl := tds_len hzs
              rw [List.length_map, List.length_take] at hzl
              walk_at "z"
              refine iteT ?_
              walk_at "z"
              refine g_ixT (.inl (.inl (O.fr _ _ ha8))) (atI_nat (j := 0) rfl) ?_
              refine g_lcPut O 0 rfl (small_of (by have := List.length_map (as := placeF rem (sx.take i)) (·.1); have := place_len rem (sx.take i); rw [List.length_take] at this; omega)) fun H9 O => ?_
              refine ⟨_, O, ?_⟩
              rw [take_succ_of (x := c.1) (by rw [List.getElem?_map, hc8]; rfl), List.map_append]
              exact tds_snoc hzs (td_kz hm8)
            · clear O
              rintro D H8 nD ⟨zs, O, hzs⟩
              rw [List.take_of_length_le (by rw [List.length_map, place_len, List.length_take]; omega)] at hzs
              refine g_tyL (O.lst 0) ?_
              walk_at "z"
              refine g_idxK (O.lst 0) (tds_ex O.fr hzs) (td_ex O.fr hTb) hmem ?_
              walk_at "z"
              exact ⟨x12, by rw [hbs]; rfl, O.tail⟩
        · clear O
          rintro σ H8 ⟨x12, rfl, O⟩
          have hpos : posB (placeF rem (sx.take i)) x.1.2.1 ≤ 170000 := by
            have h1 := place_len rem (sx.take i)
            rw [List.length_take] at h1
            cases e : x.1.2.1 with
            | none => exact Nat.zero_le _
            | some b =>
              have h2 := List.idxOf_le_length (a := b) (l := (placeF rem (sx.take i)).map (·.1))
              rw [List.length_map] at h2
              show List.idxOf b _ + 1 ≤ _
              omega
          walk_at "z"
          refine g_tyL (O.lst 0) ?_
          walk_at "z"
          have fin : ∀ (sn : Bool) (t : Addr) (H9 : Hp), sn = (x.2 && !rem.contains x.1.1) → Own B' [(t, .tup [.ref mk, .str (S [x.1.2.2]), .bl sn]), (rw_, .lst ws), (rm, .lst rs), (T.ta__law_row, .tbl ps')] H9 → ∀ Q : VK, (∀ H9, (∃ (B'' : Hp) (ws' : List V) (x4' x5' x6' x7' x8' x9' x11' x12' : Option V), [some (.ref R), some (.str m), some (.ref rm), some (.ref fo), x4, x5, some (.bl x.2), some (.ref mk), some vb, some (.str (S [x.1.2.2])), some (.ref rw_), some (.int (posB (placeF rem (sx.take i)) x.1.2.1 : Nat)), x12] = [some (.ref R), some (.str m), some (.ref rm), some (.ref fo), x4', x5', x6', x7', x8', x9', some (.ref rw_), x11', x12'] ∧ Same B5 B'' ∧ Own B'' [(rw_, .lst ws'), (rm, .lst rs), (T.ta__law_row, .tbl ps')] H9 ∧ TdAll B'' ws' ((insB rem (placeF rem (sx.take i)) x).map encR)) → Q .non H9) → rInsert (.ref rw_) [.int (posB (placeF rem (sx.take i)) x.1.2.1 : Nat), .ref t] H9 Q := fun sn t H9 hsn O Q k => by
            obtain ⟨B6, e6, ht, O⟩ := fz O
            refine g_insert O 0 rfl (small_of (by omega)) (by omega) (by omega) fun H10 O => k H10 ?_
            rw [Int.toNat_natCast] at O
            refine ⟨B6, _, _, _, _, _, _, _, _, _, rfl, eC.trans e6, O, ?_⟩
            unfold insB
            rw [putAt_map]
            subst hsn
            exact tds_putAt (tds_ex e6 hws) _ (td_mkR ht (e6 _ _ hmk))
          refine ite_b (fun hf => ?_) (fun hf => ?_)
          · walk_at "z"
            refine g_notInK (O.lst 1) (tds_ex O.fr hrs) (td_kz (O.fr _ _ hmk)) ?_
            walk_at "z"
            refine g_new (small_le (by simp)) O fun t H9 nt O => ?_
            walk_at "z"
            exact fin _ t H9 (by rw [hf]; rfl) O _ fun H10 h => h
          · walk_at "z"
            refine g_new (small_le (by simp)) O fun t H9 nt O => ?_
            walk_at "z"
            exact fin _ t H9 (by rw [hf]; rfl) O _ fun H10 h => h
      · clear O5
        rintro σ H7 ⟨B', ws, x4, x5, x6, x7, x8, x9, x11, x12, rfl, eC, O, hws⟩
        rw [hsl, List.take_length] at hws
        walk_at "z"
        exact q B' rw_ ws ps' H7 ((((e2.trans e3).trans eB).trans e45).trans eC) (O.sub (((List.Sublist.refl _).cons _).cons_cons _)) (hI4.ex eC) hws

/-! ### dicts by marks -/
def keyM (k : Mk) : List Key := [.inl k.1, .inl k.2]
theorem keyM_inj {a b : Mk} (h : keyM a = keyM b) : a = b := by
  unfold keyM at h
  simp at h
  exact Prod.ext h.1 h.2
theorem keyM_map (k : Mk) : (keyM k).map kV = [.int k.1, .int k.2] := rfl
theorem putAll_some (v : V) : ∀ (l : List Mk) (kvs : List (List Key × V)) (k : Mk), (valV (putAll kvs (l.map keyM) v) (keyM k)).isSome = ((valV kvs (keyM k)).isSome || l.contains k)
  | [], kvs, k => by simp [Zl.putAll]
  | a :: l, kvs, k => by
    show (valV (putAll (putK kvs (keyM a) v) (l.map keyM) v) (keyM k)).isSome = _
    rw [putAll_some v l, valV_put, List.contains_cons]
    by_cases h : k = a
    · subst h
      rw [if_pos rfl]
      simp
    · rw [if_neg (fun q => h (keyM_inj q)), beq_eq_false_iff_ne.mpr h]
      simp
theorem putK_keys {kvs : List (List Key × V)} {k : List Key} {v : V} : ((putK kvs k v).map (·.1) = kvs.map (·.1) ∧ k ∈ kvs.map (·.1)) ∨ ((putK kvs k v).map (·.1) = kvs.map (·.1) ++ [k] ∧ k ∉ kvs.map (·.1)) := by
  unfold putK
  by_cases h : (kvs.any fun kv => decide (kv.1 = k)) = true
  · rw [if_pos h]
    obtain ⟨x, hx, hk⟩ := List.any_eq_true.mp h
    refine .inl ⟨?_, List.mem_map.mpr ⟨x, hx, of_decide_eq_true hk⟩⟩
    rw [List.map_map]
    refine List.map_congr_left fun y _ => ?_
    show (if y.1 = k then (y.1, v) else y).1 = y.1
    split <;> rfl
  · rw [if_neg h]
    refine .inr ⟨by rw [List.map_append]; rfl, fun q => h ?_⟩
    obtain ⟨x, hx, e⟩ := List.mem_map.mp q
    exact List.any_eq_true.mpr ⟨x, hx, decide_eq_true e⟩
theorem putK_nd {kvs : List (List Key × V)} {k : List Key} {v : V} (h : (kvs.map (·.1)).Nodup) : ((putK kvs k v).map (·.1)).Nodup := by
  rcases putK_keys (kvs := kvs) (k := k) (v := v) with ⟨e, _⟩ | ⟨e, hk⟩
  · rw [e]; exact h
  · rw [e]
    refine List.nodup_append.mpr ⟨h, by simp, fun a ha b hb q => ?_⟩
    rw [List.mem_singleton.mp hb] at q
    exact hk (q ▸ ha)
theorem putAll_nd (v : V) : ∀ (ks : List (List Key)) (kvs : List (List Key × V)), (kvs.map (·.1)).Nodup → ((putAll kvs ks v).map (·.1)).Nodup
  | [], _, h => h
  | k :: ks, kvs, h => putAll_nd v ks _ (putK_nd h)
theorem putAll_keys (v : V) : ∀ (ks : List (List Key)) (kvs : List (List Key × V)), ∀ k ∈ (putAll kvs ks v).map (·.1), k ∈ kvs.map (·.1) ∨ k ∈ ks
  | [], _, k, h => .inl h
  | a :: ks, kvs, k, h => by
    rcases putAll_keys v ks (putK kvs a v) k h with h | h
    · rcases putK_keys (kvs := kvs) (k := a) (v := v) with ⟨e, _⟩ | ⟨e, _⟩
      · rw [e] at h
        exact .inl h
      · rw [e] at h
        rcases List.mem_append.mp h with h | h
        · exact .inl h
        · exact .inr (by rw [List.mem_singleton.mp h]; exact .head _)
    · exact .inr (.tail _ h)
theorem hash_nd {prog : Program} {w : World} (l : List Mk) (hl : ∀ k ∈ l, MkOk k) (v : V) : ((putAll [] (l.map keyM) v).map fun p => (tupleKind (mixKind prog w)).hash p.1).Nodup := by
  have h1 : ((putAll [] (l.map keyM) v).map (·.1)).Nodup := putAll_nd v _ [] List.nodup_nil
  have h2 := putAll_keys v (l.map keyM) []
  generalize putAll [] (l.map keyM) v = kvs at *
  have h3 : ∀ p ∈ kvs, ∃ k, MkOk k ∧ p.1 = keyM k := fun p hp => by
    rcases h2 p.1 (List.mem_map.mpr ⟨p, hp, rfl⟩) with h | h
    · exact nomatch h
    · obtain ⟨k, hk, e⟩ := List.mem_map.mp h
      exact ⟨k, hl k hk, e.symm⟩
  clear h2 hl
  induction kvs with
  | nil => exact List.nodup_nil
  | cons p kvs ih =>
    rw [List.map_cons, List.nodup_cons] at h1
    rw [List.map_cons, List.nodup_cons]
    refine ⟨fun q => ?_, ih h1.2 fun x hx => h3 x (.tail _ hx)⟩
    obtain ⟨x, hx, e⟩ := List.mem_map.mp q
    obtain ⟨k, hk, ek⟩ := h3 p (.head _)
    obtain ⟨k', hk', ek'⟩ := h3 x (.tail _ hx)
    rw [ek, ek'] at e
    obtain ⟨a1, a2⟩ := mark_hash hk'.1 hk'.2.1 hk.1 hk.2.1 hk'.2.2.1 hk'.2.2.2 hk.2.2.1 hk.2.2.2 e
    have : k' = k := Prod.ext a1 a2
    rw [this] at ek'
    exact h1.1 (List.mem_map.mpr ⟨x, hx, by rw [ek', ek]⟩)
theorem valV_mem {kvs : List (List Key × V)} {k : List Key} {v : V} (h : valV kvs k = some v) : ∃ p ∈ kvs, p.1 = k ∧ p.2 = v := by
  unfold valV at h
  cases e : kvs.find? fun kv => decide (kv.1 = k) with
  | none => rw [e] at h; exact nomatch h
  | some p =>
    rw [e] at h
    exact ⟨p, List.mem_of_find?_eq_some e, of_decide_eq_true (List.find?_some (p := fun kv : List Key × V => decide (kv.1 = k)) e), Option.some.inj h⟩
theorem mergeK_some (k : List Key) : ∀ (more kvs : List (List Key × V)), (valV (mergeK kvs more) k).isSome = ((valV kvs k).isSome || (valV more k).isSome)
  | [], kvs => by simp [Zl.mergeK, valV]
  | p :: more, kvs => by
    show (valV (mergeK (putK kvs p.1 p.2) more) k).isSome = _
    rw [mergeK_some k more, valV_put]
    by_cases h : k = p.1
    · rw [if_pos h, valV_pos h.symm]
      simp
    · rw [if_neg h, valV_neg (Ne.symm h)]
/-- which marks are removed -/
structure RemD (kvs : List (List Key × V)) (rem : List Mk) : Prop where
  has : ∀ k : Mk, (valV kvs (keyM k)).isSome = rem.contains k
  len : kvs.length ≤ rem.length
theorem RemD.nil : RemD [] [] := ⟨fun _ => rfl, Nat.le_refl _⟩
theorem RemD.upd {kvs : List (List Key × V)} {rem : List Mk} (h : RemD kvs rem) (l : List Mk) (v : V) : RemD (mergeK kvs (putAll [] (l.map keyM) v)) (rem ++ l) := by
  refine ⟨fun k => ?_, ?_⟩
  · rw [mergeK_some, h.has, putAll_some, List.contains_append]
    rfl
  · have h1 := mergeK_len (putAll [] (l.map keyM) v) kvs
    have h2 := putAll_len v (l.map keyM) []
    have h3 := h.len
    rw [List.length_map, List.length_nil] at h2
    rw [List.length_append]
    omega
/-- what is told of the marks that stand in a row -/
structure SeenD (B : Hp) (kvs : List (List Key × V)) (row : List Cell) : Prop where
  has : ∀ c ∈ row, ∃ b, valV kvs (keyM c.1) = some (.ref b) ∧ B b = some (.tup [.str (S [c.2.1]), .bl c.2.2])
  len : kvs.length ≤ row.length
theorem SeenD.ex {B B' : Hp} {kvs : List (List Key × V)} {row : List Cell} (e : Same B B') (h : SeenD B kvs row) : SeenD B' kvs row := ⟨fun c hc => by
  obtain ⟨b, h1, h2⟩ := h.has c hc
  exact ⟨b, h1, e _ _ h2⟩, h.len⟩
theorem SeenD.put {B : Hp} {kvs : List (List Key × V)} {row : List Cell} {c : Cell} {b : Addr} (h : SeenD B kvs row) (p : Nat) (hn : c.1 ∉ row.map (·.1)) (hb : B b = some (.tup [.str (S [c.2.1]), .bl c.2.2])) : SeenD B (putK kvs (keyM c.1) (.ref b)) (putAt row p c) := by
  refine ⟨fun x hx => ?_, ?_⟩
  · rcases List.mem_cons.mp ((putAt_perm row p c).mem_iff.mp hx) with rfl | hx
    · exact ⟨b, by rw [valV_put, if_pos rfl], hb⟩
    · obtain ⟨b', h1, h2⟩ := h.has x hx
      refine ⟨b', ?_, h2⟩
      rw [valV_put, if_neg fun q => hn ?_, h1]
      rw [← keyM_inj q]
      exact List.mem_map.mpr ⟨x, hx, rfl⟩
  · have h1 := length_putK kvs (keyM c.1) (V.ref b)
    have h2 := h.len
    rw [putAt_len]
    omega
theorem keysAt_of {H : Hp} {xs : List V} {l : List Mk} (h : TdAll H xs (l.map kzD)) : KeysAt H xs (l.map keyM) := by
  refine ⟨by have := tds_len h; rw [List.length_map] at this; rw [List.length_map]; exact this, fun i x hx => ?_⟩
  obtain ⟨k, hk, hT⟩ := tds_at' h hx
  obtain ⟨a, rfl, ha⟩ := td_kzs hT
  exact ⟨a, keyM k, rfl, by rw [List.getElem?_map, hk]; rfl, ha⟩
def dcTK (K : PySem.W.Frag) (Q : VK) (x : V) (H1 : Hp) : Prop := ∃ (a : Addr) (xs : List V) (ks : List (List Key)), x = .ref a ∧ SqT K H1 a xs ∧ KeysAt H1 xs ks ∧ xs.length < sizeLine ∧ newQ (.dT (putAll [] ks (.bl true))) Q H1
theorem g_dcT {K : PySem.W.Frag} {te : TE} {σ : L2.St} {H : Hp} {Q : VK} (k : te σ H (dcTK K Q)) : tDcT K te σ H Q := k
theorem g_tyD {K : PySem.W.Frag} {as : TA} {σ : L2.St} {H : Hp} {Q : VK} {a : Addr} {kvs : List (List Key × V)} {r : V → List V → Hp → VK → Prop} (h : H a = some (.dT kvs)) (k : as σ H fun xs H2 => r (.ref a) xs H2 Q) : bmK K "dict" r as σ Q (.ref a) H := ⟨.inr (.inr (.inl ⟨rfl, .inr ⟨kvs, h⟩⟩)), k⟩
theorem g_updT {X : Cx} {B H : Hp} {cs : List (Addr × HO)} {d e : Addr} {kvs more : List (List Key × V)} {Q : VK} (O : Own B cs H) (j : Nat) (h : cs[j]? = some (d, .dT kvs)) (he : H e = some (.dT more)) (ne : d ≠ e) (hn : (more.map fun p => (tupleKind (mixKind X.prog X.w)).hash p.1).Nodup) (hz : kvs.length + more.length ≤ sizeLine)
    (k : ∀ H', Own B (cs.set j (d, .dT (mergeK kvs more))) H' → Q .non H') : rUpdT X (.ref d) [.ref e] H Q := ⟨d, e, kvs, more, rfl, rfl, O.get j h, he, ne, .inr hn, hz, k _ (O.set j h)⟩
theorem g_addT {K : PySem.W.Frag} {H : Hp} {a b : Addr} {x y : V} {xs ys : List V} {Q : VK} (ha : H a = some (.tup (x :: xs))) (hb : H b = some (.tup (y :: ys))) (hz : (x :: xs).length + (y :: ys).length ≤ sizeLine) (k : newQ (.tup ((x :: xs) ++ (y :: ys))) Q H) : rAddU K (.ref a) (.ref b) H Q :=
  .inr (.inr (.inr ⟨a, b, _, _, rfl, rfl, .inl (.inl ha), .inl (.inl hb), hz, (fun q => nomatch q), (fun _ q => nomatch q), fun _ _ => k⟩))

def sp_drow (C P : Addr) : Sp := fun vs H Q _ => ∃ (o R : Addr) (as : List Addr) (rows : Rows) (m : Str) (ps : Array Value), vs = [.ref o, .str m] ∧ DeedsAt H C o R as rows ∧ Sz rows ∧ RMok m rows ∧ H P = some (.tbl ps) ∧ TabI H (qLam "Deeds.row") ps ∧
  ∀ (B' : Hp) (p : Addr) (ws : List V) (ps' : Array Value) (H' : Hp), Same (dels H [P]) B' → Own B' [(p, .lst ws), (P, .tbl ps')] H' → TabI B' (qLam "Deeds.row") ps' → TdAll B' ws ((rowOf m rows).map encR) → Q (.ref p) H'
theorem DeedsAt.dels {H : Hp} {C o R P : Addr} {as : List Addr} {rows : Rows} {ps : Array Value} (hP : H P = some (.tbl ps)) (h : DeedsAt H C o R as rows) : DeedsAt (dels H [P]) C o R as rows := ⟨by
  obtain ⟨dx, h⟩ := h.obj
  exact ⟨dx, dels1 hP h (fun q => nomatch q)⟩, h.rows.dels hP⟩

theorem ok_Deeds_row (T : Txt K mg base) : FnOk P w K mg base CX0 3 T.a_Deeds_row T.d_Deeds_row P_Deeds_row (sp_drow T.a_Deeds T.ta_Deeds_row) := by
  refine T.C_Deeds_row.ok sc_Deeds_row (fun vs H Q E h => ?_) (fun A outer s H vs Q E hr h => ?_)
  · obtain ⟨o, R, as, rows, m, ps, rfl, _⟩ := h
    rfl
  · obtain ⟨o, R, as, rows, m, ps, rfl, hR, hz, hm, hP, hI, q⟩ := h
    refine ⟨_, (pss_cons (ps_set (i := 2) sc_Deeds_row.nd rfl (Or.inl rfl) pe_dnewT)
        (pss_cons (ps_set (i := 3) sc_Deeds_row.nd rfl (Or.inl rfl) (pe_lst pa_nil))
        (pss_cons (ps_for PassesOwn.never rfl (pi_list (pe_meth (pv 0) T.cl_Deeds T.m_Deeds_changes (ok_Deeds_changes T) (hr.mono (by omega)) T.b_Deeds_changes .nil pass0 (pa_cons (pv 1) pa_nil))) (pg_tup rfl (pgs_cons (pg_name (i := 4) sc_Deeds_row.nd rfl (Or.inl rfl)) (pgs_cons (pg_name (i := 5) sc_Deeds_row.nd rfl (Or.inl rfl)) (pgs_cons (pg_name (i := 6) sc_Deeds_row.nd rfl (Or.inr rfl)) pgs_nil))))
          (pss_cons (ps_expr (pe_bm PySem.F.plainAttrs_list PySem.F.slot_list_extend PySem.F.type_list_extend mt_extend (pv 3) (pa_cons (pe_lc (own := [("mark", 7), ("behind", 8), ("char", 9)]) rfl sc_Deeds_row.nd (pi_list (pe_call (ok_inserted T) (hr.mono (by omega)) (by rfl) T.g_inserted T.F_inserted.kp T.b_inserted .nil pass0 (pa_cons (pv 4) (pa_cons (pv 5) pa_nil)))) (blkOk_by (own := [("mark", 7), ("behind", 8), ("char", 9)]) (N := N_Deeds_row) (sc := defScope s_Deeds_row) (by decide +kernel)) (fun _ _ _ _ _ => (show PG _ _ (gTup K 3 _) from pg_tup rfl (pgs_cons (pg_name (i := 7) sc_Deeds_row.nd rfl (Or.inl rfl)) (pgs_cons (pg_name (i := 8) sc_Deeds_row.nd rfl (Or.inl rfl)) (pgs_cons (pg_name (i := 9) sc_Deeds_row.nd rfl (Or.inl rfl)) pgs_nil))))) (fun _ _ _ _ _ => pts_nil) (fun _ _ _ _ _ => (pe_tup (pa_cons (pv 7) (pa_cons (pv 8) (pa_cons (pv 9) (pa_cons (pv 6) pa_nil))))))) pa_nil)))
        (pss_one (ps_if (pt_tr (by intro _; rfl) (pv 6))
          (pss_one (ps_expr (pe_bm PySem.F.plainAttrs_dict PySem.F.slot_dict_update PySem.F.type_dict_update (mt_updT hr) (pv 2) (pa_cons (pe_dcT (k0 := 0) rfl hr (pe_ix ix_seq (pv 5) pe_int (fun _ _ => rfl))) pa_nil))))
          pss_nil))))
        (pss_cons (ps_set (i := 10) sc_Deeds_row.nd rfl (Or.inl rfl) (pe_lst pa_nil))
        (pss_cons (ps_set (i := 11) sc_Deeds_row.nd rfl (Or.inr rfl) pe_dnewT)
        (pss_cons (ps_for PassesOwn.never rfl (pi_list (pe_sortL (pa_cons (pv 3) pa_nil) (by rfl) T.z_sorted hr T.tb_Deeds_row rfl)) (pg_tup rfl (pgs_cons (pg_name (i := 7) sc_Deeds_row.nd rfl (Or.inl rfl)) (pgs_cons (pg_name (i := 8) sc_Deeds_row.nd rfl (Or.inl rfl)) (pgs_cons (pg_name (i := 9) sc_Deeds_row.nd rfl (Or.inl rfl)) (pgs_cons (pg_name (i := 6) sc_Deeds_row.nd rfl (Or.inr rfl)) pgs_nil)))))
          (pss_cons (ps_set (i := 12) sc_Deeds_row.nd rfl (Or.inl rfl) pe_int)
        (Evl.pss_cut (ps_if (pt_cmpR op_notNU (pv 8) pe_non (nomark _))
          (pss_one (ps_set (i := 12) sc_Deeds_row.nd rfl (Or.inl rfl) (pe_op op_addU (pe_bm PySem.F.plainAttrs_list PySem.F.slot_list_index PySem.F.type_list_index (mt_indexD (hu65 hr)) (pv 10) (pa_cons (pv 8) pa_nil)) pe_int)))
          pss_nil)
        (pss_cons (ps_expr (pe_bm PySem.F.plainAttrs_list PySem.F.slot_list_insert PySem.F.type_list_insert mt_insertU (pv 10) (pa_cons (pv 12) (pa_cons (pv 7) pa_nil))))
        (pss_one (ps_dput (hu_of hr) (pv 11) (pv 7) (pe_tup (pa_cons (pv 9) (pa_cons (pe_and (pv 6) (pe_one (pe_cmp (pc_dnotin (hu_of hr) (pv 7) (pv 2)) rfl))) pa_nil))) rfl))))))
        (pss_one (ps_ret (pe_lc (own := [("mark", 7)]) rfl sc_Deeds_row.nd (pi_list (pv 10)) (blkOk_by (own := [("mark", 7)]) (N := N_Deeds_row) (sc := defScope s_Deeds_row) (by decide +kernel)) (fun _ _ _ _ _ => (pg_name (i := 7) sc_Deeds_row.nd rfl (Or.inl rfl))) (fun _ _ _ _ _ => pts_nil) (fun _ _ _ _ _ => (pe_op (show OpR _ _ (rAddU K) from op_addU) (pe_tup (pa_cons (pv 7) pa_nil)) (pe_dget (hu_of hr) (pv 11) (pv 7) (fun _ _ => rfl))))))))))))), ?_⟩
    have hI := (dels1_imm hP rfl).tab hI
    have hR := hR.dels hP
    obtain ⟨dx, ho⟩ := hR.obj
    walk_at "z"
    refine g_newQ (Own.arg1 hP) fun rm H1 nrm O => ?_
    walk_at "z"
    refine g_new (Nat.zero_le _) O fun fo H2 nfo O => ?_
    walk_at "z"
    refine g_methK (O.fr _ _ ho) (dfl_n R (by decide +kernel)) ?_
    walk_at "z"
    refine ⟨o, R, as, rows, m, rfl, hR.ex O.fr, hz, fun B1 p ws H3 e1 O1 hT => ?_⟩
    obtain ⟨B2, e2, O, im⟩ := O.call e1 O1 (.cons rfl (.cons rfl (.cons rfl .nil))) (.cons rfl .nil)
    have hT := im.tds (tds_ex O1.fr hT)
    obtain ⟨B3, e3, hp, O⟩ := fz O
    have hT := tds_ex e3 hT
    clear O1 e1 im
    have hI := (hI.ex e2).ex e3
    have hlen := chgN_le m hz 8
    have hcl := tds_len hT
    rw [List.length_map] at hcl
    generalize hcs : chgN m rows 8 = cs at *
    walk_at "z"
    refine g_iListv (.inl (.inl (O.fr _ _ hp))) ?_
    refine forB_list ws (fun i σ H' => ∃ (B' : Hp) (kvs : List (List Key × V)) (fs : List V) (x4 x5 x6 x7 x8 x9 : Option V), σ = [some (.ref o), some (.str m), some (.ref rm), some (.ref fo), x4, x5, x6, x7, x8, x9, none, none, none] ∧ Same B3 B' ∧ Own B' [(fo, .lst fs), (rm, .dT kvs), (T.ta_Deeds_row, .tbl ps)] H' ∧ RemD kvs (remOf (cs.take i)) ∧ TdAll B' fs ((foundOf (cs.take i)).map encF)) ?_ ?_ ?_ ?_
    · exact ⟨B3, [], [], _, _, _, _, _, _, rfl, Same.refl _, O, .nil, .nil⟩
    · rintro i σ H4 _ ⟨B', rs, fs, x4, x5, x6, x7, x8, x9, rfl, eB, O, _, _⟩
      exact .inl (.inl (O.fr _ _ (eB _ _ hp)))
    · clear O
      rintro i v σ H4 hv ⟨B, kvs, fs, x4, x5, x6, x7, x8, x9, rfl, eB, O, hrs, hfs⟩
      obtain ⟨c, hc, hTc⟩ := tds_at' (tds_ex eB hT) hv
      have hcm : c ∈ cs := List.mem_of_getElem? hc
      obtain ⟨r0, _, hr0, _, hisM⟩ := chgN_mem (by rw [hcs]; exact hcm)
      have hok1 := hm.ok c (by rw [hcs]; exact hcm)
      obtain ⟨r, d, f⟩ := c
      obtain ⟨rm0, bh, n, t, rfl⟩ := isM_chg hisM
      obtain ⟨htl, hrl, hmk⟩ := hok1
      obtain ⟨a, vd, rfl, ha, hvd⟩ := td_C3 hTc
      have hfl := (found_take hz hm.ok i)
      rw [hcs] at hfl
      have hfsl := tds_len hfs
      have hrsl := hrs.len
      rw [List.length_map] at hfsl
      rw [take_succ_of hc, foundOf_snoc, remOf_snoc]
      refine g_gtup (.inl (.inl (O.fr _ _ ha))) rfl ?_
      walk_at "z"
      refine g_tyL (O.lst 0) ?_
      walk_at "z"
      refine ⟨vd, r, m, rm0, bh, n, t, rfl, td_ex O.fr hvd, by omega, fun B4 p4 ws4 H5 e4 O4 hT4 => ?_⟩
      obtain ⟨B5, e5, O, im⟩ := O.call e4 O4 (.cons rfl (.cons rfl (.cons rfl .nil))) (.cons rfl .nil)
      have hT4 := im.tds (tds_ex O4.fr hT4)
      obtain ⟨B6, e6, hp4, O⟩ := fz O
      have hT4 := tds_ex e6 hT4
      clear O4 e4 im
      have e56 := e5.trans e6
      have hl4 := tds_len hT4
      rw [List.length_map, insA_len] at hl4
      refine g_iListv (.inl (.inl (O.fr _ _ hp4))) ?_
      refine lcB_list ws4 (fun D k H' => ∃ (B' : Hp) (zs : List V), Same B6 B' ∧ Own B' [(D, .lst zs), (fo, .lst fs), (rm, .dT kvs), (T.ta_Deeds_row, .tbl ps)] H' ∧ TdAll B' zs ((((insA r n bh t).take k).map fun x => (x, f)).map encF)) ?_ ?_ ?_ ?_
      · intro D nD
        exact ⟨B6, [], Same.refl _, O.alloc nD, .nil⟩
      · rintro D k H6 _ ⟨B', zs, eC, O, _⟩
        exact .inl (.inl (O.fr _ _ (eC _ _ hp4)))
      · clear O
        rintro D k v4 H6 hv4 ⟨B', zs, eC, O, hzs⟩
        obtain ⟨x, hx, hTx⟩ := tds_at' (tds_ex eC hT4) hv4
        obtain ⟨a4, mk, vb, rfl, ha4, hmk4, hvb⟩ := td_I hTx
        have hfl2 := tds_len hzs
        rw [List.length_map, List.length_map, List.length_take, insA_len] at hfl2
        refine g_gtup (.inl (.inl (O.fr _ _ ha4))) rfl ?_
        walk_at "z"
        refine iteT ?_
        walk_at "z"
        refine g_new (small_le (by simp)) O fun q4 H7 nq O => ?_
        obtain ⟨B7, e7, hq4, O⟩ := fz O
        refine g_lcPut O 0 rfl (small_of (by omega)) fun H8 O => ?_
        refine ⟨B7, _, eC.trans e7, O, ?_⟩
        rw [take_succ_of hx, List.map_append, List.map_append]
        exact tds_snoc (tds_ex e7 hzs) (td_mkF hq4 (e7 _ _ hmk4) (td_ex e7 hvb))
      · clear O
        rintro D H6 nD ⟨B', zs, eC, O, hzs⟩
        rw [hl4, show (insA r n bh t).take t.length = insA r n bh t from List.take_of_length_le (by rw [insA_len]; omega)] at hzs
        have hzl := tds_len hzs
        rw [List.length_map, List.length_map, insA_len] at hzl
        walk_at "z"
        refine g_extend O 1 rfl (O.get 0) (small_le (by omega)) fun H7 O => ?_
        have O := O.tail
        have hfs : TdAll B' (fs ++ zs) ((foundOf (cs.take i) ++ items1 (r, Deed.chg m rm0 bh n t, f)).map encF) := by
          rw [List.map_append]
          exact tds_app (tds_ex (e56.trans eC) hfs) hzs
        have hvd := td_ex (e56.trans eC) hvd
        walk_at "z"
        refine ite_b (fun hf => ?_) (fun hf => ?_)
        · obtain ⟨ad, vr, vb, rfl, had, hvr, _⟩ := td_chg hvd
          obtain ⟨ar, xr, rfl, har, hxr⟩ := td_tups hvr
          have hxl := tds_len hxr
          rw [List.length_map] at hxl
          walk_at "z"
          refine g_tyD (O.get 1) ?_
          walk_at "z"
          refine g_dcT ?_
          walk_at "z"
          refine g_ixT (.inl (.inl (O.fr _ _ had))) (atI_nat (j := 2) rfl) ?_
          refine ⟨ar, xr, rm0.map keyM, rfl, .inl (.inl (O.fr _ _ har)), keysAt_of (tds_ex O.fr hxr), small_of (by omega), g_newQ O fun l1 H8 nl O => ?_⟩
          have hpl := putAll_len (.bl true) (rm0.map keyM) []
          rw [List.length_map, List.length_nil] at hpl
          walk_at "z"
          refine g_updT O 2 rfl (O.get 0) (O.ne 2 0 rfl rfl (by decide)) (hash_nd rm0 hmk _) (small_le (by omega)) fun H9 O => ?_
          have O := O.tail
          walk_at "z"
          refine ⟨B', _, _, _, _, _, _, _, _, rfl, (eB.trans e56).trans eC, O, ?_, hfs⟩
          subst hf
          exact hrs.upd rm0 (.bl true)
        · refine ⟨B', kvs, _, _, _, _, _, _, _, rfl, (eB.trans e56).trans eC, O, ?_, hfs⟩
          subst hf
          show RemD kvs (remOf (cs.take i) ++ [])
          rw [List.append_nil]
          exact hrs
    · clear O
      rintro σ H4 ⟨B, kvs, fs, x4, x5, x6, x7, x8, x9, rfl, eB, O, hrs, hfs⟩
      rw [hcl, List.take_length] at hrs hfs
      have hI := hI.ex eB
      have hfl := found_take hz hm.ok cs.length
      rw [hcs, List.take_length] at hfl
      have hfsl := tds_len hfs
      rw [List.length_map] at hfsl
      walk_at "z"
      refine g_new (Nat.zero_le _) O fun pl H5 npl O => ?_
      walk_at "z"
      refine g_newQ O fun se H5b nse O => ?_
      walk_at "z"
      refine g_sortLK O 4 rfl hI (O.lst 2) (kz := kzOf B) (fun y hy => ?_) fun B4 ps' p5 H6 e4 hI4 O => ?_
      · obtain ⟨i, hi⟩ := List.mem_iff_getElem?.mp hy
        obtain ⟨x, _, hx⟩ := tds_F hfs hi
        obtain ⟨t, m, vs, k1, k2, k3⟩ := keyAt_F hx
        exact ⟨t, m, vs, k1, O.fr _ _ k2, O.fr _ _ k3⟩
      have hsrt := sort_par hfs
      have hfok := hm.fok
      rw [hcs] at hfok
      obtain ⟨B5, e5, hp5, O5⟩ := fz O
      clear O
      have e45 := e4.trans e5
      have hsrt := tds_ex e45 hsrt
      have hI4 := hI4.ex e5
      have hsl := tds_len hsrt
      rw [List.length_map] at hsl
      have hsl2 := (sortF_perm (foundOf cs)).length_eq
      have hrw : rowOf m rows = placeF (remOf cs) (sortF (foundOf cs)) := by unfold rowOf; rw [hcs]
      rw [hrw] at q
      generalize hss : fs.mergeSort (leK (kzOf B)) = ss at *
      generalize hsx : sortF (foundOf cs) = sx at *
      generalize hrem : remOf cs = rem at *
      refine g_iListv (.inl (.inl (O5.fr _ _ hp5))) ?_
      refine forB_list ss (fun i σ H' => ∃ (B' : Hp) (ws : List V) (skv : List (List Key × V)) (x4 x5 x6 x7 x8 x9 x12 : Option V), σ = [some (.ref o), some (.str m), some (.ref rm), some (.ref fo), x4, x5, x6, x7, x8, x9, some (.ref pl), some (.ref se), x12] ∧ Same B5 B' ∧ Own B' [(se, .dT skv), (pl, .lst ws), (rm, .dT kvs), (T.ta_Deeds_row, .tbl ps')] H' ∧ TdAll B' ws (((placeF rem (sx.take i)).map (·.1)).map kzD) ∧ SeenD B' skv (placeF rem (sx.take i))) ?_ ?_ ?_ ?_
      · exact ⟨B5, [], [], _, _, _, _, _, _, _, rfl, Same.refl _, O5.sub ((((List.Sublist.refl _).cons _).cons_cons _).cons_cons _), .nil, ⟨fun _ h => (nomatch h), Nat.le_refl _⟩⟩
      · rintro i σ H7 _ ⟨B', ws, skv, x4, x5, x6, x7, x8, x9, x12, rfl, eC, O, _⟩
        exact .inl (.inl (O.fr _ _ (eC _ _ hp5)))
      · clear O5
        rintro i v σ H7 hv ⟨B', ws, skv, x4, x5, x6, x7, x8, x9, x12, rfl, eC, O, hws, hsd⟩
        obtain ⟨x, hx, hTx⟩ := tds_F (tds_ex eC hsrt) hv
        obtain ⟨a, mk, vb, rfl, ha, hmk, hvb⟩ := td_F hTx
        have hwl := tds_len hws
        rw [List.length_map, List.length_map, place_len, List.length_take] at hwl
        have hskl := hsd.len
        rw [place_len, List.length_take] at hskl
        have hbh := hfok.bh i x hx
        have hnew : x.1.1 ∉ (placeF rem (sx.take i)).map (·.1) := fun hq => by
          have h1 := (place_perm rem (sx.take i)).mem_iff.mp hq
          have h2 := hfok.nd
          rw [← List.take_append_drop i sx] at h2
          have h3 : mksF (sx.take i ++ sx.drop i) = mksF (sx.take i) ++ mksF (sx.drop i) := List.map_append ..
          rw [h3] at h2
          have h4 : x.1.1 ∈ mksF (sx.drop i) := mem_mks.mpr ⟨x, List.mem_iff_getElem?.mpr ⟨0, by rw [List.getElem?_drop]; exact hx⟩, rfl⟩
          exact (List.nodup_append.mp h2).2.2 _ h1 _ h4 rfl
        rw [take_succ_of hx, placeF_snoc]
        refine g_gtup (.inl (.inl (O.fr _ _ ha))) rfl ?_
        walk_at "z"
        refine ⟨fun σ H' => σ = [some (.ref o), some (.str m), some (.ref rm), some (.ref fo), x4, x5, some (.bl x.2), some (.ref mk), some vb, some (.str (S [x.1.2.2])), some (.ref pl), some (.ref se), some (.int (posB (placeF rem (sx.take i)) x.1.2.1 : Nat))] ∧ Own B' [(se, .dT skv), (pl, .lst ws), (rm, .dT kvs), (T.ta_Deeds_row, .tbl ps')] H', ?_, ?_⟩
        · rcases encO_non hvb with ⟨hbn, rfl⟩ | ⟨b, hbs, hTb, hne⟩
          · walk_at "z"
            refine ite_nd (fun h => absurd rfl h) (fun _ => ?_)
            exact ⟨by rw [hbn]; rfl, O⟩
          · walk_at "z"
            refine ite_nd (fun _ => ?_) (fun h => absurd h hne)
            walk_at "z"
            have hbm := hbh b hbs
            have hmem : b ∈ (placeF rem (sx.take i)).map (·.1) := (place_perm _ _).mem_iff.mpr hbm
            refine g_tyL (O.lst 1) ?_
            walk_at "z"
            refine g_idxK (O.lst 1) (tds_ex O.fr hws) (td_ex O.fr hTb) hmem ?_
            walk_at "z"
            exact ⟨by rw [hbs]; rfl, O⟩
        · clear O
          rintro σ H8 ⟨rfl, O⟩
          have hpos : posB (placeF rem (sx.take i)) x.1.2.1 ≤ 170000 := by
            have h1 := place_len rem (sx.take i)
            rw [List.length_take] at h1
            cases e : x.1.2.1 with
            | none => exact Nat.zero_le _
            | some b =>
              have h2 := List.idxOf_le_length (a := b) (l := (placeF rem (sx.take i)).map (·.1))
              rw [List.length_map] at h2
              show List.idxOf b _ + 1 ≤ _
              omega
          walk_at "z"
          refine g_tyL (O.lst 1) ?_
          walk_at "z"
          refine g_insert O 1 rfl (small_of (by omega)) (by omega) (by omega) fun H9 O => ?_
          rw [Int.toNat_natCast] at O
          walk_at "z"
          have hwsN : TdAll B' (putAt ws (posB (placeF rem (sx.take i)) x.1.2.1) (.ref mk)) (((insB rem (placeF rem (sx.take i)) x).map (·.1)).map kzD) := by
            unfold insB
            rw [putAt_map, putAt_map]
            exact tds_putAt hws _ (td_kz hmk)
          have fin : ∀ (sn : Bool) (t : Addr) (H9 : Hp) (D : Ends) (σ : L2.St), sn = (x.2 && !rem.contains x.1.1) → Own B' [(t, .tup [.str (S [x.1.2.2]), .bl sn]), (se, .dT skv), (pl, .lst (putAt ws (posB (placeF rem (sx.take i)) x.1.2.1) (.ref mk))), (rm, .dT kvs), (T.ta_Deeds_row, .tbl ps')] H9 →
              (∀ (B'' : Hp) (skv' : List (List Key × V)) (H9 : Hp), Same B' B'' → Own B'' [(se, .dT skv'), (pl, .lst (putAt ws (posB (placeF rem (sx.take i)) x.1.2.1) (.ref mk))), (rm, .dT kvs), (T.ta_Deeds_row, .tbl ps')] H9 → SeenD B'' skv' (insB rem (placeF rem (sx.take i)) x) → D.nx σ H9) → dPutK D σ (.ref t) (.ref se) (.ref mk) H9 := fun sn t H9 D σ hsn O k => by
            obtain ⟨B6, e6, ht, O⟩ := fz O
            refine g_dputT (ks := keyM x.1.1) O 0 rfl (O.fr _ _ (e6 _ _ hmk)) (small_of (by omega)) fun H10 O => k B6 _ H10 e6 O ?_
            unfold insB
            subst hsn
            exact (hsd.ex e6).put (c := (x.1.1, x.1.2.2, x.2 && !rem.contains x.1.1)) _ hnew ht
          refine ite_b (fun hf => ?_) (fun hf => ?_)
          · walk_at "z"
            refine g_dnotinT (ks := keyM x.1.1) (O.get 2) (O.fr _ _ hmk) ?_
            rw [hrs.has]
            walk_at "z"
            refine g_new (small_le (by simp)) O fun t H10 nt O => ?_
            walk_at "z"
            refine fin _ t H10 _ _ (by rw [hf]; rfl) O fun B6 skv' H11 e6 O hs => ?_
            exact ⟨B6, _, skv', _, _, _, _, _, _, _, rfl, eC.trans e6, O, tds_ex e6 hwsN, hs⟩
          · walk_at "z"
            refine g_new (small_le (by simp)) O fun t H10 nt O => ?_
            walk_at "z"
            refine fin _ t H10 _ _ (by rw [hf]; rfl) O fun B6 skv' H11 e6 O hs => ?_
            exact ⟨B6, _, skv', _, _, _, _, _, _, _, rfl, eC.trans e6, O, tds_ex e6 hwsN, hs⟩
      · clear O5
        rintro σ H7 ⟨B', ws, skv, x4, x5, x6, x7, x8, x9, x12, rfl, eC, O, hws, hsd⟩
        rw [hsl, List.take_length] at hws hsd
        have hwl := tds_len hws
        rw [List.length_map, List.length_map, place_len] at hwl
        walk_at "z"
        refine g_iListv (O.lst 1) ?_
        refine lcB_list ws (fun D k H' => ∃ (B2 : Hp) (zs : List V), Same B' B2 ∧ Own B2 [(D, .lst zs), (se, .dT skv), (pl, .lst ws), (rm, .dT kvs), (T.ta_Deeds_row, .tbl ps')] H' ∧ TdAll B2 zs (((placeF rem sx).take k).map encR)) ?_ ?_ ?_ ?_
        · intro D nD
          exact ⟨B', [], Same.refl _, O.alloc nD, .nil⟩
        · rintro D k H8 _ ⟨B2, zs, eD, O, _⟩
          exact O.lst 2
        · clear O
          rintro D k v H8 hv ⟨B2, zs, eD, O, hzs⟩
          obtain ⟨mk0, hmk0, hTm⟩ := tds_at' hws hv
          rw [List.getElem?_map] at hmk0
          obtain ⟨c, hc, rfl⟩ : ∃ c, (placeF rem sx)[k]? = some c ∧ c.1 = mk0 := by
            cases e : (placeF rem sx)[k]? with
            | none => rw [e] at hmk0; exact nomatch hmk0
            | some c => rw [e] at hmk0; cases hmk0; exact ⟨c, rfl, rfl⟩
          obtain ⟨am, rfl, ham⟩ := td_kzs hTm
          obtain ⟨b, hb1, hb2⟩ := hsd.has c (List.mem_of_getElem? hc)
          have hzl := tds_len hzs
          rw [List.length_map, List.length_take, place_len] at hzl
          walk_at "z"
          refine iteT ?_
          walk_at "z"
          refine g_new (small_le (by simp)) O fun t1 H9 nt1 O => ?_
          walk_at "z"
          refine g_dgetT (ks := keyM c.1) (O.get 2) (O.fr _ _ (eD _ _ ham)) hb1 ?_
          refine g_addT (O.get 0) (O.fr _ _ (eD _ _ hb2)) (small_le (by simp)) (g_newQ O fun t2 H10 nt2 O => ?_)
          obtain ⟨B3, e3', ht2, O⟩ := fz O
          have O := O.tail
          refine g_lcPut O 0 rfl (small_of (by omega)) fun H11 O => ?_
          refine ⟨B3, _, eD.trans e3', O, ?_⟩
          rw [take_succ_of hc, List.map_append]
          exact tds_snoc (tds_ex e3' hzs) (td_mkR ht2 (e3' _ _ (eD _ _ ham)))
        · clear O
          rintro D H8 nD ⟨B2, zs, eD, O, hzs⟩
          rw [List.take_of_length_le (by rw [place_len]; omega)] at hzs
          exact q B2 D zs ps' H8 (((((e2.trans e3).trans eB).trans e45).trans eC).trans eD) (O.sub ((((List.Sublist.refl _).cons _).cons _).cons _ |>.cons_cons _)) ((hI4.ex eC).ex eD) hzs

/-! ### what holds of rows that are made deed by deed -/
def InM (rows : Rows) (m : Str) (b : Mk) : Prop := 0 ≤ b.2 ∧ ∃ rm bh n t, Deed.chg m rm bh n t ∈ rowN rows b.2.toNat ∧ n ≤ b.1 ∧ b.1 < n + (t.length : Nat)
def DdOk (N : Int) (d : Deed) : Prop := DOk d ∧ match d with
  | .chg _ rm _ n t => 1 ≤ n ∧ n + (t.length : Nat) ≤ N ∧ t.length ≤ 100 ∧ rm.length ≤ 100
  | .back _ => True
def ClD (rows : Rows) (d : Deed) : Prop := match d with
  | .chg m rm bh n _ => (∀ b, bh = some b → InM rows m b ∧ b.1 < n) ∧ ∀ b ∈ rm, InM rows m b ∧ b.1 < n
  | .back _ => True
def Before (d e : Deed) : Prop := match d, e with
  | .chg _ _ _ n t, .chg _ _ _ n' _ => n + (t.length : Nat) ≤ n'
  | _, _ => True
structure ROk (N : Int) (rows : Rows) : Prop where
  sz : Sz rows
  dd : ∀ i, ∀ d ∈ rowN rows i, DdOk N d
  mono : ∀ i, (rowN rows i).Pairwise Before
  cl : ∀ i, ∀ d ∈ rowN rows i, ClD rows d
theorem rowN_out {rows : Rows} {i : Nat} (h : rows.length ≤ i) : rowN rows i = [] := by
  unfold rowN
  rw [List.getD_eq_getElem?_getD, List.getElem?_eq_none h]
  rfl
theorem rowN_lt {rows : Rows} {i : Nat} {d : Deed} (h : d ∈ rowN rows i) : i < rows.length := by
  refine Nat.lt_of_not_le fun hle => ?_
  rw [rowN_out hle] at h
  exact nomatch h
def SubR (rows rows' : Rows) : Prop := ∀ i, ∀ d ∈ rowN rows i, d ∈ rowN rows' i
theorem InM.sub {rows rows' : Rows} {m : Str} {b : Mk} (s : SubR rows rows') (h : InM rows m b) : InM rows' m b := by
  obtain ⟨h0, rm, bh, n, t, hm, h1, h2⟩ := h
  exact ⟨h0, rm, bh, n, t, s _ _ hm, h1, h2⟩
theorem ClD.sub {rows rows' : Rows} {d : Deed} (s : SubR rows rows') (h : ClD rows d) : ClD rows' d := by
  cases d with
  | back p => exact True.intro
  | chg m rm bh n t => exact ⟨fun b hb => ⟨(h.1 b hb).1.sub s, (h.1 b hb).2⟩, fun b hb => ⟨(h.2 b hb).1.sub s, (h.2 b hb).2⟩⟩
theorem DdOk.le {N N' : Int} {d : Deed} (hn : N ≤ N') (h : DdOk N d) : DdOk N' d := by
  cases d with
  | back p => exact h
  | chg m rm bh n t =>
    obtain ⟨h0, h1, h2, h3⟩ := h
    exact ⟨h0, h1, by omega, h3⟩
theorem ROk.le {N N' : Int} {rows : Rows} (hn : N ≤ N') (h : ROk N rows) : ROk N' rows := ⟨h.sz, fun i d hd => (h.dd i d hd).le hn, h.mono, h.cl⟩
theorem ROk.lay {N : Int} {rows : Rows} (h : ROk N rows) : DOkR rows := fun i d hd => (h.dd i d hd).1
theorem bhA_succ (r n : Int) (bh : Option Mk) (i : Nat) : bhA r (n + 1) (some (n, r)) i = bhA r n bh (i + 1) := by
  cases i with
  | zero => show some (n, r) = some (n + ((0 : Nat) : Int), r); simp
  | succ i => show some (n + 1 + ((i : Nat) : Int), r) = some (n + ((i + 1 : Nat) : Int), r); congr 2; omega
theorem mem_insA {r : Int} {x : Item} : ∀ {t : List Nat} {n : Int} {bh : Option Mk}, x ∈ insA r n bh t → ∃ i c, t[i]? = some c ∧ x = ((n + (i : Nat), r), bhA r n bh i, c)
  | [], _, _, h => nomatch h
  | c :: t, n, bh, h => by
    rcases List.mem_cons.mp h with rfl | h
    · exact ⟨0, c, rfl, by simp [bhA]⟩
    · obtain ⟨i, c', hc, rfl⟩ := mem_insA h
      refine ⟨i + 1, c', hc, ?_⟩
      rw [bhA_succ r n bh i, show n + 1 + (i : Int) = n + ((i + 1 : Nat) : Int) by omega]
theorem insA_mem {r : Int} {c : Nat} : ∀ {t : List Nat} {n : Int} {bh : Option Mk} {i : Nat}, t[i]? = some c → ((n + (i : Nat), r), bhA r n bh i, c) ∈ insA r n bh t
  | [], _, _, _, h => by simp at h
  | d :: t, n, bh, 0, h => by
    simp at h
    subst h
    show _ ∈ ((n, r), bh, d) :: _
    simp [bhA]
  | d :: t, n, bh, i + 1, h => by
    have := insA_mem (r := r) (n := n + 1) (bh := some (n, r)) (i := i) (t := t) (by simpa using h)
    rw [bhA_succ r n bh i, show n + 1 + (i : Int) = n + ((i + 1 : Nat) : Int) by omega] at this
    exact .tail _ this
theorem mem_items1 {c : Chg} {x : FI} (h : x ∈ items1 c) : ∃ m rm bh n t, c.2.1 = .chg m rm bh n t ∧ x.2 = c.2.2 ∧ x.1 ∈ insA c.1 n bh t := by
  obtain ⟨r, d, f⟩ := c
  cases d with
  | back p => exact nomatch h
  | chg m rm bh n t =>
    obtain ⟨y, hy, rfl⟩ := List.mem_map.mp h
    exact ⟨m, rm, bh, n, t, rfl, rfl, hy⟩
theorem mem_found {m : Str} {rows : Rows} {x : FI} (h : x ∈ foundOf (chgN m rows 8)) : ∃ (r : Nat) (rm : List Mk) (bh : Option Mk) (n : Int) (t : List Nat) (i : Nat), r < 8 ∧ Deed.chg m rm bh n t ∈ rowN rows r ∧ i < t.length ∧ x.1.1 = (n + (i : Nat), (r : Int)) ∧ x.1.2.1 = bhA r n bh i := by
  obtain ⟨c, hc, hx⟩ := List.mem_flatMap.mp h
  obtain ⟨r, hr, h1, h2, h3⟩ := chgN_mem hc
  obtain ⟨m', rm, bh, n, t, e1, _, e3⟩ := mem_items1 hx
  obtain ⟨i, ch, hi, e4⟩ := mem_insA e3
  rw [e1] at h2 h3
  obtain rfl : m' = m := of_decide_eq_true h3
  refine ⟨r, rm, bh, n, t, i, hr, h2, (List.getElem?_eq_some_iff.mp hi).1, ?_, ?_⟩
  · rw [e4, h1]
  · rw [e4, h1]
theorem found_of {m : Str} {rows : Rows} {r : Nat} {rm : List Mk} {bh : Option Mk} {n : Int} {t : List Nat} {i : Nat} (hr : r < 8) (hd : Deed.chg m rm bh n t ∈ rowN rows r) (hi : i < t.length) : (n + (i : Nat), (r : Int)) ∈ mksF (foundOf (chgN m rows 8)) := by
  obtain ⟨j, hj⟩ := List.mem_iff_getElem?.mp hd
  have hjl := (List.getElem?_eq_some_iff.mp hj).1
  have hf : (frc (rowN rows r))[j]? = some ((frc (rowN rows r))[j]'(by rw [frc_len]; exact hjl)) := List.getElem?_eq_getElem _
  refine mem_mks.mpr ⟨(((n + (i : Nat), (r : Int)), bhA r n bh i, t[i]), (frc (rowN rows r))[j]'(by rw [frc_len]; exact hjl)), ?_, rfl⟩
  refine List.mem_flatMap.mpr ⟨((r : Int), .chg m rm bh n t, (frc (rowN rows r))[j]'(by rw [frc_len]; exact hjl)), ?_, ?_⟩
  · refine List.mem_flatMap.mpr ⟨r, List.mem_range.mpr hr, ?_⟩
    unfold chg1 chgP
    refine List.mem_map.mpr ⟨(.chg m rm bh n t, (frc (rowN rows r))[j]'(by rw [frc_len]; exact hjl)), List.mem_filter.mpr ⟨List.mem_iff_getElem?.mpr ⟨j, (List.getElem?_zip_eq_some).mpr ⟨hj, hf⟩⟩, decide_eq_true rfl⟩, rfl⟩
  · exact List.mem_map.mpr ⟨_, insA_mem (List.getElem?_eq_getElem hi), rfl⟩
theorem InM.found {m : Str} {rows : Rows} {b : Mk} (hz : Sz rows) (h : InM rows m b) : b ∈ mksF (foundOf (chgN m rows 8)) := by
  obtain ⟨h0, rm, bh, n, t, hm, h1, h2⟩ := h
  have hr := rowN_lt hm
  rw [hz.len] at hr
  have := found_of (i := (b.1 - n).toNat) hr hm (by omega)
  rw [show n + (((b.1 - n).toNat : Nat) : Int) = b.1 by omega, show ((b.2.toNat : Nat) : Int) = b.2 by omega] at this
  exact this
theorem zip_pw {α β : Type} {R : α → α → Prop} {l : List α} {l' : List β} (h : l.Pairwise R) : (l.zip l').Pairwise fun a b => R a.1 b.1 := by
  refine List.pairwise_iff_getElem.mpr fun i j hi hj hij => ?_
  rw [List.getElem_zip, List.getElem_zip]
  rw [List.length_zip] at hi hj
  exact List.pairwise_iff_getElem.mp h i j (by omega) (by omega) hij
theorem mks_items {c : Chg} {k : Mk} (h : k ∈ mksF (items1 c)) : ∃ m rm bh n t, c.2.1 = .chg m rm bh n t ∧ k.2 = c.1 ∧ n ≤ k.1 ∧ k.1 < n + (t.length : Nat) := by
  obtain ⟨x, hx, rfl⟩ := mem_mks.mp h
  obtain ⟨m, rm, bh, n, t, e1, _, e3⟩ := mem_items1 hx
  obtain ⟨i, ch, hi, e4⟩ := mem_insA e3
  have := (List.getElem?_eq_some_iff.mp hi).1
  refine ⟨m, rm, bh, n, t, e1, by rw [e4], by rw [e4]; show n ≤ n + (i : Int); omega, by rw [e4]; show n + (i : Int) < _; omega⟩
theorem insA_nd (r : Int) : ∀ (t : List Nat) (n : Int) (bh : Option Mk), ((insA r n bh t).map (·.1)).Nodup
  | [], _, _ => List.nodup_nil
  | c :: t, n, bh => by
    show (((n, r), bh, c) :: insA r (n + 1) (some (n, r)) t).map (·.1) |>.Nodup
    rw [List.map_cons, List.nodup_cons]
    refine ⟨fun h => ?_, insA_nd r t _ _⟩
    obtain ⟨x, hx, e⟩ := List.mem_map.mp h
    obtain ⟨i, c', _, rfl⟩ := mem_insA hx
    have : n + 1 + (i : Int) = n := congrArg (·.1) e
    omega
theorem ROk.nd {N : Int} {rows : Rows} (h : ROk N rows) (m : Str) : (mksF (foundOf (chgN m rows 8))).Nodup := by
  have e : mksF (foundOf (chgN m rows 8)) = (chgN m rows 8).flatMap fun c => mksF (items1 c) := by
    unfold mksF foundOf
    rw [List.map_flatMap]
  rw [e]
  refine List.pairwise_flatMap.mpr ⟨fun c _ => ?_, ?_⟩
  · obtain ⟨r, d, f⟩ := c
    cases d with
    | back p => exact List.nodup_nil
    | chg m' rm bh n t =>
      show (((insA r n bh t).map fun x => (x, f)).map (·.1.1)).Nodup
      rw [List.map_map]
      exact insA_nd r t n bh
  · unfold chgN
    refine List.pairwise_flatMap.mpr ⟨fun r _ => ?_, ?_⟩
    · unfold chg1 chgP
      rw [List.pairwise_map]
      refine List.Pairwise.imp_of_mem (fun {a b} ha hb hab => ?_) ((zip_pw (h.mono r)).filter _)
      intro x hx y hy q
      subst q
      obtain ⟨_, _, _, n, t, e1, _, _, e4⟩ := mks_items hx
      obtain ⟨_, _, _, n', t', f1, _, f3, _⟩ := mks_items hy
      have hab : Before a.1 b.1 := hab
      rw [show a.1 = _ from e1, show b.1 = _ from f1] at hab
      have hab : n + (t.length : Nat) ≤ n' := hab
      omega
    · refine List.Pairwise.imp (fun {a b} hab => ?_) List.pairwise_lt_range
      intro c hc c' hc' x hx y hy q
      subst q
      obtain ⟨_, _, _, _, _, _, e2, _⟩ := mks_items hx
      obtain ⟨_, _, _, _, _, _, f2, _⟩ := mks_items hy
      unfold chg1 chgP at hc hc'
      obtain ⟨u, _, rfl⟩ := List.mem_map.mp hc
      obtain ⟨u', _, rfl⟩ := List.mem_map.mp hc'
      have e2 : x.2 = (a : Int) := e2
      have f2 : x.2 = (b : Int) := f2
      omega
theorem InM.ok {N : Int} {rows : Rows} {m : Str} {b : Mk} (h : ROk N rows) (hN : N ≤ 1125899906842624) (hb : InM rows m b) : MkOk b ∧ b.1 < N := by
  obtain ⟨h0, rm, bh, n, t, hm, h1, h2⟩ := hb
  have hr := rowN_lt hm
  rw [h.sz.len] at hr
  obtain ⟨_, h3, h4, _⟩ := h.dd _ _ hm
  exact ⟨⟨by omega, by omega, h0, by omega⟩, by omega⟩
theorem ROk.rm {N : Int} {rows : Rows} (h : ROk N rows) (hN : N ≤ 1125899906842624) (m : Str) : RMok m rows := by
  refine ⟨fok_of (h.nd m) fun x hx b hb => ?_, fun c hc => ?_⟩
  · obtain ⟨r, rm, bh, n, t, i, hr, hd, hi, e1, e2⟩ := mem_found hx
    rw [e2] at hb
    rw [e1]
    cases i with
    | zero =>
      obtain ⟨h1, h2⟩ := (h.cl r _ hd).1 b hb
      exact ⟨h1.found h.sz, by show b.1 < n + ((0 : Nat) : Int); omega⟩
    | succ i =>
      have e3 : b = (n + (i : Nat), (r : Int)) := (Option.some.inj hb).symm
      subst e3
      exact ⟨found_of hr hd (by omega), by show n + (i : Int) < n + ((i + 1 : Nat) : Int); omega⟩
  · obtain ⟨r, hr, _, hd, hm⟩ := chgN_mem hc
    unfold ChgOk
    cases e : c.2.1 with
    | back p => exact True.intro
    | chg m' rm bh n t =>
      rw [e] at hd
      obtain ⟨_, _, _, h3, h4⟩ := h.dd _ _ hd
      exact ⟨h3, h4, fun k hk => (InM.ok h hN ((h.cl r _ hd).2 k hk).1).1⟩
/-- a deed that may come next -/
structure NewD (N : Int) (rows : Rows) (r : Nat) (d : Deed) : Prop where
  dd : DdOk N d
  cl : ClD rows d
  bef : ∀ e ∈ rowN rows r, Before e d
theorem sub_add {rows : Rows} {r : Nat} {d : Deed} (hr : r < rows.length) : SubR rows (addD rows r d) := fun i e he => by
  rw [rowN_add hr]
  split
  · rename_i h
    subst h
    exact List.mem_append.mpr (.inl he)
  · exact he
theorem mem_rowN {rows : Rows} {row : List Deed} (h : row ∈ rows) : ∃ i, i < rows.length ∧ rowN rows i = row := by
  obtain ⟨i, hi⟩ := List.mem_iff_getElem?.mp h
  refine ⟨i, (List.getElem?_eq_some_iff.mp hi).1, ?_⟩
  unfold rowN
  rw [List.getD_eq_getElem?_getD, hi]
  rfl
theorem ROk.add {N N' : Int} {rows : Rows} {r : Nat} {d : Deed} (h : ROk N rows) (hn : N ≤ N') (hr : r < 8) (hl : (rowN rows r).length < 200) (hd : NewD N' rows r d) : ROk N' (addD rows r d) := by
  have hr8 : r < rows.length := by rw [h.sz.len]; exact hr
  have mem : ∀ {i : Nat} {e : Deed}, e ∈ rowN (addD rows r d) i → e ∈ rowN rows i ∨ (i = r ∧ e = d) := fun {i e} he => by
    rw [rowN_add hr8] at he
    split at he
    · rename_i hi
      rcases List.mem_append.mp he with he | he
      · exact .inl (hi ▸ he)
      · exact .inr ⟨hi, List.mem_singleton.mp he⟩
    · exact .inl he
  refine ⟨⟨by rw [addD_len]; exact h.sz.len, fun row hrow => ?_⟩, fun i e he => ?_, fun i => ?_, fun i e he => ?_⟩
  · obtain ⟨i, hi, rfl⟩ := mem_rowN hrow
    rw [rowN_add hr8]
    split
    · rw [List.length_append]; show _ + 1 ≤ _; omega
    · exact h.sz.at i
  · rcases mem he with he | ⟨_, rfl⟩
    · exact (h.dd i e he).le hn
    · exact hd.dd
  · rw [rowN_add hr8]
    split
    · rename_i hi
      refine List.pairwise_append.mpr ⟨h.mono r, List.pairwise_singleton _ _, fun a ha b hb => ?_⟩
      rw [List.mem_singleton.mp hb]
      exact hd.bef a ha
    · exact h.mono i
  · rcases mem he with he | ⟨_, rfl⟩
    · exact (h.cl i e he).sub (sub_add hr8)
    · exact hd.cl.sub (sub_add hr8)
def nilR : Rows := List.replicate 8 []
theorem rowN_nil (i : Nat) : rowN nilR i = [] := by
  unfold rowN nilR
  rw [List.getD_eq_getElem?_getD, List.getElem?_replicate]
  split <;> rfl
theorem ROk.nil : ROk 1 nilR := by
  refine ⟨⟨rfl, fun row h => ?_⟩, fun i d h => ?_, fun i => ?_, fun i d h => ?_⟩
  · rw [List.eq_of_mem_replicate h]
    exact Nat.zero_le _
  · rw [rowN_nil] at h
    exact nomatch h
  · rw [rowN_nil]
    exact .nil
  · rw [rowN_nil] at h
    exact nomatch h
/-! the deeds that a replica knew -/
def cutR (rows : Rows) (c : List Nat) : Rows := (List.range 8).map fun k => (rowN rows k).take (c.getD k 0)
theorem cutR_len (rows : Rows) (c : List Nat) : (cutR rows c).length = 8 := by unfold cutR; rw [List.length_map, List.length_range]
theorem rowN_cut (rows : Rows) (c : List Nat) (i : Nat) : rowN (cutR rows c) i = if i < 8 then (rowN rows i).take (c.getD i 0) else [] := by
  by_cases h : i < 8
  · rw [if_pos h]
    show (cutR rows c).getD i [] = _
    unfold cutR
    rw [List.getD_eq_getElem?_getD, List.getElem?_map, List.getElem?_range h]
    rfl
  · rw [if_neg h, rowN_out (by rw [cutR_len]; omega)]
/-- what is cut holds all that it names -/
def CutC (rows : Rows) (c : List Nat) : Prop := ∀ i, ∀ d ∈ rowN (cutR rows c) i, ClD (cutR rows c) d
theorem cut_sub (rows : Rows) (c : List Nat) : SubR (cutR rows c) rows := fun i d h => by
  rw [rowN_cut] at h
  split at h
  · exact List.mem_of_mem_take h
  · exact nomatch h
theorem ROk.cut {N : Int} {rows : Rows} {c : List Nat} (h : ROk N rows) (hc : CutC rows c) : ROk N (cutR rows c) := by
  refine ⟨⟨cutR_len _ _, fun row hrow => ?_⟩, fun i d hd => h.dd i d (cut_sub _ _ i d hd), fun i => ?_, hc⟩
  · obtain ⟨i, hi, rfl⟩ := mem_rowN hrow
    rw [rowN_cut]
    split
    · rw [List.length_take]
      have := h.sz.at i
      omega
    · exact Nat.zero_le _
  · rw [rowN_cut]
    split
    · exact (h.mono i).sublist (List.take_sublist _ _)
    · exact .nil
theorem take_max_mem {α : Type} {l : List α} {a b : Nat} {x : α} (h : x ∈ l.take (max a b)) : x ∈ l.take a ∨ x ∈ l.take b := by
  by_cases hab : a ≤ b
  · rw [Nat.max_eq_right hab] at h; exact .inr h
  · rw [Nat.max_eq_left (by omega)] at h; exact .inl h
theorem take_mono {α : Type} {l : List α} {a b : Nat} {x : α} (hab : a ≤ b) (h : x ∈ l.take a) : x ∈ l.take b := by
  rw [show a = min a b by omega, ← List.take_take] at h
  exact List.mem_of_mem_take h
theorem CutC.max {rows : Rows} {c c1 c2 : List Nat} (h1 : CutC rows c1) (h2 : CutC rows c2) (e : ∀ i, i < 8 → c.getD i 0 = Max.max (c1.getD i 0) (c2.getD i 0)) : CutC rows c := by
  have s1 : SubR (cutR rows c1) (cutR rows c) := fun i d h => by
    rw [rowN_cut] at h ⊢
    split at h
    · rename_i hi
      rw [if_pos hi, e i hi]
      exact take_mono (Nat.le_max_left _ _) h
    · exact nomatch h
  have s2 : SubR (cutR rows c2) (cutR rows c) := fun i d h => by
    rw [rowN_cut] at h ⊢
    split at h
    · rename_i hi
      rw [if_pos hi, e i hi]
      exact take_mono (Nat.le_max_right _ _) h
    · exact nomatch h
  intro i d hd
  rw [rowN_cut] at hd
  split at hd
  · rename_i hi
    rw [e i hi] at hd
    rcases take_max_mem hd with hd | hd
    · exact (h1 i d (by rw [rowN_cut, if_pos hi]; exact hd)).sub s1
    · exact (h2 i d (by rw [rowN_cut, if_pos hi]; exact hd)).sub s2
  · exact nomatch hd
/-- a cut of the rows is not changed by a deed that it does not reach -/
theorem rows_ext {a b : Rows} (h : a.length = b.length) (hr : ∀ i, rowN a i = rowN b i) : a = b := by
  refine List.ext_getElem h fun i h1 h2 => ?_
  have := hr i
  unfold rowN at this
  rw [List.getD_eq_getElem?_getD, List.getD_eq_getElem?_getD, List.getElem?_eq_getElem h1, List.getElem?_eq_getElem h2] at this
  exact this
theorem cut_add {rows : Rows} {c : List Nat} {r : Nat} {d : Deed} (hr : r < rows.length) (hc : c.getD r 0 ≤ (rowN rows r).length) : cutR (addD rows r d) c = cutR rows c := by
  refine rows_ext (by rw [cutR_len, cutR_len]) fun i => ?_
  rw [rowN_cut, rowN_cut, rowN_add hr]
  by_cases h : i = r
  · subst h
    rw [if_pos rfl]
    split
    · rw [List.take_append_of_le_length hc]
    · rfl
  · rw [if_neg h]
theorem cut_own {rows : Rows} {c : List Nat} {r : Nat} {d : Deed} (hr : r < rows.length) (hr8 : r < 8) (hcl : c.length = 8) (hc : c.getD r 0 = (rowN rows r).length) : cutR (addD rows r d) (c.set r ((rowN rows r).length + 1)) = addD (cutR rows c) r d := by
  refine rows_ext (by rw [cutR_len, addD_len, cutR_len]) fun i => ?_
  rw [rowN_cut, rowN_add hr, rowN_add (by rw [cutR_len]; exact hr8), rowN_cut, rowN_cut, if_pos hr8]
  by_cases h : i = r
  · subst h
    rw [if_pos hr8, if_pos rfl, if_pos rfl, List.getD_eq_getElem?_getD, List.getElem?_set_self (by omega), hc, List.take_length]
    show (rowN rows i ++ [d]).take ((rowN rows i).length + 1) = _
    rw [List.take_of_length_le (by rw [List.length_append]; exact Nat.le_refl _)]
  · rw [if_neg h, if_neg h, List.getD_eq_getElem?_getD, List.getElem?_set_ne (Ne.symm h), List.getD_eq_getElem?_getD]


/-! ### the modules that are drawn -/
def modN : List Str := [S [109, 97, 105, 110], S [97], S [97, 32, 98, 39, 91, 93], S (List.replicate (40 : Int).toNat 122)]
theorem modN_len : modN.length = 4 := rfl
def txtOk (m : Str) : Bool := PyData.canLay0 (.str m) && decide (1 ≤ m.length) && decide (m.length ≤ 40)
theorem modN_ok : ∀ m ∈ modN, txtOk m = true := by
  have h : modN.all txtOk = true := by decide +kernel
  exact List.all_eq_true.mp h

def sp_lmods : Sp := fun vs H Q _ => vs = [] ∧ ∀ (p : Addr) (H' : Hp), Own H [(p, .lst (modN.map V.str))] H' → Q (.ref p) H'

theorem ok__law_modules (T : Txt K mg base) : FnOk P w K mg base CX0 1 T.a__law_modules T.d__law_modules P__law_modules sp_lmods := by
  refine T.F__law_modules.ok sc__law_modules (fun vs H Q E h => ?_) (fun cdv A outer s H vs Q E hr h => ?_)
  · obtain ⟨rfl, _⟩ := h
    rfl
  · obtain ⟨rfl, q⟩ := h
    refine ⟨_, (pss_one (ps_ret (pe_lst (pa_cons pe_str (pa_cons pe_str (pa_cons pe_str (pa_cons (pe_op op_mulS pe_str pe_int) pa_nil))))))), ?_⟩
    walk_at "z"
    refine g_mulS (c := 122) (by decide) (by decide) ?_
    walk_at "z"
    refine g_new (small_le (by simp)) (Own.start H) fun p H1 np O => ?_
    walk_at "z"
    exact q p H1 O

/-! ### drawn letters -/
def chrs : List Nat := (Str.ofString " !\"#$&'()*+,-./0123456789:;<=>?@ABCDEFGHIJKLMNOPQRSTUVWXYZ[\\]^_`abcdefghijklmnopqrstuvwxyz{|}~\n").cps.toList
theorem chrs_len : chrs.length = 95 := by decide +kernel
theorem chrs_ok : ∀ c ∈ chrs, c < 128 := by
  have h : chrs.all (fun c => decide (c < 128)) = true := by decide +kernel
  exact fun c hc => of_decide_eq_true (List.all_eq_true.mp h c hc)
theorem chrs_eq : Str.ofString " !\"#$&'()*+,-./0123456789:;<=>?@ABCDEFGHIJKLMNOPQRSTUVWXYZ[\\]^_`abcdefghijklmnopqrstuvwxyz{|}~\n" = S chrs := (S_of _).symm

def sp_lletters (K : PySem.W.Frag) : Sp := fun vs H Q _ => ∃ (dr : Addr) (ds : List Int) (ix : Int), vs = [.ref dr, .int ix] ∧ SqL K H dr (ds.map V.int) ∧ DrawsOk ds ∧ 0 ≤ ix ∧ ∀ t : List Nat, t.length ≤ 4 → (∀ c ∈ t, c < 128) → Q (.str (S t)) H

theorem ok__law_letters (T : Txt K mg base) : FnOk P w K mg base CX0 3 T.a__law_letters T.d__law_letters P__law_letters (sp_lletters K) := by
  refine T.F__law_letters.ok sc__law_letters (fun vs H Q E h => ?_) (fun cdv A outer s H vs Q E hr h => ?_)
  · obtain ⟨dr, ds, ix, rfl, _⟩ := h
    rfl
  · obtain ⟨dr, ds, ix, rfl, hS, hd, hi, q⟩ := h
    refine ⟨_, (pss_cons (ps_set (i := 2) sc__law_letters.nd rfl (Or.inl rfl) pe_str)
        (pss_cons (ps_set (i := 3) sc__law_letters.nd rfl (Or.inl rfl) pe_str)
        (pss_cons (ps_for PassesOwn.never rfl (pi_range1 (by rfl) T.z_range (pa_cons (pe_op op_mod (pe_call (ok__law_at T) (hr.mono (by omega)) (by rfl) T.g__law_at T.F__law_at.kp T.b__law_at .nil pass0 (pa_cons (pv 0) (pa_cons (pv 1) pa_nil))) pe_int) pa_nil)) (pg_name (i := 4) sc__law_letters.nd rfl (Or.inl rfl))
          (pss_one (ps_set (i := 3) sc__law_letters.nd rfl (Or.inl rfl) (pe_op op_addU (pv 3) (pe_ix ix_seq (pv 2) (pe_op op_mod (pe_op op_addU (pe_call (ok__law_at T) (hr.mono (by omega)) (by rfl) T.g__law_at T.F__law_at.kp T.b__law_at .nil pass0 (pa_cons (pv 0) (pa_cons (pe_op op_addU (pv 1) pe_int) pa_nil))) (pe_op op_mulU pe_int (pv 4))) pe_int) (fun _ _ => rfl))))))
        (pss_one (ps_ret (pv 3)))))), ?_⟩
    walk_at "z"
    refine ⟨dr, ds, ix, rfl, hS, hd, hi, fun n0 h0 h1 => ?_⟩
    walk_at "z"
    refine forB_rng0 (fun k σ H' => ∃ (t : List Nat) (x4 : Option V), σ = [some (.ref dr), some (.int ix), some (.str (S chrs)), some (.str (S t)), x4] ∧ H' = H ∧ t.length = k ∧ ∀ c ∈ t, c < 128) ?_ ?_ ?_
    · exact ⟨[], none, by rw [← chrs_eq]; rfl, rfl, rfl, fun _ h => nomatch h⟩
    · rintro k σ H1 hk ⟨t, x4, rfl, rfl, hl, hc⟩
      walk_at "z"
      refine ⟨dr, ds, ix + 1, rfl, hS, hd, by omega, fun n h0 h1 => ?_⟩
      walk_at "z"
      have hx : ((n + 37 * (k : Int)) % 95).toNat < chrs.length := by rw [chrs_len]; omega
      refine g_ixSS (by rw [chrs_len]; decide) (by omega) (List.getElem?_eq_getElem hx) ?_
      refine g_addSS (by show _ + 1 ≤ _; omega) ?_
      walk_at "z"
      refine ⟨_, _, rfl, rfl, by rw [List.length_append]; show _ + 1 = _; omega, fun c hcm => ?_⟩
      rcases List.mem_append.mp hcm with h | h
      · exact hc c h
      · rw [List.mem_singleton.mp h]
        exact chrs_ok _ (List.getElem_mem _)
    · rintro σ H1 ⟨t, x4, rfl, rfl, hl, hc⟩
      walk_at "z"
      exact q t (by omega) hc

/-! ### the last number -/
def endN : Deed → Int
  | .chg _ _ _ n t => n + (t.length : Nat)
  | .back _ => 0
def lastL (l : List Deed) (a : Int) : Int := l.foldl (fun a d => max a (endN d)) a
def lastR (rows : Rows) (a : Int) : Int := rows.foldl (fun a row => lastL row a) a
theorem lastL_snoc (l : List Deed) (d : Deed) (a : Int) : lastL (l ++ [d]) a = max (lastL l a) (endN d) := by
  unfold lastL
  rw [List.foldl_append]
  rfl
theorem lastR_snoc (l : Rows) (r : List Deed) (a : Int) : lastR (l ++ [r]) a = lastL r (lastR l a) := by
  unfold lastR
  rw [List.foldl_append]
  rfl
theorem lastL_le {N : Int} : ∀ {l : List Deed} {a : Int}, (∀ d ∈ l, endN d ≤ N) → a ≤ N → lastL l a ≤ N
  | [], _, _, h => h
  | d :: l, a, h, ha => lastL_le (l := l) (a := max a (endN d)) (fun x hx => h x (.tail _ hx)) (by have := h d (.head _); omega)
theorem lastR_le {N : Int} : ∀ {l : Rows} {a : Int}, (∀ r ∈ l, ∀ d ∈ r, endN d ≤ N) → a ≤ N → lastR l a ≤ N
  | [], _, _, h => h
  | r :: l, a, h, ha => lastR_le (l := l) (a := lastL r a) (fun x hx => h x (.tail _ hx)) (lastL_le (h r (.head _)) ha)
theorem lastL_ge : ∀ {l : List Deed} {a : Int}, a ≤ lastL l a
  | [], a => Int.le_refl a
  | d :: l, a => Int.le_trans (Int.le_max_left a (endN d)) (lastL_ge (l := l))
theorem lastR_ge : ∀ {l : Rows} {a : Int}, a ≤ lastR l a
  | [], a => Int.le_refl a
  | r :: l, a => Int.le_trans (lastL_ge (l := r) (a := a)) (lastR_ge (l := l))
theorem rowN_eq {rows : Rows} {i : Nat} (h : i < rows.length) : rows[i]? = some (rowN rows i) := by
  unfold rowN
  rw [List.getD_eq_getElem?_getD, List.getElem?_eq_getElem h]
  rfl

def sp_llast (K : PySem.W.Frag) : Sp := fun vs H Q _ => ∃ (R : Addr) (as : List Addr) (rows : Rows), vs = [.ref R] ∧ RowsAt H R as rows ∧ (∀ i, ∀ d ∈ rowN rows i, 0 ≤ endN d ∧ ∀ m rm bh n t, d = .chg m rm bh n t → t.length ≤ 1000) ∧ Q (.int (lastR rows 0)) H

theorem ok__law_last (T : Txt K mg base) : FnOk P w K mg base CX0 1 T.a__law_last T.d__law_last P__law_last (sp_llast K) := by
  refine T.F__law_last.ok sc__law_last (fun vs H Q E h => ?_) (fun cdv A outer s H vs Q E hr h => ?_)
  · obtain ⟨R, as, rows, rfl, _⟩ := h
    rfl
  · obtain ⟨R, as, rows, rfl, hR, hp, q⟩ := h
    refine ⟨_, (pss_cons (ps_set (i := 1) sc__law_last.nd rfl (Or.inl rfl) pe_int)
        (pss_cons (ps_for PassesOwn.never rfl (pi_list (pv 0)) (pg_name (i := 2) sc__law_last.nd rfl (Or.inl rfl))
          (pss_one (ps_for PassesOwn.never rfl (pi_list (pv 2)) (pg_name (i := 3) sc__law_last.nd rfl (Or.inl rfl))
          (pss_one (ps_if (pt_cmpR (op_eqU (hu64 hr)) (pe_ix ix_seq (pv 3) pe_int (fun _ _ => rfl)) pe_str (nomark _))
          (pss_one (ps_set (i := 1) sc__law_last.nd rfl (Or.inl rfl) (pe_callB (call_max2U rfl) (by rfl) T.z_max (by decide +kernel) (pa_cons (pv 1) (pa_cons (pe_op op_addU (pe_ix ix_seq (pv 3) pe_int (fun _ _ => rfl)) (pe_callB call_lenU (by rfl) T.z_len PySem.boot_len (pa_cons (pe_ix ix_seq (pv 3) pe_int (fun _ _ => rfl)) pa_nil))) pa_nil)))))
          pss_nil)))))
        (pss_one (ps_ret (pv 1))))), ?_⟩
    have hal := hR.len
    have hml : (as.map V.ref).length = as.length := List.length_map ..
    walk_at "z"
    refine g_iListv (.inl (.inl hR.top)) ?_
    refine forB_list (as.map V.ref) (fun i σ H' => ∃ (x2 x3 : Option V), σ = [some (.ref R), some (.int (lastR (rows.take i) 0)), x2, x3] ∧ H' = H) ?_ ?_ ?_ ?_
    · exact ⟨_, _, rfl, rfl⟩
    · rintro i σ H' _ ⟨x2, x3, rfl, rfl⟩
      exact .inl (.inl hR.top)
    · rintro i v σ H' hv ⟨x2, x3, rfl, rfl⟩
      have hi : i < rows.length := by have := (List.getElem?_eq_some_iff.mp hv).1; omega
      obtain ⟨a, ws, ha1, ha2, ha, hT, hwl⟩ := hR.at hi
      rw [ha1] at hv
      cases hv
      walk_at "z"
      refine g_iListv (.inl (.inl ha)) ?_
      refine forB_list ws (fun k σ H'' => ∃ (x3 : Option V), σ = [some (.ref R), some (.int (lastL ((rowN rows i).take k) (lastR (rows.take i) 0))), some (.ref a), x3] ∧ H'' = H') ?_ ?_ ?_ ?_
      · exact ⟨_, rfl, rfl⟩
      · rintro k σ H'' _ ⟨x3, rfl, rfl⟩
        exact .inl (.inl ha)
      · rintro k v σ H'' hv ⟨x3, rfl, rfl⟩
        obtain ⟨d, hd, hTd⟩ := tds_at' hT hv
        have hdm : d ∈ rowN rows i := List.mem_of_getElem? hd
        have h0 : 0 ≤ lastL ((rowN rows i).take k) (lastR (rows.take i) 0) := Int.le_trans (lastR_ge (l := rows.take i)) lastL_ge
        rw [take_succ_of hd, lastL_snoc]
        obtain ⟨b, xs, rfl, hb, hcase⟩ := td_mod hTd
        walk_at "z"
        rcases hcase with ⟨q0, rfl, rfl⟩ | ⟨m', rm, bh, n, t, vr, vb, rfl, rfl, _, _⟩
        · refine g_ixT (.inl (.inl hb)) (atI_nat (j := 0) rfl) ?_
          walk_at "z"
          refine g_eqS ?_
          walk_at "z"
          refine ite_d (fun h => absurd h (by decide +kernel)) (fun _ => ?_)
          refine ⟨some (.ref b), ?_, rfl⟩
          rw [show max (lastL ((rowN rows i).take k) (lastR (rows.take i) 0)) (endN (.back q0)) = _ from Int.max_eq_left h0]
          rfl
        · refine g_ixT (.inl (.inl hb)) (atI_nat (j := 0) rfl) ?_
          walk_at "z"
          refine g_eqS ?_
          walk_at "z"
          refine ite_d (fun _ => ?_) (fun h => absurd rfl h)
          walk_at "z"
          refine g_ixT (.inl (.inl hb)) (atI_nat (j := 4) rfl) ?_
          walk_at "z"
          refine g_ixT (.inl (.inl hb)) (atI_nat (j := 5) rfl) ?_
          walk_at "z"
          have := (hp i _ hdm).2 _ _ _ _ _ rfl
          refine g_lenSS (by omega) ?_
          walk_at "z"
          exact ⟨_, rfl, rfl⟩
      · rintro σ H'' ⟨x3, rfl, rfl⟩
        refine ⟨some (.ref a), x3, ?_, rfl⟩
        rw [take_succ_of (rowN_eq hi), lastR_snoc, List.take_of_length_le (by omega)]
    · rintro σ H' ⟨x2, x3, rfl, rfl⟩
      walk_at "z"
      rw [List.take_of_length_le (by omega)]
      exact q

/-! ### a drawn deed -/
def stepN : List Int := [0, 0, 1, 5]
theorem stepN_ok : ∀ s ∈ stepN, 0 ≤ s ∧ s ≤ 5 := by decide +kernel
theorem strOk_S {t : List Nat} (h : ∀ c ∈ t, c < 128) : PyData.canLay0 (.str (S t)) = true := by
  have e : PyData.canLay0 (.str (S t)) = (S t).cps.all (· < 0x110000) := by simp only [PyData.canLay0]; rfl
  rw [e]
  refine Array.all_eq_true.mpr fun i hi => ?_
  have hi' : i < t.length := by have := S_len t; unfold Str.length at this; omega
  have : (S t).cps[i] = t[i] := by unfold S; simp
  have h9 := h t[i] (List.getElem_mem _)
  exact decide_eq_true (Nat.lt_of_le_of_lt (Nat.le_of_eq this) (by omega))
theorem dok_chg {m : Str} {rm : List Mk} {bh : Option Mk} {n : Int} {t : List Nat} (hm : PyData.canLay0 (.str m) = true) (ht : ∀ c ∈ t, c < 128) : DOk (.chg m rm bh n t) := by
  unfold DOk
  have h1 : PyData.canLay0 (.tuple (rm.map kzD)) = true := by simp only [PyData.canLay0]; exact lay_kzs rm
  have h2 := strOk_S ht
  have h3 := lay_O bh
  have h4 : PyData.canLay0 (.str (Str.ofString "change")) = true := by decide +kernel
  have h5 : PyData.canLay0 (.int n) = true := by simp only [PyData.canLay0]
  show PyData.canLayAll0 [.str (Str.ofString "change"), .str m, .tuple (rm.map kzD), encO bh, .int n, .str (S t)] = true
  simp only [PyData.canLayAll0, h1, h2, h3, h4, h5, hm, Bool.and_self]
theorem found_in {m : Str} {rows : Rows} {b : Mk} (h : b ∈ mksF (foundOf (chgN m rows 8))) : InM rows m b := by
  obtain ⟨x, hx, rfl⟩ := mem_mks.mp h
  obtain ⟨r, rm, bh, n, t, i, hr, hd, hi, e1, _⟩ := mem_found hx
  rw [e1]
  exact ⟨by show (0 : Int) ≤ r; omega, rm, bh, n, t, by rw [Int.toNat_natCast]; exact hd, by show n ≤ n + (i : Int); omega, by show n + (i : Int) < _; omega⟩
theorem row_in {m : Str} {rows : Rows} {b : Mk} (h : b ∈ (rowOf m rows).map (·.1)) : InM rows m b := by
  unfold rowOf at h
  have h1 := (place_perm _ _).mem_iff.mp h
  have h2 : (mksF (sortF (foundOf (chgN m rows 8)))).Perm (mksF (foundOf (chgN m rows 8))) := (sortF_perm _).map _
  exact found_in (h2.mem_iff.mp h1)
/-- text of 1 to 40 signs -/
def NameOk (m : Str) : Prop := txtOk m = true
def ModD (d : Deed) : Prop := match d with
  | .chg m _ _ _ _ => m ∈ modN
  | .back _ => True
def BackD (l : Nat) (d : Deed) : Prop := match d with
  | .chg _ _ _ _ _ => True
  | .back p => 1 ≤ p ∧ p ≤ l
theorem row_len (m : Str) {N : Int} {rows : Rows} (h : ROk N rows) (hN : N ≤ 1125899906842624) : (rowOf m rows).length ≤ 160000 := by
  unfold rowOf
  rw [place_len, (sortF_perm _).length_eq]
  have h1 := (found_len (h.rm hN m).ok).1
  have h2 := chgN_le m h.sz 8
  omega
theorem g_ixInts {K : PySem.W.Frag} {H : Hp} {a : Addr} {ns : List Int} {m : Int} {Q : VK} (h : SqL K H a (ns.map V.int)) (h0 : 0 ≤ m) (hm : m < ns.length) (k : ∀ x ∈ ns, Q (.int x) H) : rIx K (.ref a) (.int m) H Q := by
  have hl : m.toNat < ns.length := by omega
  exact g_ixL h (atI_of h0 (by rw [List.getElem?_map, List.getElem?_eq_getElem hl]; rfl)) (k _ (List.getElem_mem hl))
theorem g_ixStrs {K : PySem.W.Frag} {H : Hp} {a : Addr} {ns : List Str} {m : Int} {Q : VK} (h : SqL K H a (ns.map V.str)) (h0 : 0 ≤ m) (hm : m < ns.length) (k : ∀ x ∈ ns, Q (.str x) H) : rIx K (.ref a) (.int m) H Q := by
  have hl : m.toNat < ns.length := by omega
  exact g_ixL h (atI_of h0 (by rw [List.getElem?_map, List.getElem?_eq_getElem hl]; rfl)) (k _ (List.getElem_mem hl))

def sp_ldeed (K : PySem.W.Frag) (P : Addr) : Sp := fun vs H Q _ => ∃ (dr : Addr) (ds : List Int) (ix : Int) (R : Addr) (as : List Addr) (rows : Rows) (r : Nat) (N : Int) (ps : Array Value), vs = [.ref dr, .int ix, .ref R, .int (r : Nat)] ∧ SqL K H dr (ds.map V.int) ∧ DrawsOk ds ∧ 0 ≤ ix ∧ RowsAt H R as rows ∧ ROk N rows ∧ 1 ≤ N ∧ N ≤ 562949953421312 ∧ r < 8 ∧ H P = some (.tbl ps) ∧ TabI H (qLam "_law_row") ps ∧
  ∀ (B' : Hp) (v : V) (d : Deed) (ps' : Array Value) (H' : Hp), Same (dels H [P]) B' → Own B' [(P, .tbl ps')] H' → TabI B' (qLam "_law_row") ps' → Td B' v (encD d) → NewD (N + 5 + 4) rows r d → ModD d → BackD (rowN rows r).length d → Q v H'
theorem sql_dels {K : PySem.W.Frag} {H : Hp} {P a : Addr} {ps : Array Value} {xs : List V} (hP : H P = some (.tbl ps)) (h : SqL K H a xs) : SqL K (dels H [P]) a xs := by
  rcases h with (h | ⟨o, h⟩) | h
  · exact .inl (.inl (dels1 hP h (fun q => nomatch q)))
  · exact .inl (.inr ⟨o, dels1 hP h (fun q => nomatch q)⟩)
  · exact .inr h

theorem ok__law_deed (T : Txt K mg base) : FnOk P w K mg base CX0 4 T.a__law_deed T.d__law_deed P__law_deed (sp_ldeed K T.ta__law_row) := by
  refine T.F__law_deed.ok sc__law_deed (fun vs H Q E h => ?_) (fun cdv A outer s H vs Q E hr h => ?_)
  · obtain ⟨dr, ds, ix, R, as, rows, r, N, ps, rfl, _⟩ := h
    rfl
  · obtain ⟨dr, ds, ix, R, as, rows, r, N, ps, rfl, hS, hds, hix, hR, hok, hN1, hN2, hr8, hP, hI, q⟩ := h
    refine ⟨_, (pss_cons (ps_set (i := 4) sc__law_deed.nd rfl (Or.inl rfl) (pe_ix ix_seq (pv 2) (pv 3) (fun _ _ => rfl)))
        (Evl.pss_cut (ps_if (PW.pt (pw_and (pt_cmpR (op_eqU (hu64 hr)) (pe_op op_mod (pe_call (ok__law_at T) (hr.mono (by omega)) (by rfl) T.g__law_at T.F__law_at.kp T.b__law_at .nil pass0 (pa_cons (pv 0) (pa_cons (pv 1) pa_nil))) pe_int) pe_int (nomark _)) (pw_and1 (pt_cmpR op_gt (pe_callB call_lenU (by rfl) T.z_len PySem.boot_len (pa_cons (pv 4) pa_nil)) pe_int (nomark _)))))
          (pss_one (ps_ret (pe_tup (pa_cons pe_str (pa_cons (pe_op op_addU pe_int (pe_op op_mod (pe_call (ok__law_at T) (hr.mono (by omega)) (by rfl) T.g__law_at T.F__law_at.kp T.b__law_at .nil pass0 (pa_cons (pv 0) (pa_cons (pe_op op_addU (pv 1) pe_int) pa_nil))) (pe_callB call_lenU (by rfl) T.z_len PySem.boot_len (pa_cons (pv 4) pa_nil)))) pa_nil)))))
          pss_nil)
        (pss_cons (ps_set (i := 5) sc__law_deed.nd rfl (Or.inl rfl) (pe_ix ix_seq (pe_call0 (ok__law_modules T) (hr.mono (by omega)) (by rfl) T.g__law_modules T.F__law_modules.kp T.b__law_modules .nil pass0) (pe_op op_fdiv (pe_op op_mod (pe_call (ok__law_at T) (hr.mono (by omega)) (by rfl) T.g__law_at T.F__law_at.kp T.b__law_at .nil pass0 (pa_cons (pv 0) (pa_cons (pe_op op_addU (pv 1) pe_int) pa_nil))) pe_int) pe_int) (fun _ _ => rfl)))
        (pss_cons (ps_setLc (i := 6) (own := [("each", 13)]) rfl sc__law_deed.nd rfl rfl (sw_true rfl rfl rfl (by decide +kernel)) (pi_list (pe_call (ok__law_row T) (hr.mono (by omega)) (by rfl) T.g__law_row T.F__law_row.kp T.b__law_row .nil pass0 (pa_cons (pv 2) (pa_cons (pv 5) pa_nil)))) (blkOk_by (own := [("each", 13)]) (N := N__law_deed) (sc := defScope s__law_deed) (by decide +kernel)) (fun _ _ _ _ _ => (pg_name (i := 13) sc__law_deed.nd rfl (Or.inl rfl))) (fun _ _ _ _ _ => pts_nil) (fun _ _ _ _ _ => (pe_ix (show IxR _ (rIx K) from ix_seq) (pv 13) pe_int (fun _ _ => rfl))))
        (pss_cons (ps_set (i := 7) sc__law_deed.nd rfl (Or.inl rfl) (pe_lst pa_nil))
        (pss_cons (ps_for PassesOwn.never rfl (pi_range1 (by rfl) T.z_range (pa_cons (pe_op op_mod (pe_call (ok__law_at T) (hr.mono (by omega)) (by rfl) T.g__law_at T.F__law_at.kp T.b__law_at .nil pass0 (pa_cons (pv 0) (pa_cons (pe_op op_addU (pv 1) pe_int) pa_nil))) pe_int) pa_nil)) (pg_name (i := 8) sc__law_deed.nd rfl (Or.inl rfl))
          (pss_one (ps_if (pt_cmpR op_gt (pe_callB call_lenU (by rfl) T.z_len PySem.boot_len (pa_cons (pv 6) pa_nil)) pe_int (nomark _))
          (pss_one (ps_expr (pe_bm PySem.F.plainAttrs_list PySem.F.slot_list_append PySem.F.type_list_append mt_append (pv 7) (pa_cons (pe_ix ix_seq (pv 6) (pe_op op_mod (pe_call (ok__law_at T) (hr.mono (by omega)) (by rfl) T.g__law_at T.F__law_at.kp T.b__law_at .nil pass0 (pa_cons (pv 0) (pa_cons (pe_op op_addU (pe_op op_addU (pv 1) pe_int) (pv 8)) pa_nil))) (pe_callB call_lenU (by rfl) T.z_len PySem.boot_len (pa_cons (pv 6) pa_nil))) (fun _ _ => rfl)) pa_nil))))
          pss_nil)))
        (pss_cons (ps_set (i := 9) sc__law_deed.nd rfl (Or.inl rfl) pe_non)
        (Evl.pss_cut (ps_if (PW.pt (pw_and (pt_cmpR op_gt (pe_callB call_lenU (by rfl) T.z_len PySem.boot_len (pa_cons (pv 6) pa_nil)) pe_int (nomark _)) (pw_and1 (pt_cmpR (op_neU (hu64 hr)) (pe_op op_mod (pe_call (ok__law_at T) (hr.mono (by omega)) (by rfl) T.g__law_at T.F__law_at.kp T.b__law_at .nil pass0 (pa_cons (pv 0) (pa_cons (pe_op op_addU (pv 1) pe_int) pa_nil))) pe_int) pe_int (nomark _)))))
          (pss_one (ps_set (i := 9) sc__law_deed.nd rfl (Or.inl rfl) (pe_ix ix_seq (pv 6) (pe_op op_mod (pe_op op_fdiv (pe_call (ok__law_at T) (hr.mono (by omega)) (by rfl) T.g__law_at T.F__law_at.kp T.b__law_at .nil pass0 (pa_cons (pv 0) (pa_cons (pe_op op_addU (pv 1) pe_int) pa_nil))) pe_int) (pe_callB call_lenU (by rfl) T.z_len PySem.boot_len (pa_cons (pv 6) pa_nil))) (fun _ _ => rfl))))
          pss_nil)
        (pss_cons (ps_set (i := 10) sc__law_deed.nd rfl (Or.inl rfl) pe_int)
        (pss_cons (ps_for PassesOwn.never rfl (pi_list (pe_op op_addU (pv 7) (pe_lst (pa_cons (pv 9) pa_nil)))) (pg_name (i := 11) sc__law_deed.nd rfl (Or.inl rfl))
          (pss_one (ps_if (pt_cmpR op_notNU (pv 11) pe_non (nomark _))
          (pss_one (ps_set (i := 10) sc__law_deed.nd rfl (Or.inl rfl) (pe_callB (call_max2U rfl) (by rfl) T.z_max (by decide +kernel) (pa_cons (pv 10) (pa_cons (pe_op op_addU (pe_ix ix_seq (pv 11) pe_int (fun _ _ => rfl)) pe_int) pa_nil)))))
          pss_nil)))
        (pss_cons (ps_for PassesOwn.never rfl (pi_list (pv 4)) (pg_name (i := 12) sc__law_deed.nd rfl (Or.inl rfl))
          (pss_one (ps_if (pt_cmpR (op_eqU (hu64 hr)) (pe_ix ix_seq (pv 12) pe_int (fun _ _ => rfl)) pe_str (nomark _))
          (pss_one (ps_set (i := 10) sc__law_deed.nd rfl (Or.inl rfl) (pe_callB (call_max2U rfl) (by rfl) T.z_max (by decide +kernel) (pa_cons (pv 10) (pa_cons (pe_op op_addU (pe_ix ix_seq (pv 12) pe_int (fun _ _ => rfl)) (pe_callB call_lenU (by rfl) T.z_len PySem.boot_len (pa_cons (pe_ix ix_seq (pv 12) pe_int (fun _ _ => rfl)) pa_nil))) pa_nil)))))
          pss_nil)))
        (pss_cons (ps_set (i := 10) sc__law_deed.nd rfl (Or.inl rfl) (pe_op op_addU (pv 10) (pe_ix ix_seq (pe_lst (pa_cons pe_int (pa_cons pe_int (pa_cons pe_int (pa_cons pe_int pa_nil))))) (pe_op op_mod (pe_call (ok__law_at T) (hr.mono (by omega)) (by rfl) T.g__law_at T.F__law_at.kp T.b__law_at .nil pass0 (pa_cons (pv 0) (pa_cons (pe_op op_addU (pv 1) pe_int) pa_nil))) pe_int) (fun _ _ => rfl))))
        (Evl.pss_cut (ps_if (pt_cmpR (op_eqU (hu64 hr)) (pe_op op_mod (pe_op op_fdiv (pe_call (ok__law_at T) (hr.mono (by omega)) (by rfl) T.g__law_at T.F__law_at.kp T.b__law_at .nil pass0 (pa_cons (pv 0) (pa_cons (pe_op op_addU (pv 1) pe_int) pa_nil))) pe_int) pe_int) pe_int (nomark _))
          (pss_one (ps_set (i := 10) sc__law_deed.nd rfl (Or.inl rfl) (pe_callB (call_max2U rfl) (by rfl) T.z_max (by decide +kernel) (pa_cons (pv 10) (pa_cons (pe_op op_addU (pe_call (ok__law_last T) (hr.mono (by omega)) (by rfl) T.g__law_last T.F__law_last.kp T.b__law_last .nil pass0 (pa_cons (pv 2) pa_nil)) pe_int) pa_nil)))))
          pss_nil)
        (pss_one (ps_ret (pe_tup (pa_cons pe_str (pa_cons (pv 5) (pa_cons (pe_callTy call_tupleU (by rfl) T.z_tuple (by decide +kernel) (pa_cons (pv 7) pa_nil)) (pa_cons (pv 9) (pa_cons (pv 10) (pa_cons (pe_call (ok__law_letters T) (hr.mono (by omega)) (by rfl) T.g__law_letters T.F__law_letters.kp T.b__law_letters .nil pass0 (pa_cons (pv 0) (pa_cons (pe_op op_addU (pv 1) pe_int) pa_nil))) pa_nil)))))))))))))))))))))), ?_⟩
    have O := Own.arg1 hP
    have hI := (dels1_imm hP rfl).tab hI
    have hR := hR.dels hP
    have hS := sql_dels hP hS
    have hz := hok.sz
    obtain ⟨a, ws, ha1, ha2, ha, hT, hwl⟩ := hR.at (i := r) (by rw [hz.len]; exact hr8)
    have hz1 := hz.at r
    walk_at "z"
    refine g_ixL (.inl (.inl (O.fr _ _ hR.top))) (atI_nat ha1) ?_
    refine ⟨fun σ H' => σ = [some (.ref dr), some (.int ix), some (.ref R), some (.int (r : Nat)), some (.ref a), none, none, none, none, none, none, none, none, none] ∧ H' = H, ?_, ?_⟩
    · walk_at "z"
      refine ⟨dr, ds, ix, rfl, O.fr.seq hS, hds, hix, fun n0 _ _ => ?_⟩
      walk_at "z"
      refine ite_d (fun _ => ?_) (fun _ => ?_)
      · walk_at "z"
        refine g_lenL (.inl (.inl (O.fr _ _ ha))) ?_
        walk_at "z"
        refine ite_d (fun hpos => ?_) (fun _ => ⟨rfl, rfl⟩)
        walk_at "z"
        refine ⟨dr, ds, ix + 1, rfl, O.fr.seq hS, hds, by omega, fun n1 h0 h1 => ?_⟩
        walk_at "z"
        refine g_lenL (.inl (.inl (O.fr _ _ ha))) ?_
        walk_at "z"
        refine g_new (small_le (by simp)) O fun t H1 nt O => ?_
        obtain ⟨B, e, ht, O⟩ := fz O
        walk_at "z"
        have h2 : 0 ≤ n1 % ((ws.length : Nat) : Int) := Int.emod_nonneg _ (by omega)
        have h3 : n1 % ((ws.length : Nat) : Int) < ((ws.length : Nat) : Int) := Int.emod_lt_of_pos _ (by omega)
        exact q B (.ref t) (.back (1 + n1 % ((ws.length : Nat) : Int))) ps H1 e O (hI.ex e) (td_back ht) ⟨⟨dok_back _, True.intro⟩, True.intro, fun e _ => by cases e <;> exact True.intro⟩ True.intro ⟨by omega, by omega⟩
      · exact iteF ⟨rfl, rfl⟩
    · rintro σ H1 ⟨rfl, rfl⟩
      walk_at "z"
      refine ⟨rfl, fun p1 H2 O1 => ?_⟩
      have O := O.join O1
      clear O1
      walk_at "z"
      refine ⟨dr, ds, ix + 1, rfl, O.fr.seq hS, hds, by omega, fun n1 h0 h1 => ?_⟩
      walk_at "z"
      refine g_ixStrs (O.lst 0) (by omega) (by rw [modN_len]; omega) fun m hm => ?_
      have O := O.tail
      have hmk := modN_ok m hm
      walk_at "z"
      refine ⟨R, as, rows, m, ps, rfl, hR.ex O.fr, hz, hok.lay, hok.rm (by omega) m, O.get 0, hI.ex O.fr, fun B1 p2 mw ps' H3 e1 O1 hI1 hT1 => ?_⟩
      obtain ⟨B2, e2, O, im⟩ := O.callM (j := 0) (ds := [(p2, .lst mw)]) rfl e1 O1 (.cons rfl .nil) (.cons rfl .nil) rfl
      have hI2 := im.tab (hI1.ex O1.fr)
      have hmw := im.tds (tds_ex O1.fr hT1)
      clear O1 e1 im hI1 hT1
      obtain ⟨B3, e3, hp2, O⟩ := fz O
      have hI3 := hI2.ex e3
      have hmw := tds_ex e3 hmw
      have e23 := e2.trans e3
      have hrl := row_len m hok (by omega)
      have hmwl := tds_len hmw
      rw [List.length_map] at hmwl
      have O : Own B3 [(T.ta__law_row, .tbl ps')] H3 := O
      refine g_iListv (.inl (.inl (O.fr _ _ hp2))) ?_
      refine lcB_list mw (fun D k H' => ∃ zs : List V, Own B3 [(D, .lst zs), (T.ta__law_row, .tbl ps')] H' ∧ TdAll B3 zs ((((rowOf m rows).map (·.1)).take k).map kzD)) ?_ ?_ ?_ ?_
      · intro D nD
        exact ⟨[], O.alloc nD, .nil⟩
      · rintro D k H4 _ ⟨zs, O, _⟩
        exact .inl (.inl (O.fr _ _ hp2))
      · clear O
        rintro D k v H4 hv ⟨zs, O, hzs⟩
        obtain ⟨c, a8, m8, hc8, rfl, ha8, hm8⟩ := tds_mks hmw hv
        have hzl := tds_len hzs
        rw [List.length_map, List.length_take, List.length_map] at hzl
        walk_at "z"
        refine iteT ?_
        walk_at "z"
        refine g_ixT (.inl (.inl (O.fr _ _ ha8))) (atI_nat (j := 0) rfl) ?_
        refine g_lcPut O 0 rfl (small_of (by omega)) fun H5 O => ?_
        refine ⟨_, O, ?_⟩
        rw [take_succ_of (x := c.1) (by rw [List.getElem?_map, hc8]; rfl), List.map_append]
        exact tds_snoc hzs (td_kz hm8)
      clear O
      rintro mp H4 nmp ⟨mz, O, hmz⟩
      rw [List.take_of_length_le (by rw [List.length_map]; omega)] at hmz
      have hin : ∀ b ∈ (rowOf m rows).map (·.1), InM rows m b := fun b hb => row_in hb
      generalize hmks : (rowOf m rows).map (·.1) = mks at *
      have hmkl := tds_len hmz
      rw [List.length_map] at hmkl
      have hmkl2 : mks.length ≤ 160000 := by rw [← hmks, List.length_map]; exact hrl
      clear hmks
      obtain ⟨B4, e4, hmp, O⟩ := fz O
      have hmz := tds_ex e4 hmz
      have hI4 := hI3.ex e4
      have e24 := e23.trans e4
      have hR := hR.ex e24
      have hS := e24.seq hS
      have ha := e24 _ _ ha
      have hT := tds_ex e24 hT
      walk_at "z"
      refine g_new (Nat.zero_le _) O fun rv H5 nrv O => ?_
      walk_at "z"
      refine ⟨dr, ds, ix + 2, rfl, O.fr.seq hS, hds, by omega, fun n2 _ _ => ?_⟩
      walk_at "z"
      refine forB_rng0 (fun k σ H' => ∃ (rs : List V) (rml : List Mk) (x8 : Option V), σ = [some (.ref dr), some (.int ix), some (.ref R), some (.int (r : Nat)), some (.ref a), some (.str m), some (.ref mp), some (.ref rv), x8, none, none, none, none, none] ∧ Own B4 [(rv, .lst rs), (T.ta__law_row, .tbl ps')] H' ∧ TdAll B4 rs (rml.map kzD) ∧ (∀ b ∈ rml, b ∈ mks) ∧ rml.length ≤ k) ?_ ?_ ?_
      · exact ⟨[], [], _, rfl, O, .nil, fun _ h => (nomatch h), Nat.le_refl _⟩
      · clear O
        rintro k σ H6 hk ⟨rs, rml, x8, rfl, O, hrs, hrm, hrl2⟩
        walk_at "z"
        refine g_lenL (.inl (.inl (O.fr _ _ hmp))) ?_
        walk_at "z"
        refine ite_d (fun hpos => ?_) (fun _ => ?_)
        · walk_at "z"
          refine g_tyL (O.lst 0) ?_
          walk_at "z"
          refine ⟨dr, ds, ix + 3 + (k : Int), rfl, O.fr.seq hS, hds, by omega, fun n3 _ _ => ?_⟩
          walk_at "z"
          refine g_lenL (.inl (.inl (O.fr _ _ hmp))) ?_
          walk_at "z"
          have h2 : 0 ≤ n3 % ((mz.length : Nat) : Int) := Int.emod_nonneg _ (by omega)
          have h3 : n3 % ((mz.length : Nat) : Int) < ((mz.length : Nat) : Int) := Int.emod_lt_of_pos _ (by omega)
          have hj : (n3 % ((mz.length : Nat) : Int)).toNat < mz.length := by omega
          have hv := List.getElem?_eq_getElem hj
          obtain ⟨b, hb, hTb⟩ := tds_at' hmz hv
          refine g_ixL (.inl (.inl (O.fr _ _ hmp))) (atI_of h2 hv) ?_
          have hrsl := tds_len hrs
          rw [List.length_map] at hrsl
          walk_at "z"
          refine g_append O 0 rfl (small_of (by omega)) fun H7 O => ?_
          refine ⟨_, rml ++ [b], _, rfl, O, ?_, fun x hx => ?_, by rw [List.length_append]; show rml.length + 1 ≤ _; omega⟩
          · rw [List.map_append]
            exact tds_snoc hrs hTb
          · rcases List.mem_append.mp hx with hx | hx
            · exact hrm x hx
            · rw [List.mem_singleton.mp hx]
              exact List.mem_of_getElem? hb
        · exact ⟨rs, rml, _, rfl, O, hrs, hrm, by omega⟩
      · clear O
        rintro σ H6 ⟨rs, rml, x8, rfl, O, hrs, hrm, hrl2⟩
        have hrl3 : rml.length ≤ 4 := by omega
        have hrsl := tds_len hrs
        rw [List.length_map] at hrsl
        walk_at "z"
        refine ⟨fun σ H' => ∃ (vb : V) (bo : Option Mk), σ = [some (.ref dr), some (.int ix), some (.ref R), some (.int (r : Nat)), some (.ref a), some (.str m), some (.ref mp), some (.ref rv), x8, some vb, none, none, none, none] ∧ Own B4 [(rv, .lst rs), (T.ta__law_row, .tbl ps')] H' ∧ Td B4 vb (encO bo) ∧ ∀ b, bo = some b → b ∈ mks, ?_, ?_⟩
        · walk_at "z"
          refine g_lenL (.inl (.inl (O.fr _ _ hmp))) ?_
          walk_at "z"
          have no : ∃ (vb : V) (bo : Option Mk), [some (.ref dr), some (.int ix), some (.ref R), some (.int (r : Nat)), some (.ref a), some (.str m), some (.ref mp), some (.ref rv), x8, some .non, none, none, none, none] = [some (.ref dr), some (.int ix), some (.ref R), some (.int (r : Nat)), some (.ref a), some (.str m), some (.ref mp), some (.ref rv), x8, some vb, none, none, none, none] ∧ Own B4 [(rv, .lst rs), (T.ta__law_row, .tbl ps')] H6 ∧ Td B4 vb (encO bo) ∧ ∀ b, bo = some b → b ∈ mks := ⟨_, none, rfl, O, .non, fun _ h => nomatch h⟩
          refine ite_d (fun hpos => ?_) (fun _ => iteF no)
          walk_at "z"
          refine ⟨dr, ds, ix + 7, rfl, O.fr.seq hS, hds, by omega, fun n3 _ _ => ?_⟩
          walk_at "z"
          refine ite_nd (fun _ => ?_) (fun _ => no)
          walk_at "z"
          refine ⟨dr, ds, ix + 7, rfl, O.fr.seq hS, hds, by omega, fun n4 _ _ => ?_⟩
          walk_at "z"
          refine g_lenL (.inl (.inl (O.fr _ _ hmp))) ?_
          walk_at "z"
          have h2 : 0 ≤ n4 / 5 % ((mz.length : Nat) : Int) := Int.emod_nonneg _ (by omega)
          have h3 : n4 / 5 % ((mz.length : Nat) : Int) < ((mz.length : Nat) : Int) := Int.emod_lt_of_pos _ (by omega)
          have hj : (n4 / 5 % ((mz.length : Nat) : Int)).toNat < mz.length := by omega
          have hv := List.getElem?_eq_getElem hj
          obtain ⟨b, hb, hTb⟩ := tds_at' hmz hv
          refine g_ixL (.inl (.inl (O.fr _ _ hmp))) (atI_of h2 hv) ?_
          walk_at "z"
          exact ⟨_, some b, rfl, O, hTb, fun x hx => by cases hx; exact List.mem_of_getElem? hb⟩
        · clear O
          rintro σ H7 ⟨vb, bo, rfl, O, hvb, hbo⟩
          walk_at "z"
          refine g_new (small_le (by simp)) O fun l1 H8 nl1 O => ?_
          refine g_addL (O.get 1) (O.get 0) (small_le (by simp; omega)) (g_newQ O fun l2 H9 nl2 O => ?_)
          obtain ⟨B5, e5, hl2, O⟩ := fz O
          have O := O.tail
          have hol : TdAll B4 (rs ++ [vb]) ((rml.map some ++ [bo]).map encO) := by
            rw [List.map_append, List.map_map]
            exact tds_app hrs (.cons hvb .nil)
          have hmem : ∀ b, some b ∈ rml.map some ++ [bo] → b ∈ mks := fun b hb => by
            rcases List.mem_append.mp hb with hb | hb
            · obtain ⟨x, hx, e⟩ := List.mem_map.mp hb
              cases e
              exact hrm _ hx
            · exact hbo b (List.mem_singleton.mp hb).symm
          have holl := tds_len hol
          rw [List.length_map] at holl
          have hl2' : ∀ H', Own B5 [(rv, .lst rs), (T.ta__law_row, .tbl ps')] H' → SqL K H' l2 (rs ++ [vb]) := fun H' O => .inl (.inl (O.fr _ _ hl2))
          generalize hoo : rml.map some ++ [bo] = ol at *
          refine g_iListv (hl2' _ O) ?_
          refine forB_list (rs ++ [vb]) (fun i σ H' => ∃ (n : Int) (x11 : Option V), σ = [some (.ref dr), some (.int ix), some (.ref R), some (.int (r : Nat)), some (.ref a), some (.str m), some (.ref mp), some (.ref rv), x8, some vb, some (.int n), x11, none, none] ∧ Own B5 [(rv, .lst rs), (T.ta__law_row, .tbl ps')] H' ∧ 1 ≤ n ∧ n ≤ N ∧ ∀ b, some b ∈ ol.take i → b.1 < n) ?_ ?_ ?_ ?_
          · exact ⟨1, _, rfl, O, by omega, hN1, fun b h => by rw [List.take_zero] at h; exact nomatch h⟩
          · rintro i σ H' _ ⟨n, x11, rfl, O, _⟩
            exact hl2' _ O
          · clear O
            rintro i v σ H10 hv ⟨n, x11, rfl, O, hn1, hnN, hb⟩
            obtain ⟨o, ho, hTo⟩ := tds_at' (tds_ex e5 hol) hv
            rw [take_succ_of ho]
            walk_at "z"
            rcases encO_non hTo with ⟨rfl, rfl⟩ | ⟨b, rfl, hTb, hne⟩
            · refine ite_nd (fun h => absurd rfl h) (fun _ => ?_)
              refine ⟨n, _, rfl, O, hn1, hnN, fun b h => ?_⟩
              rcases List.mem_append.mp h with h | h
              · exact hb b h
              · exact nomatch (List.mem_singleton.mp h)
            · refine ite_nd (fun _ => ?_) (fun h => absurd h hne)
              obtain ⟨am, rfl, ham⟩ := td_kzs hTb
              have hbN := (InM.ok hok (by omega) (hin b (hmem b (List.mem_of_getElem? ho)))).2
              walk_at "z"
              refine g_ixT (.inl (.inl (O.fr _ _ ham))) (atI_nat (j := 0) rfl) ?_
              walk_at "z"
              refine ⟨_, _, rfl, O, by omega, by omega, fun b' h => ?_⟩
              rcases List.mem_append.mp h with h | h
              · have := hb b' h; omega
              · cases List.mem_singleton.mp h
                omega
          · clear O
            rintro σ H10 ⟨n, x11, rfl, O, hn1, hnN, hb⟩
            rw [holl, List.take_length] at hb
            walk_at "z"
            refine g_iListv (.inl (.inl (O.fr _ _ (e5 _ _ ha)))) ?_
            refine forB_list ws (fun k σ H' => ∃ (n' : Int) (x12 : Option V), σ = [some (.ref dr), some (.int ix), some (.ref R), some (.int (r : Nat)), some (.ref a), some (.str m), some (.ref mp), some (.ref rv), x8, some vb, some (.int n'), x11, x12, none] ∧ Own B5 [(rv, .lst rs), (T.ta__law_row, .tbl ps')] H' ∧ n ≤ n' ∧ n' ≤ N ∧ ∀ d ∈ (rowN rows r).take k, endN d ≤ n') ?_ ?_ ?_ ?_
            · exact ⟨n, _, rfl, O, by omega, hnN, fun b h => by rw [List.take_zero] at h; exact nomatch h⟩
            · rintro i σ H' _ ⟨n', x12, rfl, O, _⟩
              exact .inl (.inl (O.fr _ _ (e5 _ _ ha)))
            · clear O
              rintro k v σ H11 hv ⟨n', x12, rfl, O, hn', hnN', hb'⟩
              obtain ⟨d, hd, hTd⟩ := tds_at' (tds_ex e5 hT) hv
              have hdm : d ∈ rowN rows r := List.mem_of_getElem? hd
              have hdd := hok.dd r d hdm
              rw [take_succ_of hd]
              obtain ⟨b, xs, rfl, hbb, hcase⟩ := td_mod hTd
              walk_at "z"
              rcases hcase with ⟨q0, rfl, rfl⟩ | ⟨m', rm', bh', n0, t, vr, vb', rfl, rfl, _, _⟩
              · refine g_ixT (.inl (.inl (O.fr _ _ hbb))) (atI_nat (j := 0) rfl) ?_
                walk_at "z"
                refine g_eqS ?_
                walk_at "z"
                refine ite_d (fun h => absurd h (by decide +kernel)) (fun _ => ?_)
                refine ⟨n', _, rfl, O, hn', hnN', fun x hx => ?_⟩
                rcases List.mem_append.mp hx with hx | hx
                · exact hb' x hx
                · rw [List.mem_singleton.mp hx]
                  show (0 : Int) ≤ n'
                  omega
              · obtain ⟨_, hd1, hd2, hd3, _⟩ := hdd
                refine g_ixT (.inl (.inl (O.fr _ _ hbb))) (atI_nat (j := 0) rfl) ?_
                walk_at "z"
                refine g_eqS ?_
                walk_at "z"
                refine ite_d (fun _ => ?_) (fun h => absurd rfl h)
                walk_at "z"
                refine g_ixT (.inl (.inl (O.fr _ _ hbb))) (atI_nat (j := 4) rfl) ?_
                walk_at "z"
                refine g_ixT (.inl (.inl (O.fr _ _ hbb))) (atI_nat (j := 5) rfl) ?_
                walk_at "z"
                refine g_lenSS (by omega) ?_
                walk_at "z"
                refine ⟨_, _, rfl, O, by omega, by omega, fun x hx => ?_⟩
                rcases List.mem_append.mp hx with hx | hx
                · have := hb' x hx; omega
                · rw [List.mem_singleton.mp hx]
                  show n0 + (t.length : Nat) ≤ _
                  omega
            · clear O
              rintro σ H11 ⟨n', x12, rfl, O, hn', hnN', hb'⟩
              rw [hwl, List.take_length] at hb'
              walk_at "z"
              refine g_new (small_le (by simp)) O fun l3 H12 nl3 O => ?_
              walk_at "z"
              refine ⟨dr, ds, ix + 8, rfl, O.fr.seq (e5.seq hS), hds, by omega, fun n5 _ _ => ?_⟩
              walk_at "z"
              refine g_ixInts (ns := stepN) (O.lst 0) (by omega) (by show _ < ((_ : Nat) : Int); have : stepN.length = 4 := rfl; omega) fun st hst => ?_
              have hst2 := stepN_ok st hst
              have O := O.tail
              walk_at "z"
              refine ⟨fun σ H' => ∃ n'' : Int, σ = [some (.ref dr), some (.int ix), some (.ref R), some (.int (r : Nat)), some (.ref a), some (.str m), some (.ref mp), some (.ref rv), x8, some vb, some (.int n''), x11, x12, none] ∧ Own B5 [(rv, .lst rs), (T.ta__law_row, .tbl ps')] H' ∧ n' ≤ n'' ∧ n'' ≤ N + 5, ?_, ?_⟩
              · walk_at "z"
                refine ⟨dr, ds, ix + 8, rfl, O.fr.seq (e5.seq hS), hds, by omega, fun n6 _ _ => ?_⟩
                walk_at "z"
                refine ite_d (fun _ => ?_) (fun _ => ⟨_, rfl, O, by omega, by omega⟩)
                walk_at "z"
                refine ⟨R, as, rows, rfl, hR.ex (e5.trans O.fr), fun i d hd => ?_, ?_⟩
                · have hdd := hok.dd i d hd
                  cases d with
                  | back p => exact ⟨Int.le_refl 0, fun _ _ _ _ _ h => nomatch h⟩
                  | chg m1 rm1 bh1 n1 t1 =>
                    obtain ⟨_, hd1, hd2, hd3, _⟩ := hdd
                    refine ⟨by show 0 ≤ n1 + ((t1.length : Nat) : Int); omega, fun _ _ _ _ _ h => ?_⟩
                    cases h
                    omega
                · have hlast : lastR rows 0 ≤ N := lastR_le (fun row hrow d hd => by
                    obtain ⟨i, _, rfl⟩ := mem_rowN hrow
                    have hdd := hok.dd i d hd
                    cases d with
                    | back p => show (0 : Int) ≤ N; omega
                    | chg m1 rm1 bh1 n1 t1 => exact hdd.2.2.1) (by omega)
                  walk_at "z"
                  exact ⟨_, rfl, O, by omega, by omega⟩
              · clear O
                rintro σ H13 ⟨n'', rfl, O, hn'', hnN''⟩
                walk_at "z"
                refine g_tupleL (O.lst 0) ?_
                refine g_newQ O fun tr H14 ntr O => ?_
                walk_at "z"
                refine ⟨dr, ds, ix + 9, rfl, O.fr.seq (e5.seq hS), hds, by omega, fun tx htx htc => ?_⟩
                walk_at "z"
                obtain ⟨B6, e6, htr, O⟩ := fz O
                refine g_new (small_le (by simp)) O fun tt H15 ntt O => ?_
                obtain ⟨B7, e7, htt, O⟩ := fz O
                walk_at "z"
                have e57 := (e5.trans e6).trans e7
                refine q B7 (.ref tt) (.chg m rml bo n'' tx) ps' H15 (e24.trans e57) (O.sub (List.sublist_cons_self _ _)) (hI4.ex e57) ?_ ⟨⟨dok_chg (by have h := modN_ok m hm; unfold txtOk at h; simp only [Bool.and_eq_true] at h; exact h.1.1) htc, by omega, by omega, by omega, by omega⟩, ⟨fun b hb2 => ?_, fun b hb2 => ?_⟩, fun e he => ?_⟩ hm True.intro
                · exact .tup htt (.cons (.str _) (.cons (.str _) (.cons (.tup (e7 _ _ htr) (tds_ex e57 hrs)) (.cons (td_ex e57 hvb) (.cons (.int _) (.cons (.str _) .nil))))))
                · have h1 := hb b (by rw [← hoo, hb2]; exact List.mem_append.mpr (.inr (.head _)))
                  exact ⟨hin b (hbo b hb2), by omega⟩
                · have h1 := hb b (by rw [← hoo]; exact List.mem_append.mpr (.inl (List.mem_map.mpr ⟨b, hb2, rfl⟩)))
                  exact ⟨hin b (hrm b hb2), by omega⟩
                · cases e with
                  | back p => exact True.intro
                  | chg m1 rm1 bh1 n1 t1 =>
                    have h1 := hb' _ he
                    show n1 + ((t1.length : Nat) : Int) ≤ n''
                    have h1 : n1 + ((t1.length : Nat) : Int) ≤ n' := h1
                    omega

/-! ### what a replica knew; triples -/
def encN (c : List Nat) : List V := c.map fun n => V.int ((n : Nat) : Int)
theorem encN_get {c : List Nat} {i : Nat} (h : i < c.length) : (encN c)[i]? = some (.int ((c.getD i 0 : Nat) : Int)) := by
  unfold encN
  rw [List.getElem?_map, List.getD_eq_getElem?_getD, List.getElem?_eq_getElem h]
  rfl
theorem cut_row {rows : Rows} {c : List Nat} {i : Nat} (h : i < 8) : rowN (cutR rows c) i = (rowN rows i).take (c.getD i 0) := by rw [rowN_cut, if_pos h]
theorem tds_takeE {α : Type} {f : α → PyData} {H : Hp} {ws : List V} {l : List α} (n : Nat) (h : TdAll H ws (l.map f)) : TdAll H (ws.take n) ((l.take n).map f) := by
  rw [List.map_take]
  exact tds_take n h
/-- a new list of lists in the making -/
theorem rows_grow {B H : Hp} {D l : Addr} {as : List Addr} {wss : List (List V)} {ws : List V} {cs : List (Addr × HO)} (hl : as.length = wss.length) (O : Own B ((l, .lst ws) :: (D, .lst (as.map V.ref ++ [.ref l])) :: (rc as wss ++ cs)) H) : Own B (RowsC D (as ++ [l]) (wss ++ [ws]) ++ cs) H := by
  unfold RowsC
  rw [rc_snoc hl, List.map_append]
  refine O.perm (List.Perm.symm ?_)
  show ((l, HO.lst ws) :: (D, HO.lst (as.map V.ref ++ [V.ref l])) :: (rc as wss ++ cs)).Perm ((D, HO.lst (as.map V.ref ++ [V.ref l])) :: (rc as wss ++ [(l, HO.lst ws)] ++ cs))
  rw [List.append_assoc]
  exact (List.Perm.swap _ _ _).trans (List.Perm.cons _ List.perm_middle.symm)

def sp_lvis (K : PySem.W.Frag) : Sp := fun vs H Q _ => ∃ (R c : Addr) (as : List Addr) (rows : Rows) (cts : List Nat), vs = [.ref R, .ref c] ∧ RowsAt H R as rows ∧ Sz rows ∧ SqL K H c (encN cts) ∧ cts.length = 8 ∧
  ∀ (p : Addr) (as' : List Addr) (wss : List (List V)) (H' : Hp), as'.length = wss.length → WsOk H wss (cutR rows cts) → Own H (RowsC p as' wss) H' → Q (.ref p) H'

theorem ok__law_visible (T : Txt K mg base) : FnOk P w K mg base CX0 1 T.a__law_visible T.d__law_visible P__law_visible (sp_lvis K) := by
  refine T.F__law_visible.ok sc__law_visible (fun vs H Q E h => ?_) (fun cdv A outer s H vs Q E hr h => ?_)
  · obtain ⟨R, c, as, rows, cts, rfl, _⟩ := h
    rfl
  · obtain ⟨R, c, as, rows, cts, rfl, hR, hz, hC, hcl, q⟩ := h
    refine ⟨_, (pss_one (ps_ret (pe_lc (own := [("k", 2)]) rfl sc__law_visible.nd (pi_range1 (by rfl) T.z_range (pa_cons pe_int pa_nil)) (blkOk_by (own := [("k", 2)]) (N := N__law_visible) (sc := defScope s__law_visible) (by decide +kernel)) (fun _ _ _ _ _ => (pg_name (i := 2) sc__law_visible.nd rfl (Or.inl rfl))) (fun _ _ _ _ _ => pts_nil) (fun _ _ _ _ _ => (pe_slice (show SlR _ (rSlU K) from sl_U) (pe_ix (show IxR _ (rIx K) from ix_seq) (pv 0) (pv 2) (fun _ _ => rfl)) po_none (po_some (pe_ix (show IxR _ (rIx K) from ix_seq) (pv 1) (pv 2) (fun _ _ => rfl)))))))), ?_⟩
    walk_at "z"
    refine lcB_rng0 (fun D i H' => ∃ (as' : List Addr) (wss : List (List V)), as'.length = i ∧ wss.length = i ∧ (∀ (i : Nat) (ws : List V), wss[i]? = some ws → TdAll H ws ((rowN (cutR rows cts) i).map encD)) ∧ Own H (RowsC D as' wss) H') ?_ ?_ ?_
    · intro D nD
      exact ⟨[], [], rfl, rfl, fun i ws h => by simp at h, (Own.start H).alloc nD⟩
    · rintro D i H1 hi ⟨as', wss, hl1, hl2, hw, O⟩
      have hi : i < 8 := by omega
      obtain ⟨a, ws, ha1, ha2, ha, hT, hwl⟩ := hR.at (i := i) (by rw [hz.len]; exact hi)
      walk_at "z"
      refine iteT ?_
      walk_at "z"
      refine g_ixL (.inl (.inl (O.fr _ _ hR.top))) (atI_nat ha1) ?_
      walk_at "z"
      refine g_ixL (O.fr.seq hC) (atI_nat (encN_get (by omega))) ?_
      walk_at "z"
      refine g_slL (.inl (.inl (O.fr _ _ ha))) ?_
      rw [cut_take (by omega), Int.toNat_natCast]
      refine g_newQ O fun l H2 nl O => ?_
      refine g_lcPut O 1 rfl (small_of (by rw [List.length_map]; omega)) fun H3 O => ?_
      have O : Own H ((l, .lst (ws.take (cts.getD i 0))) :: (D, .lst (as'.map V.ref ++ [.ref l])) :: (rc as' wss ++ [])) H3 := by rw [List.append_nil]; exact O
      have O := rows_grow (by omega) O
      rw [List.append_nil] at O
      refine ⟨as' ++ [l], wss ++ [ws.take (cts.getD i 0)], by rw [List.length_append]; show as'.length + 1 = _; omega, by rw [List.length_append]; show wss.length + 1 = _; omega, fun k ws' hk => ?_, O⟩
      by_cases hkk : k < wss.length
      · rw [List.getElem?_append_left hkk] at hk
        exact hw k ws' hk
      · rw [List.getElem?_append_right (by omega)] at hk
        have h0 : k = i := by
          have := (List.getElem?_eq_some_iff.mp hk).1
          simp at this
          omega
        subst h0
        rw [hl2, Nat.sub_self] at hk
        cases hk
        rw [cut_row hi]
        exact tds_takeE _ hT
    · rintro D H1 nD ⟨as', wss, hl1, hl2, hw, O⟩
      exact q D as' wss H1 (by omega) ⟨by rw [cutR_len]; omega, hw⟩ O
abbrev Tr := Nat × Int × Deed
def encT (x : Tr) : PyData := .tuple [.int (x.1 : Int), .int x.2.1, encD x.2.2]
def rowsOf (l : List Tr) : Rows := l.foldl (fun rows x => addD rows x.1 x.2.2) nilR
theorem rowsOf_snoc (l : List Tr) (x : Tr) : rowsOf (l ++ [x]) = addD (rowsOf l) x.1 x.2.2 := by
  unfold rowsOf
  rw [List.foldl_append]
  rfl
theorem rowsOf_len (l : List Tr) : (rowsOf l).length = 8 := by
  have key : ∀ (l : List Tr) (rows : Rows), (l.foldl (fun rows x => addD rows x.1 x.2.2) rows).length = rows.length := by
    intro l
    induction l with
    | nil => intro rows; rfl
    | cons x l ih => intro rows; rw [List.foldl_cons, ih, addD_len]
  exact key l nilR
theorem td_T3 {H : Hp} {v : V} {x : Tr} (h : Td H v (encT x)) : ∃ a vd, v = .ref a ∧ H a = some (.tup [.int (x.1 : Int), .int x.2.1, vd]) ∧ Td H vd (encD x.2.2) := by
  cases h with
  | tup h1 h2 =>
    cases h2 with
    | cons x1 h2 => cases h2 with
      | cons x2 h2 => cases h2 with
        | cons x3 h2 =>
          cases h2
          cases x1
          cases x2
          exact ⟨_, _, rfl, h1, x3⟩
theorem WsOk.at {H : Hp} {wss : List (List V)} {rows : Rows} (h : WsOk H wss rows) {i : Nat} (hi : i < rows.length) : ∃ ws, wss[i]? = some ws ∧ ws.length = (rowN rows i).length := by
  have h1 : wss[i]? = some (wss[i]'(by rw [h.1]; exact hi)) := List.getElem?_eq_getElem _
  exact ⟨_, h1, h.len_at h1⟩
theorem rowsOf_short (l : List Tr) (i : Nat) : (rowN (rowsOf l) i).length ≤ l.length := by
  have key : ∀ (n : Nat) (l : List Tr), l.length = n → (rowN (rowsOf l) i).length ≤ l.length := by
    intro n
    induction n with
    | zero =>
      intro l h
      rw [List.eq_nil_of_length_eq_zero h]
      show (rowN nilR i).length ≤ 0
      rw [rowN_nil]
      exact Nat.le_refl _
    | succ n ih =>
      intro l h
      have hne : l ≠ [] := fun e => by rw [e] at h; exact nomatch h
      have e := (List.dropLast_concat_getLast hne).symm
      have hd : l.dropLast.length = n := by rw [List.length_dropLast]; omega
      have := ih l.dropLast hd
      rw [e, rowsOf_snoc, List.length_append]
      by_cases hx : (l.getLast hne).1 < (rowsOf l.dropLast).length
      · rw [rowN_add hx]
        split
        · rename_i hi
          rw [List.length_append, ← hi]
          show _ + 1 ≤ _ + 1
          omega
        · omega
      · unfold addD
        rw [List.set_eq_of_length_le (by omega)]
        omega
  exact key _ l rfl

def sp_lrowsof (K : PySem.W.Frag) : Sp := fun vs H Q _ => ∃ (a : Addr) (ts : List V) (trs : List Tr), vs = [.ref a] ∧ SqL K H a ts ∧ TdAll H ts (trs.map encT) ∧ (∀ x ∈ trs, x.1 < 8) ∧ trs.length ≤ 200 ∧
  ∀ (p : Addr) (as' : List Addr) (wss : List (List V)) (H' : Hp), as'.length = wss.length → WsOk H wss (rowsOf trs) → Own H (RowsC p as' wss) H' → Q (.ref p) H'

theorem ok__law_rows_of (T : Txt K mg base) : FnOk P w K mg base CX0 1 T.a__law_rows_of T.d__law_rows_of P__law_rows_of (sp_lrowsof K) := by
  refine T.F__law_rows_of.ok sc__law_rows_of (fun vs H Q E h => ?_) (fun cdv A outer s H vs Q E hr h => ?_)
  · obtain ⟨a, ts, trs, rfl, _⟩ := h
    rfl
  · obtain ⟨a, ts, trs, rfl, hS, hT, h8, hz, q⟩ := h
    refine ⟨_, (pss_cons (ps_setLc (i := 1) (own := [("k", 5)]) rfl sc__law_rows_of.nd rfl rfl (sw_true rfl rfl rfl (by decide +kernel)) (pi_range1 (by rfl) T.z_range (pa_cons pe_int pa_nil)) (blkOk_by (own := [("k", 5)]) (N := N__law_rows_of) (sc := defScope s__law_rows_of) (by decide +kernel)) (fun _ _ _ _ _ => (pg_name (i := 5) sc__law_rows_of.nd rfl (Or.inl rfl))) (fun _ _ _ _ _ => pts_nil) (fun _ _ _ _ _ => (pe_lst pa_nil)))
        (pss_cons (ps_for PassesOwn.never rfl (pi_list (pv 0)) (pg_tup rfl (pgs_cons (pg_name (i := 2) sc__law_rows_of.nd rfl (Or.inl rfl)) (pgs_cons (pg_name (i := 3) sc__law_rows_of.nd rfl (Or.inl rfl)) (pgs_cons (pg_name (i := 4) sc__law_rows_of.nd rfl (Or.inl rfl)) pgs_nil))))
          (pss_one (ps_expr (pe_bm PySem.F.plainAttrs_list PySem.F.slot_list_append PySem.F.type_list_append mt_append (pe_ix ix_seq (pv 1) (pv 2) (fun _ _ => rfl)) (pa_cons (pv 4) pa_nil)))))
        (pss_one (ps_ret (pv 1))))), ?_⟩
    have htl := tds_len hT
    rw [List.length_map] at htl
    walk_at "z"
    refine lcB_rng0 (fun D i H' => ∃ as' : List Addr, as'.length = i ∧ Own H (RowsC D as' (List.replicate i [])) H') ?_ ?_ ?_
    · intro D nD
      exact ⟨[], rfl, (Own.start H).alloc nD⟩
    · rintro D i H1 hi ⟨as', hl, O⟩
      walk_at "z"
      refine iteT ?_
      walk_at "z"
      refine g_new (Nat.zero_le _) O fun l H2 nl O => ?_
      refine g_lcPut O 1 rfl (small_of (by rw [List.length_map]; omega)) fun H3 O => ?_
      have O : Own H ((l, .lst []) :: (D, .lst (as'.map V.ref ++ [.ref l])) :: (rc as' (List.replicate i []) ++ [])) H3 := by rw [List.append_nil]; exact O
      have O := rows_grow (by rw [List.length_replicate]; omega) O
      rw [List.append_nil] at O
      exact ⟨as' ++ [l], by rw [List.length_append]; show as'.length + 1 = _; omega, by rw [List.replicate_succ']; exact O⟩
    · rintro R H1 nR ⟨as', hl, O⟩
      walk_at "z"
      refine g_iListv (O.fr.seq hS) ?_
      have hl : as'.length = 8 := by omega
      refine forB_list ts (fun i σ H' => ∃ (wss : List (List V)) (x2 x3 x4 : Option V), σ = [some (.ref a), some (.ref R), x2, x3, x4, none] ∧ wss.length = 8 ∧ WsOk H wss (rowsOf (trs.take i)) ∧ Own H (RowsC R as' wss) H') ?_ ?_ ?_ ?_
      · exact ⟨_, _, _, _, rfl, List.length_replicate .., wsOk_nil H 8, O⟩
      · rintro i σ H2 _ ⟨wss, x2, x3, x4, rfl, _, _, O⟩
        exact O.fr.seq hS
      · clear O
        rintro i v σ H2 hv ⟨wss, x2, x3, x4, rfl, hwl, hw, O⟩
        obtain ⟨x, hx, hTx⟩ := tds_at' hT hv
        have hx8 := h8 x (List.mem_of_getElem? hx)
        have hi := (List.getElem?_eq_some_iff.mp hx).1
        obtain ⟨b, vd, rfl, hb, hvd⟩ := td_T3 hTx
        have ha1 : as'[x.1]? = some (as'[x.1]'(by omega)) := List.getElem?_eq_getElem _
        have hw1 : wss[x.1]? = some (wss[x.1]'(by omega)) := List.getElem?_eq_getElem _
        have hwz := hw.len_at hw1
        have hsh := rowsOf_short (trs.take i) x.1
        rw [List.length_take] at hsh
        have hcell := rc_get ha1 hw1
        refine g_gtup (.inl (.inl (O.fr _ _ hb))) rfl ?_
        walk_at "z"
        refine g_ixL (O.lst 0) (atI_nat (show (as'.map V.ref)[x.1]? = some (.ref (as'[x.1]'(by omega))) by rw [List.getElem?_map, ha1]; rfl)) ?_
        refine g_tyL (O.lst (x.1 + 1) hcell) ?_
        walk_at "z"
        refine g_append O (x.1 + 1) hcell (small_of (by omega)) fun H3 O => ?_
        refine ⟨wss.set x.1 (wss[x.1]'(by omega) ++ [vd]), _, _, _, rfl, by rw [List.length_set]; exact hwl, ?_, ?_⟩
        · rw [take_succ_of hx, rowsOf_snoc]
          exact hw.add hw1 hvd
        · have : (RowsC R as' wss).set (x.1 + 1) (as'[x.1]'(by omega), .lst (wss[x.1]'(by omega) ++ [vd])) = RowsC R as' (wss.set x.1 (wss[x.1]'(by omega) ++ [vd])) := by
            unfold RowsC
            rw [List.set_cons_succ, rc_set ha1]
          rw [← this]
          exact O
      · clear O
        rintro σ H2 ⟨wss, x2, x3, x4, rfl, hwl, hw, O⟩
        walk_at "z"
        rw [List.take_of_length_le (by omega)] at hw
        exact q R as' wss H2 (by omega) hw O
def sp_ldeeds (K : PySem.W.Frag) (C : Addr) : Sp := fun vs H Q _ => ∃ (a : Addr) (ts : List V) (trs : List Tr), vs = [.ref a] ∧ SqL K H a ts ∧ TdAll H ts (trs.map encT) ∧ (∀ x ∈ trs, x.1 < 8) ∧ trs.length ≤ 200 ∧
  ∀ (o dx R : Addr) (as' : List Addr) (wss : List (List V)) (H' : Hp), as'.length = wss.length → WsOk H wss (rowsOf trs) → Own H (DeedsC C o dx R as' wss) H' → Q (.ref o) H'
/-- a new object of deeds -/
theorem new_deeds {B H1 H2 : Hp} {cs : List (Addr × HO)} {C x dx R : Addr} {as : List Addr} (O : Own B ((x, .ins C dx []) :: cs) H1) (O2 : Own (dels H1 [x]) ((R, .lst (as.map V.ref)) :: (rc as (List.replicate 8 []) ++ [(x, .ins C dx (dfl R))])) H2) (m : Mut cs) : ∃ B', Same B B' ∧ Own B' (DeedsC C x dx R as (List.replicate 8 []) ++ cs) H2 ∧ Imm H2 B' := by
  obtain ⟨B', e, O', im⟩ := O.callM (j := 0) rfl (Same.refl _) (ds := (R, .lst (as.map V.ref)) :: rc as (List.replicate 8 [])) O2 (.cons rfl m) (RowsC.mut _ _ _) rfl
  refine ⟨B', e, O'.perm ?_, im⟩
  show (((x, HO.ins C dx (dfl R)) :: RowsC R as (List.replicate 8 [])) ++ cs).Perm (RowsC R as (List.replicate 8 []) ++ ((x, HO.ins C dx (dfl R)) :: cs))
  exact List.perm_middle.symm

theorem ok__law_deeds (T : Txt K mg base) : FnOk P w K mg base CX0 3 T.a__law_deeds T.d__law_deeds P__law_deeds (sp_ldeeds K T.a_Deeds) := by
  refine T.F__law_deeds.ok sc__law_deeds (fun vs H Q E h => ?_) (fun cdv A outer s H vs Q E hr h => ?_)
  · obtain ⟨a, ts, trs, rfl, _⟩ := h
    rfl
  · obtain ⟨a, ts, trs, rfl, hS, hT, h8, hz, q⟩ := h
    refine ⟨_, (pss_cons (ps_set (i := 1) sc__law_deeds.nd rfl (Or.inl rfl) (pe_make0 T.M_Deeds (ok_Deeds___init__ T) (hr.mono (by omega)) (by rfl) T.g_Deeds T.b_Deeds___init__ .nil pass0))
        (pss_cons (ps_for PassesOwn.never rfl (pi_list (pv 0)) (pg_tup rfl (pgs_cons (pg_name (i := 2) sc__law_deeds.nd rfl (Or.inl rfl)) (pgs_cons (pg_name (i := 3) sc__law_deeds.nd rfl (Or.inl rfl)) (pgs_cons (pg_name (i := 4) sc__law_deeds.nd rfl (Or.inl rfl)) pgs_nil))))
          (pss_one (ps_expr (pe_meth (pv 1) T.cl_Deeds T.m_Deeds_add (ok_Deeds_add T) (hr.mono (by omega)) T.b_Deeds_add .nil pass0 (pa_cons (pv 2) (pa_cons (pv 4) pa_nil))))))
        (pss_one (ps_ret (pv 1))))), ?_⟩
    have htl := tds_len hT
    rw [List.length_map] at htl
    walk_at "z"
    refine g_makeK (Own.start H) fun x dx H1 nx O => ?_
    refine ⟨x, dx, rfl, O.get 0, fun R as' H2 (hl : as'.length = 8) O2 => ?_⟩
    obtain ⟨B1, e1, O, _⟩ := new_deeds O O2 Mut.nil
    have O := O.weak e1
    rw [List.append_nil] at O
    clear O2
    refine ⟨rfl, ?_⟩
    walk_at "z"
    refine g_iListv (O.fr.seq hS) ?_
    refine forB_list ts (fun i σ H' => ∃ (wss : List (List V)) (x2 x3 x4 : Option V), σ = [some (.ref a), some (.ref x), x2, x3, x4] ∧ wss.length = 8 ∧ WsOk H wss (rowsOf (trs.take i)) ∧ Own H (DeedsC T.a_Deeds x dx R as' wss) H') ?_ ?_ ?_ ?_
    · exact ⟨_, _, _, _, rfl, List.length_replicate .., wsOk_nil H 8, O⟩
    · rintro i σ H2 _ ⟨wss, x2, x3, x4, rfl, _, _, O⟩
      exact O.fr.seq hS
    · clear O
      rintro i v σ H2 hv ⟨wss, x2, x3, x4, rfl, hwl, hw, O⟩
      obtain ⟨y, hy, hTy⟩ := tds_at' hT hv
      have hy8 := h8 y (List.mem_of_getElem? hy)
      have hi := (List.getElem?_eq_some_iff.mp hy).1
      obtain ⟨b, vd, rfl, hb, hvd⟩ := td_T3 hTy
      have ha1 : as'[y.1]? = some (as'[y.1]'(by omega)) := List.getElem?_eq_getElem _
      have hw1 : wss[y.1]? = some (wss[y.1]'(by omega)) := List.getElem?_eq_getElem _
      have hwz := hw.len_at hw1
      have hsh := rowsOf_short (trs.take i) y.1
      rw [List.length_take] at hsh
      have hcell := rc_get ha1 hw1
      refine g_gtup (.inl (.inl (O.fr _ _ hb))) rfl ?_
      walk_at "z"
      refine g_methK (O.get 0) (dfl_n R (by decide +kernel)) ?_
      walk_at "z"
      have hw1000 : (wss[y.1]'(by omega)).length ≤ 1000 := by omega
      refine ⟨x, dx, R, _, as', ((y.1 : Nat) : Int), vd, _, rfl, O.get 0, O.get 1, Int.natCast_nonneg _, by rw [Int.toNat_natCast]; exact ha1, O.get (y.1 + 2) hcell, hw1000, fun H3 e3 h3 => ?_⟩
      have O := O.mut (y.1 + 2) hcell e3 h3
      refine ⟨wss.set y.1 (wss[y.1]'(by omega) ++ [vd]), _, _, _, rfl, by rw [List.length_set]; exact hwl, ?_, ?_⟩
      · rw [take_succ_of hy, rowsOf_snoc]
        exact hw.add hw1 hvd
      · have : (DeedsC T.a_Deeds x dx R as' wss).set (y.1 + 2) (as'[y.1]'(by omega), .lst (wss[y.1]'(by omega) ++ [vd])) = DeedsC T.a_Deeds x dx R as' (wss.set y.1 (wss[y.1]'(by omega) ++ [vd])) := by
          unfold DeedsC RowsC
          rw [List.set_cons_succ, List.set_cons_succ, rc_set ha1]
        rw [← this]
        exact O
    · clear O
      rintro σ H2 ⟨wss, x2, x3, x4, rfl, hwl, hw, O⟩
      walk_at "z"
      rw [List.take_of_length_le (by omega)] at hw
      exact q x dx R as' wss H2 (by omega) hw O

/-! ### triples, each of a replica that knew what it knew -/
theorem get_end {α : Type} {X M : List α} {i : Nat} {c : α} (h : M[i]? = some c) : (X ++ M)[X.length + i]? = some c := by
  rw [List.getElem?_append_right (by omega), Nat.add_sub_cancel_left]
  exact h
theorem set_end {α : Type} {X M : List α} {i : Nat} {c : α} : (X ++ M).set (X.length + i) c = X ++ M.set i c := by
  rw [List.set_append_right _ _ (by omega), Nat.add_sub_cancel_left]
theorem rowsC_get {R a : Addr} {as : List Addr} {wss : List (List V)} {ws : List V} {i : Nat} (h1 : as[i]? = some a) (h2 : wss[i]? = some ws) : (RowsC R as wss)[i + 1]? = some (a, .lst ws) := rc_get h1 h2
theorem rowsC_set {R a : Addr} {as : List Addr} {wss : List (List V)} {ws : List V} {i : Nat} (h1 : as[i]? = some a) : (RowsC R as wss).set (i + 1) (a, .lst ws) = RowsC R as (wss.set i ws) := by
  unfold RowsC
  rw [List.set_cons_succ, rc_set h1]
theorem rowsC_len {R : Addr} {as : List Addr} {wss : List (List V)} (h : as.length = wss.length) : (RowsC R as wss).length = as.length + 1 := by
  unfold RowsC
  rw [List.length_cons, rc_len h]
theorem rc_put {D : Addr} {zs : List V} : ∀ {as : List Addr} {wss : List (List V)} {r : Nat}, as.length = wss.length → (rc as wss).set r (D, .lst zs) = rc (as.set r D) (wss.set r zs)
  | [], [], r, _ => by simp [rc]
  | a :: as, w :: wss, 0, _ => rfl
  | a :: as, w :: wss, r + 1, h => by
    show (a, .lst w) :: (rc as wss).set r (D, .lst zs) = _
    rw [rc_put (by simpa using h)]
    rfl
theorem perm_put {α : Type} {c h : α} {X L M : List α} {r : Nat} (hr : r < L.length) : (c :: (X ++ (h :: (L ++ M)))).Perm (L[r] :: (X ++ (h :: (L.set r c ++ M)))) := by
  have e1 : L = L.take r ++ L[r] :: L.drop (r + 1) := by rw [List.getElem_cons_drop, List.take_append_drop]
  have e2 : L.set r c = L.take r ++ c :: L.drop (r + 1) := by rw [List.set_eq_take_append_cons_drop, if_pos hr]
  have key : ∀ (Z W : List α) (x : α), (c :: (Z ++ x :: W)).Perm (x :: (Z ++ c :: W)) := fun Z W x => (List.Perm.cons c List.perm_middle).trans ((List.Perm.swap x c _).trans (List.Perm.cons x List.perm_middle.symm))
  have := key (X ++ h :: L.take r) (L.drop (r + 1) ++ M) L[r]
  rw [e2]
  refine List.Perm.trans (List.Perm.of_eq ?_) (this.trans (List.Perm.of_eq ?_))
  · have e3 : L ++ M = L.take r ++ L[r] :: (L.drop (r + 1) ++ M) := by
      have := congrArg (· ++ M) e1
      simpa only [List.append_assoc, List.cons_append] using this
    rw [e3]
    simp only [List.append_assoc, List.cons_append]
  · simp only [List.append_assoc, List.cons_append]
/-- what the replicas knew -/
structure TInv (N : Int) (rows : Rows) (cts : List (List Nat)) : Prop where
  ok : ROk N rows
  c8 : ∀ k c, cts[k]? = some c → k < 8 ∧ c.length = 8 ∧ CutC rows c ∧ (∀ j, j < 8 → c.getD j 0 ≤ (rowN rows j).length) ∧ c.getD k 0 = (rowN rows k).length
def maxC (a b : List Nat) : List Nat := (List.range 8).map fun j => max (a.getD j 0) (b.getD j 0)
theorem maxC_at {a b : List Nat} {j : Nat} (h : j < 8) : (maxC a b).getD j 0 = max (a.getD j 0) (b.getD j 0) := by
  unfold maxC
  rw [List.getD_eq_getElem?_getD, List.getElem?_map, List.getElem?_range h]
  rfl
theorem maxC_len {a b : List Nat} : (maxC a b).length = 8 := by unfold maxC; rw [List.length_map, List.length_range]
theorem TInv.mx {N : Int} {rows : Rows} {cts : List (List Nat)} {r o : Nat} {a b : List Nat} (h : TInv N rows cts) (ha : cts[r]? = some a) (hb : cts[o]? = some b) : TInv N rows (cts.set r (maxC a b)) := by
  refine ⟨h.ok, fun k c hc => ?_⟩
  obtain ⟨a0, a1, a2, a3, a4⟩ := h.c8 r a ha
  obtain ⟨b0, b1, b2, b3, b4⟩ := h.c8 o b hb
  rw [List.getElem?_set] at hc
  split at hc
  · rename_i e
    subst e
    split at hc
    · cases hc
      refine ⟨a0, maxC_len, a2.max b2 fun i hi => maxC_at hi, fun j hj => ?_, ?_⟩
      · rw [maxC_at hj]
        have := a3 j hj
        have := b3 j hj
        omega
      · rw [maxC_at a0]
        have := b3 r a0
        omega
    · exact nomatch hc
  · exact h.c8 k c hc
theorem cut_len_at {rows : Rows} {c : List Nat} {i : Nat} (hi : i < 8) : (rowN (cutR rows c) i).length = min (c.getD i 0) (rowN rows i).length := by
  rw [rowN_cut, if_pos hi, List.length_take]
theorem TInv.add {N N' : Int} {rows : Rows} {cts : List (List Nat)} {r : Nat} {c : List Nat} {d : Deed} (h : TInv N rows cts) (hn : N ≤ N') (hc : cts[r]? = some c) (hl : (rowN rows r).length < 200) (hd : NewD N' (cutR rows c) r d) : TInv N' (addD rows r d) (cts.set r (c.set r ((rowN rows r).length + 1))) ∧ NewD N' rows r d := by
  obtain ⟨h0, h1, h2, h3, h4⟩ := h.c8 r c hc
  have hr8 : r < rows.length := by rw [h.ok.sz.len]; exact h0
  have hfull : rowN (cutR rows c) r = rowN rows r := by rw [rowN_cut, if_pos h0, h4, List.take_length]
  have hnew : NewD N' rows r d := ⟨hd.dd, hd.cl.sub (cut_sub rows c), fun e he => hd.bef e (by rw [hfull]; exact he)⟩
  refine ⟨⟨h.ok.add hn h0 hl hnew, fun k c' hc' => ?_⟩, hnew⟩
  rw [List.getElem?_set] at hc'
  split at hc'
  · rename_i e
    subst e
    split at hc'
    · cases hc'
      refine ⟨h0, by rw [List.length_set]; exact h1, ?_, fun j hj => ?_, ?_⟩
      · unfold CutC
        rw [cut_own hr8 h0 h1 h4]
        have hk := (h.ok.cut h2).add hn h0 (by rw [hfull]; exact hl) hd
        exact hk.cl
      · rw [rowN_add hr8, List.getD_eq_getElem?_getD]
        by_cases e : j = r
        · subst e
          rw [List.getElem?_set_self (by omega), if_pos rfl, List.length_append]
          exact Nat.le_refl _
        · rw [List.getElem?_set_ne (Ne.symm e), if_neg e, ← List.getD_eq_getElem?_getD]
          exact h3 j hj
      · rw [rowN_add hr8, if_pos rfl, List.getD_eq_getElem?_getD, List.getElem?_set_self (by omega), List.length_append]
        rfl
    · exact nomatch hc'
  · rename_i e
    obtain ⟨k0, k1, k2, k3, k4⟩ := h.c8 k c' hc'
    refine ⟨k0, k1, ?_, fun j hj => ?_, ?_⟩
    · unfold CutC
      rw [cut_add hr8 (k3 r h0)]
      exact k2
    · rw [rowN_add hr8]
      split
      · rename_i e2
        subst e2
        have := k3 j hj
        rw [List.length_append]
        omega
      · exact k3 j hj
    · rw [rowN_add hr8, if_neg (Ne.symm e)]
      exact k4
def LB : Int := 5 + 4
/-- triples in order -/
def TrOk (trs : List Tr) : Prop := ∀ (k : Nat) (x : Tr), trs[k]? = some x → x.1 < 8 ∧ NewD (1 + LB * ((k : Int) + 1)) (rowsOf (trs.take k)) x.1 x.2.2 ∧ ModD x.2.2 ∧ BackD (rowN (rowsOf (trs.take k)) x.1).length x.2.2 ∧ x.2.1 = ((rowN (rowsOf (trs.take k)) x.1).length : Int) + 1
theorem TrOk.snoc {trs : List Tr} {x : Tr} (h : TrOk trs) (h0 : x.1 < 8) (h1 : NewD (1 + LB * ((trs.length : Int) + 1)) (rowsOf trs) x.1 x.2.2) (h2 : ModD x.2.2) (h3 : BackD (rowN (rowsOf trs) x.1).length x.2.2) (h4 : x.2.1 = ((rowN (rowsOf trs) x.1).length : Int) + 1) : TrOk (trs ++ [x]) := fun k y hy => by
  by_cases hk : k < trs.length
  · rw [List.getElem?_append_left hk] at hy
    rw [List.take_append_of_le_length (by omega)]
    exact h k y hy
  · rw [List.getElem?_append_right (by omega)] at hy
    have hk0 : k = trs.length := by
      have := (List.getElem?_eq_some_iff.mp hy).1
      simp at this
      omega
    subst hk0
    rw [Nat.sub_self] at hy
    cases hy
    rw [List.take_append_of_le_length (Nat.le_refl _), List.take_length]
    exact ⟨h0, h1, h2, h3, h4⟩
theorem LB_nonneg : 0 ≤ LB := by decide
theorem TrOk.rok {trs : List Tr} (h : TrOk trs) (hl : trs.length ≤ 190) : ∀ k, k ≤ trs.length → ROk (1 + LB * (k : Int)) (rowsOf (trs.take k))
  | 0, _ => ROk.nil.le (by have := LB_nonneg; simp)
  | k + 1, hk => by
    have hx : trs[k]? = some (trs[k]'(by omega)) := List.getElem?_eq_getElem _
    obtain ⟨h0, h1, _⟩ := h k _ hx
    have ih := h.rok hl k (by omega)
    have hs := rowsOf_short (trs.take k) (trs[k]'(by omega)).1
    rw [List.length_take] at hs
    rw [take_succ_of hx, rowsOf_snoc]
    exact ih.add (by have := LB_nonneg; show 1 + LB * (k : Int) ≤ 1 + LB * ((k : Int) + 1); rw [Int.mul_add]; omega) h0 (by omega) h1
theorem TrOk.all {trs : List Tr} (h : TrOk trs) (hl : trs.length ≤ 190) : ROk (1 + LB * (trs.length : Int)) (rowsOf trs) := by
  have := h.rok hl trs.length (Nat.le_refl _)
  rwa [List.take_length] at this
theorem TrOk.r8 {trs : List Tr} (h : TrOk trs) : ∀ x ∈ trs, x.1 < 8 := fun x hx => by
  obtain ⟨k, hk⟩ := List.mem_iff_getElem?.mp hx
  exact (h k x hk).1
theorem encN_len (c : List Nat) : (encN c).length = c.length := by unfold encN; exact List.length_map ..
theorem WsOk.same {H H' : Hp} {wss : List (List V)} {rows : Rows} (e : Same H H') (h : WsOk H wss rows) : WsOk H' wss rows := h.ex e

def sp_ltrip (K : PySem.W.Frag) (P : Addr) : Sp := fun vs H Q _ => ∃ (dr : Addr) (ds : List Int) (start : Int) (steps most : Nat) (ps : Array Value), vs = [.ref dr, .int start, .int (steps : Int), .int (most : Int)] ∧ SqL K H dr (ds.map V.int) ∧ DrawsOk ds ∧ 0 ≤ start ∧ steps ≤ 64 ∧ 1 ≤ most ∧ most ≤ 8 ∧ H P = some (.tbl ps) ∧ TabI H (qLam "_law_row") ps ∧
  ∀ (B' : Hp) (p : Addr) (ws : List V) (trs : List Tr) (ps' : Array Value) (H' : Hp), Same (dels H [P]) B' → Own B' [(p, .lst ws), (P, .tbl ps')] H' → TabI B' (qLam "_law_row") ps' → TdAll B' ws (trs.map encT) → TrOk trs → trs.length = steps → (∀ x ∈ trs, x.1 < most) → Q (.ref p) H'

theorem ok__law_triples (T : Txt K mg base) : FnOk P w K mg base CX0 5 T.a__law_triples T.d__law_triples P__law_triples (sp_ltrip K T.ta__law_row) := by
  refine T.F__law_triples.ok sc__law_triples (fun vs H Q E h => ?_) (fun cdv A outer s H vs Q E hr h => ?_)
  · obtain ⟨dr, ds, start, steps, most, ps, rfl, _⟩ := h
    rfl
  · obtain ⟨dr, ds, start, steps, most, ps, rfl, hS, hds, hst, hsteps, hm1, hm8, hP, hI, q⟩ := h
    refine ⟨_, (pss_cons (ps_setLc (i := 5) (own := [("k", 4)]) rfl sc__law_triples.nd rfl rfl (sw_true rfl rfl rfl (by decide +kernel)) (pi_range1 (by rfl) T.z_range (pa_cons pe_int pa_nil)) (blkOk_by (own := [("k", 4)]) (N := N__law_triples) (sc := defScope s__law_triples) (by decide +kernel)) (fun _ _ _ _ _ => (pg_name (i := 4) sc__law_triples.nd rfl (Or.inl rfl))) (fun _ _ _ _ _ => pts_nil) (fun _ _ _ _ _ => (pe_lst pa_nil)))
        (pss_cons (ps_set (i := 6) sc__law_triples.nd rfl (Or.inr rfl) (pe_lst pa_nil))
        (pss_cons (ps_for PassesOwn.never rfl (pi_range1 (by rfl) T.z_range (pa_cons (pv 3) pa_nil)) (pg_name (i := 4) sc__law_triples.nd rfl (Or.inl rfl))
          (pss_one (ps_expr (pe_bm PySem.F.plainAttrs_list PySem.F.slot_list_append PySem.F.type_list_append mt_append (pv 6) (pa_cons (pe_lc (own := [("j", 12)]) rfl sc__law_triples.nd (pi_range1 (by rfl) T.z_range (pa_cons pe_int pa_nil)) (blkOk_by (own := [("j", 12)]) (N := N__law_triples) (sc := defScope s__law_triples) (by decide +kernel)) (fun _ _ _ _ _ => (pg_name (i := 12) sc__law_triples.nd rfl (Or.inl rfl))) (fun _ _ _ _ _ => pts_nil) (fun _ _ _ _ _ => pe_int)) pa_nil)))))
        (pss_cons (ps_set (i := 7) sc__law_triples.nd rfl (Or.inl rfl) (pe_lst pa_nil))
        (pss_cons (ps_for PassesOwn.never rfl (pi_range1 (by rfl) T.z_range (pa_cons (pv 2) pa_nil)) (pg_name (i := 4) sc__law_triples.nd rfl (Or.inl rfl))
          (pss_cons (ps_set (i := 8) sc__law_triples.nd rfl (Or.inl rfl) (pe_op op_addU (pv 1) (pe_op op_mulU pe_int (pv 4))))
        (pss_cons (ps_set (i := 9) sc__law_triples.nd rfl (Or.inr rfl) (pe_op op_mod (pe_call (ok__law_at T) (hr.mono (by omega)) (by rfl) T.g__law_at T.F__law_at.kp T.b__law_at .nil pass0 (pa_cons (pv 0) (pa_cons (pv 8) pa_nil))) (pv 3)))
        (pss_cons (ps_set (i := 10) sc__law_triples.nd rfl (Or.inr rfl) (pe_op op_mod (pe_call (ok__law_at T) (hr.mono (by omega)) (by rfl) T.g__law_at T.F__law_at.kp T.b__law_at .nil pass0 (pa_cons (pv 0) (pa_cons (pe_op op_addU (pv 8) pe_int) pa_nil))) (pe_op op_addU (pv 3) pe_int)))
        (Evl.pss_cut (ps_if (pt_cmpR op_lt (pv 10) (pv 3) (nomark _))
          (pss_one (ps_asg (pe_lc (own := [("j", 12)]) rfl sc__law_triples.nd (pi_range1 (by rfl) T.z_range (pa_cons pe_int pa_nil)) (blkOk_by (own := [("j", 12)]) (N := N__law_triples) (sc := defScope s__law_triples) (by decide +kernel)) (fun _ _ _ _ _ => (pg_name (i := 12) sc__law_triples.nd rfl (Or.inl rfl))) (fun _ _ _ _ _ => pts_nil) (fun _ _ _ _ _ => (pe_callB (call_max2U rfl) (by rfl) T.z_max (by decide +kernel) (pa_cons (pe_ix (show IxR _ (rIx K) from ix_seq) (pe_ix (show IxR _ (rIx K) from ix_seq) (pv 6) (pv 9) (fun _ _ => rfl)) (pv 12) (fun _ _ => rfl)) (pa_cons (pe_ix (show IxR _ (rIx K) from ix_seq) (pe_ix (show IxR _ (rIx K) from ix_seq) (pv 6) (pv 10) (fun _ _ => rfl)) (pv 12) (fun _ _ => rfl)) pa_nil))))) (pg_sub (pv 6) (pv 9) set_list)))
          pss_nil)
        (pss_cons (ps_set (i := 11) sc__law_triples.nd rfl (Or.inl rfl) (pe_call (ok__law_deed T) (hr.mono (by omega)) (by rfl) T.g__law_deed T.F__law_deed.kp T.b__law_deed .nil pass0 (pa_cons (pv 0) (pa_cons (pe_op op_addU (pv 8) pe_int) (pa_cons (pe_call (ok__law_visible T) (hr.mono (by omega)) (by rfl) T.g__law_visible T.F__law_visible.kp T.b__law_visible .nil pass0 (pa_cons (pv 5) (pa_cons (pe_ix ix_seq (pv 6) (pv 9) (fun _ _ => rfl)) pa_nil))) (pa_cons (pv 9) pa_nil))))))
        (pss_cons (ps_expr (pe_bm PySem.F.plainAttrs_list PySem.F.slot_list_append PySem.F.type_list_append mt_append (pe_ix ix_seq (pv 5) (pv 9) (fun _ _ => rfl)) (pa_cons (pv 11) pa_nil)))
        (pss_cons (ps_asg (pe_callB call_lenU (by rfl) T.z_len PySem.boot_len (pa_cons (pe_ix ix_seq (pv 5) (pv 9) (fun _ _ => rfl)) pa_nil)) (pg_sub (pe_ix ix_seq (pv 6) (pv 9) (fun _ _ => rfl)) (pv 9) set_list))
        (pss_one (ps_expr (pe_bm PySem.F.plainAttrs_list PySem.F.slot_list_append PySem.F.type_list_append mt_append (pv 7) (pa_cons (pe_tup (pa_cons (pv 9) (pa_cons (pe_callB call_lenU (by rfl) T.z_len PySem.boot_len (pa_cons (pe_ix ix_seq (pv 5) (pv 9) (fun _ _ => rfl)) pa_nil)) (pa_cons (pv 11) pa_nil)))) pa_nil))))))))))))
        (pss_one (ps_ret (pv 7)))))))), ?_⟩
    have O := Own.arg1 hP
    have hI := (dels1_imm hP rfl).tab hI
    have hS := sql_dels hP hS
    walk_at "z"
    refine lcB_rng0 (fun D i H' => ∃ as' : List Addr, as'.length = i ∧ Own (dels H [T.ta__law_row]) (RowsC D as' (List.replicate i []) ++ [(T.ta__law_row, .tbl ps)]) H') ?_ ?_ ?_
    · intro D nD
      exact ⟨[], rfl, O.alloc nD⟩
    · clear O
      rintro D i H1 hi ⟨as', hl, O⟩
      walk_at "z"
      refine iteT ?_
      walk_at "z"
      refine g_new (Nat.zero_le _) O fun l H2 nl O => ?_
      refine g_lcPut O 1 rfl (small_of (by rw [List.length_map]; omega)) fun H3 O => ?_
      have O := rows_grow (by rw [List.length_replicate]; omega) O
      exact ⟨as' ++ [l], by rw [List.length_append]; show as'.length + 1 = _; omega, by rw [List.replicate_succ']; exact O⟩
    clear O
    rintro R H1 nR ⟨as', hal, O⟩
    have hal : as'.length = 8 := by omega
    walk_at "z"
    refine g_new (Nat.zero_le _) O fun C H2 nC O => ?_
    walk_at "z"
    refine forB_rng0 (fun k σ H' => ∃ (cas : List Addr) (x4 : Option V), σ = [some (.ref dr), some (.int start), some (.int (steps : Nat)), some (.int (most : Nat)), x4, some (.ref R), some (.ref C), none, none, none, none, none, none] ∧ cas.length = k ∧ Own (dels H [T.ta__law_row]) (RowsC C cas (List.replicate k (encN (List.replicate 8 0))) ++ (RowsC R as' (List.replicate 8 []) ++ [(T.ta__law_row, .tbl ps)])) H') ?_ ?_ ?_
    · exact ⟨[], _, rfl, rfl, O⟩
    · clear O
      rintro k σ H3 hk ⟨cas, x4, rfl, hcl, O⟩
      walk_at "z"
      refine g_tyL (O.lst 0) ?_
      walk_at "z"
      refine lcB_rng0 (fun D j H' => Own (dels H [T.ta__law_row]) ((D, .lst (encN (List.replicate j 0))) :: (RowsC C cas (List.replicate k (encN (List.replicate 8 0))) ++ (RowsC R as' (List.replicate 8 []) ++ [(T.ta__law_row, .tbl ps)]))) H') ?_ ?_ ?_
      · intro D nD
        exact O.alloc nD
      · clear O
        intro D j H4 hj O
        walk_at "z"
        refine iteT ?_
        walk_at "z"
        refine g_lcPut O 0 rfl (small_of (by rw [encN_len, List.length_replicate]; omega)) fun H5 O => ?_
        have : encN (List.replicate (j + 1) 0) = encN (List.replicate j 0) ++ [.int 0] := by
          rw [List.replicate_succ']
          unfold encN
          rw [List.map_append]
          rfl
        rw [this]
        exact O
      · clear O
        intro D H4 nD O
        walk_at "z"
        refine g_append O 1 rfl (small_of (by rw [List.length_map]; omega)) fun H5 O => ?_
        have O := rows_grow (by rw [List.length_replicate]; omega) O
        exact ⟨cas ++ [D], _, rfl, by rw [List.length_append]; show cas.length + 1 = _; omega, by rw [List.replicate_succ']; exact O⟩
    clear O
    rintro σ H3 ⟨cas, x4, rfl, hcl, O⟩
    have hcl : cas.length = most := by omega
    walk_at "z"
    refine g_new (Nat.zero_le _) O fun tl H4 ntl O => ?_
    walk_at "z"
    have hL := LB_nonneg
    refine forB_rng0 (fun k σ H' => ∃ (B' : Hp) (ts : List V) (trs : List Tr) (wss : List (List V)) (cas : List Addr) (cts : List (List Nat)) (ps' : Array Value) (x4 x8 x9 x10 x11 : Option V), σ = [some (.ref dr), some (.int start), some (.int (steps : Nat)), some (.int (most : Nat)), x4, some (.ref R), some (.ref C), some (.ref tl), x8, x9, x10, x11, none] ∧ Same (dels H [T.ta__law_row]) B' ∧ TabI B' (qLam "_law_row") ps' ∧ wss.length = 8 ∧ cas.length = most ∧ cts.length = most ∧ WsOk B' wss (rowsOf trs) ∧ TInv (1 + LB * (k : Int)) (rowsOf trs) cts ∧ TdAll B' ts (trs.map encT) ∧ TrOk trs ∧ trs.length = k ∧ (∀ x ∈ trs, x.1 < most) ∧ Own B' ((tl, .lst ts) :: (RowsC C cas (cts.map encN) ++ (RowsC R as' wss ++ [(T.ta__law_row, .tbl ps')]))) H') ?_ ?_ ?_
    · refine ⟨_, [], [], List.replicate 8 [], cas, List.replicate most (List.replicate 8 0), ps, _, _, _, _, _, rfl, Same.refl _, hI, List.length_replicate .., hcl, List.length_replicate .., wsOk_nil _ 8, ⟨ROk.nil.le (by simp), fun k c hc => ?_⟩, .nil, (fun k x h => by simp at h), rfl, (fun _ h => nomatch h), ?_⟩
      · rw [List.getElem?_replicate] at hc
        split at hc
        · cases hc
          refine ⟨by omega, List.length_replicate .., fun i d hd => ?_, fun j hj => ?_, ?_⟩
          · have := cut_sub _ _ i d hd
            rw [show rowsOf [] = nilR from rfl, rowN_nil] at this
            exact nomatch this
          · rw [List.getD_eq_getElem?_getD, List.getElem?_replicate]
            split <;> exact Nat.zero_le _
          · rw [show rowsOf [] = nilR from rfl, rowN_nil, List.getD_eq_getElem?_getD, List.getElem?_replicate]
            split <;> rfl
        · exact nomatch hc
      · rw [List.map_replicate]
        rw [show ((most : Int)).toNat = most from Int.toNat_natCast _] at O
        exact O
    · clear O
      rintro k σ H5 hk ⟨B, ts, trs, wss, cas, cts, ps', x4, x8, x9, x10, x11, rfl, eB, hI, hwl, hcl, hctl, hW, hT, hTs, hTr, hkl, hlm, O⟩
      have hS := eB.seq hS
      walk_at "z"
      refine ⟨dr, ds, start + 16 * (k : Int), rfl, O.fr.seq hS, hds, by omega, fun n0 hn0 _ => ?_⟩
      walk_at "z"
      refine ⟨dr, ds, start + 16 * (k : Int) + 1, rfl, O.fr.seq hS, hds, by omega, fun n1 hn1 _ => ?_⟩
      walk_at "z"
      have hr0 : 0 ≤ n0 % (most : Int) := Int.emod_nonneg _ (by omega)
      have hr1 : n0 % (most : Int) < most := Int.emod_lt_of_pos _ (by omega)
      have ho0 : 0 ≤ n1 % ((most : Int) + 1) := Int.emod_nonneg _ (by omega)
      obtain ⟨r, hr⟩ : ∃ r : Nat, n0 % (most : Int) = (r : Int) := ⟨(n0 % (most : Int)).toNat, by omega⟩
      obtain ⟨o, ho⟩ : ∃ r : Nat, n1 % ((most : Int) + 1) = (r : Int) := ⟨(n1 % ((most : Int) + 1)).toNat, by omega⟩
      rw [hr, ho]
      have hrm : r < most := by omega
      have hr8 : r < 8 := by omega
      have hcr : cas[r]? = some (cas[r]'(by omega)) := List.getElem?_eq_getElem _
      have hctr : cts[r]? = some (cts[r]'(by omega)) := List.getElem?_eq_getElem _
      have hcv : ∀ {j : Nat} {l : List (List Nat)} {c : List Nat}, l[j]? = some c → (l.map encN)[j]? = some (encN c) := fun {j l c} h => by rw [List.getElem?_map, h]; rfl
      refine ⟨fun σ H' => ∃ (cas : List Addr) (cts : List (List Nat)), σ = [some (.ref dr), some (.int start), some (.int (steps : Nat)), some (.int (most : Nat)), some (.int (k : Nat)), some (.ref R), some (.ref C), some (.ref tl), some (.int (start + 16 * (k : Int))), some (.int (r : Nat)), some (.int (o : Nat)), x11, none] ∧ cas.length = most ∧ cts.length = most ∧ TInv (1 + LB * (k : Int)) (rowsOf trs) cts ∧ Own B ((tl, .lst ts) :: (RowsC C cas (cts.map encN) ++ (RowsC R as' wss ++ [(T.ta__law_row, .tbl ps')]))) H', ?_, ?_⟩
      · walk_at "z"
        refine ite_d (fun hom => ?_) (fun _ => ⟨cas, cts, rfl, hcl, hctl, hT, O⟩)
        have hom : o < most := by omega
        have hco : cas[o]? = some (cas[o]'(by omega)) := List.getElem?_eq_getElem _
        have hcto : cts[o]? = some (cts[o]'(by omega)) := List.getElem?_eq_getElem _
        obtain ⟨_, l1, _⟩ := hT.c8 r _ hctr
        obtain ⟨_, l2, _⟩ := hT.c8 o _ hcto
        walk_at "z"
        have gC : ∀ {H'} {D : Addr} {zs : List V}, Own B ((D, .lst zs) :: (tl, .lst ts) :: (RowsC C cas (cts.map encN) ++ (RowsC R as' wss ++ [(T.ta__law_row, .tbl ps')]))) H' → ∀ {j : Nat} {a : Addr} {o : HO}, (RowsC C cas (cts.map encN))[j]? = some (a, o) → H' a = some o := fun {H' D zs} O {j a o} h => Own.getX (X := [(D, .lst zs), (tl, .lst ts)]) O h
        refine lcB_rng0 (fun D j H' => Own B ((D, .lst (((encN (maxC (cts[r]'(by omega)) (cts[o]'(by omega))))).take j)) :: (tl, .lst ts) :: (RowsC C cas (cts.map encN) ++ (RowsC R as' wss ++ [(T.ta__law_row, .tbl ps')]))) H') ?_ ?_ ?_
        · intro D nD
          exact O.alloc nD
        · clear O
          intro D j H6 hj O
          have hj : j < 8 := by omega
          have hml : (encN (maxC (cts[r]'(by omega)) (cts[o]'(by omega)))).length = 8 := by rw [encN_len, maxC_len]
          walk_at "z"
          refine iteT ?_
          walk_at "z"
          refine g_ixL (.inl (.inl (gC O (j := 0) rfl))) (atI_nat (show (cas.map V.ref)[r]? = some (.ref (cas[r]'(by omega))) by rw [List.getElem?_map, hcr]; rfl)) ?_
          walk_at "z"
          refine g_ixL (.inl (.inl (gC O (rowsC_get hcr (hcv hctr))))) (atI_nat (encN_get (by omega))) ?_
          walk_at "z"
          refine g_ixL (.inl (.inl (gC O (j := 0) rfl))) (atI_nat (show (cas.map V.ref)[o]? = some (.ref (cas[o]'(by omega))) by rw [List.getElem?_map, hco]; rfl)) ?_
          walk_at "z"
          refine g_ixL (.inl (.inl (gC O (rowsC_get hco (hcv hcto))))) (atI_nat (encN_get (by omega))) ?_
          walk_at "z"
          refine g_lcPut O 0 rfl (small_of (by rw [List.length_take]; omega)) fun H7 O => ?_
          have hx : (encN (maxC (cts[r]'(by omega)) (cts[o]'(by omega))))[j]? = some (.int (max (((cts[r]'(by omega)).getD j 0 : Nat) : Int) (((cts[o]'(by omega)).getD j 0 : Nat) : Int))) := by
            rw [encN_get (by rw [maxC_len]; exact hj), maxC_at hj]
            congr 2
            omega
          rw [take_succ_of hx]
          exact O
        · clear O
          intro D H6 nD O
          rw [List.take_of_length_le (by rw [encN_len, maxC_len]; decide)] at O
          walk_at "z"
          refine g_setL (cs := [(D, .lst _), (tl, .lst ts)] ++ (RowsC C cas (cts.map encN) ++ (RowsC R as' wss ++ [(T.ta__law_row, .tbl ps')]))) O 2 rfl (by omega) (by rw [List.length_map]; omega) fun H7 O => ?_
          refine ⟨cas.set r D, cts.set r (maxC (cts[r]'(by omega)) (cts[o]'(by omega))), rfl, by rw [List.length_set]; exact hcl, by rw [List.length_set]; exact hctl, hT.mx hctr hcto, ?_⟩
          rw [Int.toNat_natCast] at O
          have hrl : r < (rc cas (cts.map encN)).length := by rw [rc_len (by rw [List.length_map]; omega)]; omega
          have hp := perm_put (c := (D, HO.lst (encN (maxC (cts[r]'(by omega)) (cts[o]'(by omega)))))) (h := (C, HO.lst ((cas.map V.ref).set r (.ref D)))) (X := [(tl, HO.lst ts)]) (M := RowsC R as' wss ++ [(T.ta__law_row, .tbl ps')]) hrl
          have O := (O.perm hp.symm).tail
          rw [rc_put (by rw [List.length_map]; omega), ← List.map_set] at O
          rw [List.map_set]
          exact O
      clear O hcr hctr hcl hctl hT cas cts
      rintro σ H6 ⟨cas, cts, rfl, hcl, hctl, hT, O⟩
      have hcr : cas[r]? = some (cas[r]'(by omega)) := List.getElem?_eq_getElem _
      have hctr : cts[r]? = some (cts[r]'(by omega)) := List.getElem?_eq_getElem _
      obtain ⟨_, l1, hcut, hcle, hceq⟩ := hT.c8 r _ hctr
      have hsh := rowsOf_short trs r
      have har : as'[r]? = some (as'[r]'(by omega)) := List.getElem?_eq_getElem _
      have hwr : wss[r]? = some (wss[r]'(by omega)) := List.getElem?_eq_getElem _
      have hwz := hW.len_at hwr
      have hLk : LB * (k : Int) ≤ LB * 64 := Int.mul_le_mul_of_nonneg_left (by omega) hL
      have hLc : LB ≤ 2000000000000 := by decide
      have hLk0 : 0 ≤ LB * (k : Int) := Int.mul_nonneg hL (by omega)
      walk_at "z"
      refine g_ixL (.inl (.inl (Own.getX (X := [(tl, .lst ts)]) (M := RowsC C cas (cts.map encN)) (i := 0) O rfl))) (atI_nat (show (cas.map V.ref)[r]? = some (.ref (cas[r]'(by omega))) by rw [List.getElem?_map, hcr]; rfl)) ?_
      walk_at "z"
      have hRat : RowsAt H6 R as' (rowsOf trs) := rowsAt_of (fun c hc => O.have_ c (.tail _ (List.mem_append.mpr (.inr (List.mem_append.mpr (.inl hc)))))) (by omega) (hW.ex O.fr)
      refine ⟨R, cas[r]'(by omega), as', rowsOf trs, cts[r]'(by omega), rfl, hRat, hT.ok.sz, .inl (.inl (Own.getX (X := [(tl, .lst ts)]) O (rowsC_get hcr (hcv hctr)))), l1, fun p1 as1 wss1 H7 hl1 hW1 O1 => ?_⟩
      have O := O.join O1
      have hW1 := hW1.ex O1.fr
      walk_at "z"
      have hVat : RowsAt H7 p1 as1 (cutR (rowsOf trs) (cts[r]'(by omega))) := rowsAt_of (fun c hc => O1.have_ c hc) hl1 hW1
      clear O1
      have mut1 : Zl.Mut (RowsC p1 as1 wss1 ++ ((tl, HO.lst ts) :: (RowsC C cas (cts.map encN) ++ (RowsC R as' wss ++ [(T.ta__law_row, HO.tbl ps')])))) := (RowsC.mut _ _ _).app (.cons rfl ((RowsC.mut _ _ _).app ((RowsC.mut _ _ _).app (.cons rfl .nil))))
      have hj : (RowsC p1 as1 wss1 ++ ((tl, HO.lst ts) :: (RowsC C cas (cts.map encN) ++ (RowsC R as' wss ++ [(T.ta__law_row, HO.tbl ps')]))))[(RowsC p1 as1 wss1).length + (1 + ((RowsC C cas (cts.map encN)).length + ((RowsC R as' wss).length + 0)))]? = some (T.ta__law_row, .tbl ps') := by
        refine get_end ?_
        rw [Nat.add_comm 1]
        exact get_end (get_end rfl)
      have hP7 := O.get _ hj
      refine ⟨dr, ds, start + 16 * (k : Int) + 2, p1, as1, _, r, 1 + LB * (k : Int), ps', rfl, O.fr.seq hS, hds, by omega, hVat, hT.ok.cut hcut, by omega, by omega, hr8, hP7, hI.ex O.fr, fun B1 v d ps2 H8 e1 O1 hI1 hv hnew hmod hback => ?_⟩
      obtain ⟨B2, e2, O, im⟩ := O.callM (ds := []) hj e1 O1 mut1 .nil rfl
      have hI2 := im.tab (hI1.ex O1.fr)
      have hv := im.td (td_ex O1.fr hv)
      clear O1 hI1 e1 im
      have O : Own B2 ((tl, .lst ts) :: (RowsC C cas (cts.map encN) ++ (RowsC R as' wss ++ [(T.ta__law_row, .tbl ps2)]))) H8 := by
        have h1 : (RowsC p1 as1 wss1 ++ ((tl, HO.lst ts) :: (RowsC C cas (cts.map encN) ++ (RowsC R as' wss ++ [(T.ta__law_row, HO.tbl ps')])))).set ((RowsC p1 as1 wss1).length + (1 + ((RowsC C cas (cts.map encN)).length + ((RowsC R as' wss).length + 0)))) (T.ta__law_row, .tbl ps2) = RowsC p1 as1 wss1 ++ ((tl, HO.lst ts) :: (RowsC C cas (cts.map encN) ++ (RowsC R as' wss ++ [(T.ta__law_row, HO.tbl ps2)]))) := by
          rw [set_end, Nat.add_comm 1, List.set_cons_succ, set_end, set_end]
          rfl
        have O : Own B2 _ H8 := O
        rw [List.nil_append, h1] at O
        exact O.sub (List.sublist_append_right _ _)
      have hrow8 := rowsOf_len trs
      have hnew2 : NewD (1 + LB * ((k : Int) + 1)) (cutR (rowsOf trs) (cts[r]'(by omega))) r d := by
        have e : 1 + LB * ((k : Int) + 1) = 1 + LB * (k : Int) + 5 + 4 := by
          rw [Int.mul_add]
          have : LB * 1 = 5 + 4 := by decide
          omega
        rw [e]
        exact hnew
      obtain ⟨hT2, hnewR⟩ := hT.add (by rw [Int.mul_add]; omega) hctr (by omega) hnew2
      have hW2 : WsOk B2 (wss.set r (wss[r]'(by omega) ++ [v])) (rowsOf (trs ++ [(r, ((rowN (rowsOf trs) r).length : Int) + 1, d)])) := by
        rw [rowsOf_snoc]
        exact (hW.ex e2).add hwr hv
      walk_at "z"
      have hRc : ∀ {ts : List V} {cvs wss : List (List V)} {H'}, Own B2 ((tl, .lst ts) :: (RowsC C cas cvs ++ (RowsC R as' wss ++ [(T.ta__law_row, .tbl ps2)]))) H' → H' R = some (.lst (as'.map V.ref)) := fun {ts cvs wss H'} O => O.have_ (R, .lst _) (.tail _ (List.mem_append.mpr (.inr (.head _))))
      refine g_ixL (.inl (.inl (hRc O))) (atI_nat (show (as'.map V.ref)[r]? = some (.ref (as'[r]'(by omega))) by rw [List.getElem?_map, har]; rfl)) ?_
      have hj2 : ((tl, HO.lst ts) :: (RowsC C cas (cts.map encN) ++ (RowsC R as' wss ++ [(T.ta__law_row, HO.tbl ps2)])))[((RowsC C cas (cts.map encN)).length + (r + 1)) + 1]? = some (as'[r]'(by omega), .lst (wss[r]'(by omega))) := by
        rw [List.getElem?_cons_succ]
        exact get_mid (rowsC_get har hwr)
      refine g_tyL (O.lst _ hj2) ?_
      walk_at "z"
      refine g_append O _ hj2 (small_of (by omega)) fun H9 O => ?_
      have O : Own B2 ((tl, .lst ts) :: (RowsC C cas (cts.map encN) ++ (RowsC R as' (wss.set r (wss[r]'(by omega) ++ [v])) ++ [(T.ta__law_row, .tbl ps2)]))) H9 := by
        have h1 : ((tl, HO.lst ts) :: (RowsC C cas (cts.map encN) ++ (RowsC R as' wss ++ [(T.ta__law_row, HO.tbl ps2)]))).set (((RowsC C cas (cts.map encN)).length + (r + 1)) + 1) (as'[r]'(by omega), .lst (wss[r]'(by omega) ++ [v])) = (tl, .lst ts) :: (RowsC C cas (cts.map encN) ++ (RowsC R as' (wss.set r (wss[r]'(by omega) ++ [v])) ++ [(T.ta__law_row, .tbl ps2)])) := by
          rw [List.set_cons_succ, set_mid (by rw [rowsC_len (by omega)]; omega), rowsC_set har]
        rw [h1] at O
        exact O
      have hw2 : (wss.set r (wss[r]'(by omega) ++ [v]))[r]? = some (wss[r]'(by omega) ++ [v]) := by rw [List.getElem?_set_self (by omega)]
      have hRr : ∀ {ts : List V} {cvs : List (List V)} {H'}, Own B2 ((tl, .lst ts) :: (RowsC C cas cvs ++ (RowsC R as' (wss.set r (wss[r]'(by omega) ++ [v])) ++ [(T.ta__law_row, .tbl ps2)]))) H' → H' (as'[r]'(by omega)) = some (.lst (wss[r]'(by omega) ++ [v])) := fun {ts cvs H'} O => O.have_ (as'[r]'(by omega), .lst _) (.tail _ (List.mem_append.mpr (.inr (List.mem_append.mpr (.inl (List.mem_of_getElem? (rowsC_get har hw2)))))))
      have hlen : (wss[r]'(by omega) ++ [v]).length = (rowN (rowsOf trs) r).length + 1 := by rw [List.length_append, hwz]; rfl
      walk_at "z"
      refine g_ixL (.inl (.inl (hRc O))) (atI_nat (show (as'.map V.ref)[r]? = some (.ref (as'[r]'(by omega))) by rw [List.getElem?_map, har]; rfl)) ?_
      walk_at "z"
      refine g_lenL (.inl (.inl (hRr O))) ?_
      walk_at "z"
      refine g_ixL (.inl (.inl (Own.getX (X := [(tl, .lst ts)]) (M := RowsC C cas (cts.map encN)) (i := 0) O rfl))) (atI_nat (show (cas.map V.ref)[r]? = some (.ref (cas[r]'(by omega))) by rw [List.getElem?_map, hcr]; rfl)) ?_
      walk_at "z"
      have hj3 : ((tl, HO.lst ts) :: (RowsC C cas (cts.map encN) ++ (RowsC R as' (wss.set r (wss[r]'(by omega) ++ [v])) ++ [(T.ta__law_row, HO.tbl ps2)])))[(r + 1) + 1]? = some (cas[r]'(by omega), .lst (encN (cts[r]'(by omega)))) := by
        rw [List.getElem?_cons_succ, List.getElem?_append_left (by rw [rowsC_len (by rw [List.length_map]; omega)]; omega)]
        exact rowsC_get hcr (hcv hctr)
      refine g_setL O _ hj3 (by omega) (by rw [encN_len, l1]; omega) fun H10 O => ?_
      have O : Own B2 ((tl, .lst ts) :: (RowsC C cas ((cts.set r ((cts[r]'(by omega)).set r ((rowN (rowsOf trs) r).length + 1))).map encN) ++ (RowsC R as' (wss.set r (wss[r]'(by omega) ++ [v])) ++ [(T.ta__law_row, .tbl ps2)]))) H10 := by
        rw [Int.toNat_natCast, hlen] at O
        have h1 : ((tl, HO.lst ts) :: (RowsC C cas (cts.map encN) ++ (RowsC R as' (wss.set r (wss[r]'(by omega) ++ [v])) ++ [(T.ta__law_row, HO.tbl ps2)]))).set ((r + 1) + 1) (cas[r]'(by omega), .lst ((encN (cts[r]'(by omega))).set r (.int (((rowN (rowsOf trs) r).length + 1 : Nat) : Int)))) = (tl, .lst ts) :: (RowsC C cas ((cts.set r ((cts[r]'(by omega)).set r ((rowN (rowsOf trs) r).length + 1))).map encN) ++ (RowsC R as' (wss.set r (wss[r]'(by omega) ++ [v])) ++ [(T.ta__law_row, .tbl ps2)])) := by
          rw [List.set_cons_succ, List.set_append_left _ _ (by rw [rowsC_len (by rw [List.length_map]; omega)]; omega), rowsC_set hcr, List.map_set]
          congr 4
          unfold encN
          rw [List.map_set]
        rw [h1] at O
        exact O
      walk_at "z"
      refine g_tyL (O.lst 0) ?_
      walk_at "z"
      refine g_ixL (.inl (.inl (hRc O))) (atI_nat (show (as'.map V.ref)[r]? = some (.ref (as'[r]'(by omega))) by rw [List.getElem?_map, har]; rfl)) ?_
      walk_at "z"
      refine g_lenL (.inl (.inl (hRr O))) ?_
      rw [hlen]
      walk_at "z"
      refine g_new (small_le (by simp)) O fun t H11 nt O => ?_
      obtain ⟨B3, e3, ht, O⟩ := fz O
      have htl := tds_len hTs
      rw [List.length_map] at htl
      walk_at "z"
      refine g_append O 0 rfl (small_of (by omega)) fun H12 O => ?_
      refine ⟨B3, _, trs ++ [(r, ((rowN (rowsOf trs) r).length : Int) + 1, d)], _, cas, _, ps2, _, _, _, _, _, rfl, (eB.trans e2).trans e3, hI2.ex e3, by rw [List.length_set]; exact hwl, hcl, by rw [List.length_set]; exact hctl, hW2.ex e3, ?_, ?_, ?_, by rw [List.length_append, hkl]; rfl, fun x hx => ?_, O⟩
      · rw [rowsOf_snoc]
        exact hT2
      · rw [List.map_append]
        exact tds_snoc (tds_ex (e2.trans e3) hTs) (.tup ht (.cons (.int _) (.cons (.int _) (.cons (td_ex e3 hv) .nil))))
      · refine hTr.snoc (x := (r, ((rowN (rowsOf trs) r).length : Int) + 1, d)) hr8 (by rw [hkl]; exact hnewR) hmod ?_ rfl
        have hfull : rowN (cutR (rowsOf trs) (cts[r]'(by omega))) r = rowN (rowsOf trs) r := by rw [rowN_cut, if_pos hr8, hceq, List.take_length]
        rw [hfull] at hback
        exact hback
      · rcases List.mem_append.mp hx with hx | hx
        · exact hlm x hx
        · rw [List.mem_singleton.mp hx]
          exact hrm
    · clear O
      rintro σ H5 ⟨B, ts, trs, wss, cas, cts, ps', x4, x8, x9, x10, x11, rfl, eB, hI, hwl, hcl, hctl, hW, hT, hTs, hTr, hkl, hlm, O⟩
      walk_at "z"
      refine q B tl ts trs ps' H5 eB (O.sub ?_) hI hTs hTr (by omega) hlm
      exact ((List.sublist_append_right _ _).trans (List.sublist_append_right _ _)).cons_cons _

/-! ### what is compared by the law -/
def encRow (row : List Deed) : PyData := .list (row.map encD)
def encRs (rows : Rows) : PyData := .list (rows.map encRow)
theorem dps_of {α : Type} {K : PySem.W.Frag} {H : Hp} {f : α → PyData} : ∀ {vs : List V} {l : List α}, vs.length = l.length → (∀ (i : Nat) (v : V) (x : α), vs[i]? = some v → l[i]? = some x → Dp K H v (f x)) → DpAll K H vs (l.map f)
  | [], [], _, _ => .nil
  | v :: vs, x :: l, h, k => .cons (k 0 v x rfl rfl) (dps_of (by simpa using h) fun i v x hv hx => k (i + 1) v x (by simpa using hv) (by simpa using hx))
theorem rowsAt_dp {K : PySem.W.Frag} {H : Hp} {R : Addr} {as : List Addr} {rows : Rows} (h : RowsAt H R as rows) : Dp K H (.ref R) (encRs rows) := by
  refine .lst (.inl (.inl h.top)) (dps_of (by rw [List.length_map]; exact h.len) fun i v x hv hx => ?_)
  have hi := (List.getElem?_eq_some_iff.mp hx).1
  obtain ⟨a, ws, ha1, ha2, ha, hT, _⟩ := h.at hi
  rw [ha1] at hv
  cases hv
  rw [rowN_eq hi] at hx
  cases hx
  exact .lst (.inl (.inl ha)) (tds_dp hT)
theorem dl_kz (n : Nat) (k : Mk) : Dl (n + 2) (kzD k) := .tup (by simp) fun d hd => by
  rcases List.mem_cons.mp hd with rfl | hd
  · exact .int
  · rcases List.mem_cons.mp hd with rfl | hd
    · exact .int
    · exact nomatch hd
theorem dl_O (n : Nat) (o : Option Mk) : Dl (n + 2) (encO o) := by
  cases o with
  | none => exact .non
  | some k => exact dl_kz n k
theorem dl_D (n : Nat) {N : Int} {d : Deed} (h : DdOk N d) : Dl (n + 4) (encD d) := by
  cases d with
  | back p =>
    refine .tup (by simp) fun x hx => ?_
    rcases List.mem_cons.mp hx with rfl | hx
    · exact .str
    · rcases List.mem_cons.mp hx with rfl | hx
      · exact .int
      · exact nomatch hx
  | chg m rm bh n t =>
    obtain ⟨_, _, _, _, h4⟩ := h
    refine .tup (by simp) fun x hx => ?_
    simp only [List.mem_cons, List.not_mem_nil, or_false] at hx
    rcases hx with rfl | rfl | rfl | rfl | rfl | rfl
    · exact .str
    · exact .str
    · refine .tup (by rw [List.length_map]; omega) fun x hx => ?_
      obtain ⟨k, _, rfl⟩ := List.mem_map.mp hx
      exact dl_kz _ k
    · exact dl_O _ bh
    · exact .int
    · exact .str
theorem dl_row (n : Nat) {N : Int} {row : List Deed} (h : ∀ d ∈ row, DdOk N d) (hl : row.length ≤ 1000) : Dl (n + 5) (encRow row) := .lst (by rw [List.length_map]; omega) fun x hx => by
  obtain ⟨d, hd, rfl⟩ := List.mem_map.mp hx
  exact dl_D n (h d hd)
theorem dl_rows (n : Nat) {N : Int} {rows : Rows} (h : ROk N rows) : Dl (n + 6) (encRs rows) := .lst (by rw [List.length_map, h.sz.len]; decide) fun x hx => by
  obtain ⟨row, hrow, rfl⟩ := List.mem_map.mp hx
  obtain ⟨i, _, rfl⟩ := mem_rowN hrow
  exact dl_row n (h.dd i) (Nat.le_trans (h.sz.at i) (by decide))
theorem dl_cells (n : Nat) {l : List Cell} (h : l.length ≤ 16777216) : Dl (n + 4) (.list (l.map encR)) := .lst (by rw [List.length_map]; exact h) fun x hx => by
  obtain ⟨c, _, rfl⟩ := List.mem_map.mp hx
  refine .tup (by simp) fun x hx => ?_
  simp only [List.mem_cons, List.not_mem_nil, or_false] at hx
  rcases hx with rfl | rfl | rfl
  · exact dl_kz n _
  · exact .str
  · exact .bl
theorem dl_bls (n : Nat) {l : List Bool} (h : l.length ≤ 16777216) : Dl (n + 2) (.list (l.map PyData.bool)) := .lst (by rw [List.length_map]; exact h) fun x hx => by
  obtain ⟨c, _, rfl⟩ := List.mem_map.mp hx
  exact .bl
theorem dps_bls {K : PySem.W.Frag} {H : Hp} : ∀ l : List Bool, DpAll K H (l.map V.bl) (l.map PyData.bool)
  | [] => .nil
  | b :: l => .cons (.bl b) (dps_bls l)
/-- the law's comparison of what is the same -/
theorem same_ok {K : PySem.W.Frag} {H : Hp} {x y : V} {d : PyData} {Q : VK} {E : XK} (h1 : Dp K H x d) (h2 : Dp K H y d) (hl : Dl 12 d) (k : ∀ H', Same H H' → Q (.bl true) H') : sp__law_same 12 K [x, y] H Q E :=
  ⟨x, y, d, d, rfl, h1, h2, hl, fun b H' hb e => by rw [hb.mpr rfl]; exact k H' e⟩
/-- in force: no later deed in force takes it back -/
theorem fR_get (rev : List Deed) : ∀ (n k : Nat), k < n → (fR rev n)[k]? = some (!takenBy rev (fR rev k) ((rev.length : Int) - k))
  | 0, k, h => absurd h (Nat.not_lt_zero k)
  | n + 1, k, h => by
    show (fR rev n ++ [_])[k]? = _
    by_cases hk : k < n
    · rw [List.getElem?_append_left (by rw [fR_len]; exact hk)]
      exact fR_get rev n k hk
    · have : k = n := by omega
      subst this
      rw [List.getElem?_append_right (by rw [fR_len]; exact Nat.le_refl _), fR_len, Nat.sub_self]
      rfl
theorem fR_pre (rev : List Deed) (k n : Nat) (h : k ≤ n) (j : Nat) (hj : j < k) : (fR rev k)[j]? = (fR rev n)[j]? := by rw [fR_get rev k j hj, fR_get rev n j (by omega)]
theorem frc_get (row : List Deed) {i : Nat} (h : i < row.length) : (frc row)[i]? = (fR row.reverse row.length)[row.length - 1 - i]? := by
  unfold frc
  rw [List.getElem?_reverse (by rw [fR_len]; exact h), fR_len]
theorem frc_at (row : List Deed) {i : Nat} (h : i < row.length) : (frc row)[i]? = some (!(List.range row.length).any fun k => decide (i < k) && ((frc row)[k]?.getD false && isBack ((i : Int) + 1) row[k]?)) := by
  rw [frc_get row h, fR_get _ _ _ (by omega)]
  congr 2
  rw [List.length_reverse, show (row.length : Int) - ((row.length - 1 - i : Nat) : Int) = (i : Int) + 1 by omega]
  unfold takenBy
  rw [fR_len]
  apply Bool.eq_iff_iff.mpr
  rw [List.any_eq_true, List.any_eq_true]
  constructor
  · rintro ⟨j, hj, hp⟩
    have hj := List.mem_range.mp hj
    refine ⟨row.length - 1 - j, List.mem_range.mpr (by omega), ?_⟩
    rw [fR_pre _ _ row.length (by omega) j hj, List.getElem?_reverse (by omega)] at hp
    rw [decide_eq_true (show i < row.length - 1 - j by omega), frc_get row (by omega), show row.length - 1 - (row.length - 1 - j) = j by omega]
    exact hp
  · rintro ⟨k, hk, hp⟩
    have hk := List.mem_range.mp hk
    rw [Bool.and_eq_true] at hp
    have hik := of_decide_eq_true hp.1
    refine ⟨row.length - 1 - k, List.mem_range.mpr (by omega), ?_⟩
    rw [fR_pre _ _ row.length (by omega) _ (by omega), List.getElem?_reverse (by omega), show row.length - 1 - (row.length - 1 - k) = k by omega, ← frc_get row hk]
    exact hp.2
theorem later_len (row : List Deed) {i : Nat} (h : i < row.length) : decide (((List.range (row.length - (i + 1))).filter fun j => ((frc row)[i + 1 + j]?.getD false) && isBack ((i : Int) + 1) row[i + 1 + j]?).length = 0) = (frc row)[i]'(by rw [frc_len]; exact h) := by
  have e := frc_at row h
  rw [List.getElem?_eq_getElem (by rw [frc_len]; exact h)] at e
  rw [Option.some.inj e]
  apply Bool.eq_iff_iff.mpr
  rw [decide_eq_true_eq, List.length_eq_zero_iff, List.filter_eq_nil_iff, Bool.not_eq_true', ← Bool.not_eq_true, List.any_eq_true]
  constructor
  · rintro h1 ⟨k, hk, hp⟩
    have hk := List.mem_range.mp hk
    rw [Bool.and_eq_true] at hp
    have hik := of_decide_eq_true hp.1
    refine h1 (k - (i + 1)) (List.mem_range.mpr (by omega)) ?_
    rw [show i + 1 + (k - (i + 1)) = k by omega]
    exact hp.2
  · intro h1 j hj hp
    have hj := List.mem_range.mp hj
    refine h1 ⟨i + 1 + j, List.mem_range.mpr (by omega), ?_⟩
    rw [decide_eq_true (show i < i + 1 + j by omega), Bool.true_and]
    exact hp


/-! ### two tables -/
theorem dels2 {H : Hp} {a b c : Addr} {ps1 ps2 : Array Value} {u : HO} (ha : H a = some (.tbl ps1)) (hb : H b = some (.tbl ps2)) (hc : H c = some u) (ne : ∀ ps, HO.tbl ps ≠ u) : dels H [a, b] c = some u := by
  rw [dels_out]
  · exact hc
  · intro q
    simp only [List.mem_cons, List.not_mem_nil, or_false] at q
    rcases q with rfl | rfl
    · rw [ha] at hc; exact ne _ (Option.some.inj hc)
    · rw [hb] at hc; exact ne _ (Option.some.inj hc)
theorem dels2_imm {H : Hp} {a b : Addr} {ps1 ps2 : Array Value} (ha : H a = some (.tbl ps1)) (hb : H b = some (.tbl ps2)) : Imm H (dels H [a, b]) := fun c o i h => dels2 ha hb h fun ps q => by rw [← q] at i; exact nomatch i
theorem RowsAt.dl2 {H : Hp} {R a b : Addr} {as : List Addr} {rows : Rows} {ps1 ps2 : Array Value} (ha : H a = some (.tbl ps1)) (hb : H b = some (.tbl ps2)) (h : RowsAt H R as rows) : RowsAt (Zl.dels H [a, b]) R as rows := ⟨dels2 ha hb h.top (fun _ q => nomatch q), h.len, fun i x hx => by
  obtain ⟨ws, h1, h2⟩ := h.row i x hx
  exact ⟨ws, dels2 ha hb h1 (fun _ q => nomatch q), (dels2_imm ha hb).tds h2⟩⟩
theorem DeedsAt.dl2 {H : Hp} {C o R a b : Addr} {as : List Addr} {rows : Rows} {ps1 ps2 : Array Value} (ha : H a = some (.tbl ps1)) (hb : H b = some (.tbl ps2)) (h : DeedsAt H C o R as rows) : DeedsAt (Zl.dels H [a, b]) C o R as rows := ⟨by
  obtain ⟨dx, h⟩ := h.obj
  exact ⟨dx, dels2 ha hb h (fun _ q => nomatch q)⟩, h.rows.dl2 ha hb⟩
theorem cntV_dp {K : PySem.W.Frag} {H : Hp} (rows : Rows) : DpAll K H (cntV rows) ((rows.map fun row => (row.length : Int)).map PyData.int) := dps_int _
theorem Own.call2 {B B1 H H' : Hp} {cs : List (Addr × HO)} {j1 j2 : Nat} {a1 a2 : Addr} {o1 o2 o1' o2' : HO} (O : Own B cs H) (h1 : cs[j1]? = some (a1, o1)) (h2 : cs[j2]? = some (a2, o2)) (hj : j1 ≠ j2) (e : Same (Zl.dels H [a1, a2]) B1) (O' : Own B1 [(a1, o1'), (a2, o2')] H') (m : Zl.Mut cs) (i1 : isImm o1' = false) (i2 : isImm o2' = false) :
    ∃ B', Same B B' ∧ Own B' ((cs.set j1 (a1, o1')).set j2 (a2, o2')) H' ∧ Imm H' B' := by
  have ne : a1 ≠ a2 := O.ne j1 j2 h1 h2 hj
  have O1 : Own B (cs.set j1 (a1, o1')) (upd H a1 o1') := O.set j1 h1
  have h2' : (cs.set j1 (a1, o1'))[j2]? = some (a2, o2) := by rw [List.getElem?_set_ne hj]; exact h2
  have O2 : Own B ((cs.set j1 (a1, o1')).set j2 (a2, o2')) H' := O1.mut j2 h2' (fun b u hb hu => by
    by_cases hb1 : b = a1
    · subst hb1
      rw [upd_same] at hu
      cases hu
      exact O'.have_ _ (.head _)
    · rw [upd_ne hb1] at hu
      refine O'.fr _ _ (e _ _ ?_)
      rw [dels_out (fun q => ?_)]
      · exact hu
      · simp only [List.mem_cons, List.not_mem_nil, or_false] at q
        rcases q with q | q
        · exact hb1 q
        · exact hb q) (O'.have_ (a2, o2') (.tail _ (.head _)))
  exact O2.fix ((m.set _ i1).set _ i2)
/-- cells that stay from now on -/
theorem Own.frz : ∀ {ds cs : List (Addr × HO)} {B H : Hp}, Own B (ds ++ cs) H → ∃ B', Same B B' ∧ Own B' cs H ∧ ∀ c ∈ ds, B' c.1 = some c.2
  | [], cs, B, H, O => ⟨B, Same.refl _, O, fun _ h => nomatch h⟩
  | d :: ds, cs, B, H, O => by
    obtain ⟨B1, e1, h1, O1⟩ := fz (p := d.1) (o := d.2) (cs := ds ++ cs) O
    obtain ⟨B2, e2, O2, h2⟩ := Own.frz O1
    refine ⟨B2, e1.trans e2, O2, fun c hc => ?_⟩
    rcases List.mem_cons.mp hc with rfl | hc
    · exact e2 _ _ h1
    · exact h2 c hc
theorem sql_dels2 {K : PySem.W.Frag} {H : Hp} {a b c : Addr} {ps1 ps2 : Array Value} {xs : List V} (ha : H a = some (.tbl ps1)) (hb : H b = some (.tbl ps2)) (h : SqL K H c xs) : SqL K (Zl.dels H [a, b]) c xs := by
  rcases h with (h | ⟨o, h⟩) | h
  · exact .inl (.inl (dels2 ha hb h (fun _ q => nomatch q)))
  · exact .inl (.inr ⟨o, dels2 ha hb h (fun _ q => nomatch q)⟩)
  · exact .inr h


/-! ### the order of the marks alone -/
abbrev MB := Mk × Option Mk
def posM (row : List Mk) : Option Mk → Nat
  | none => 0
  | some b => row.idxOf b + 1
def insM (row : List Mk) (x : MB) : List Mk := putAt row (posM row x.2) x.1
def placeM (l : List MB) : List Mk := l.foldl insM []
def mbOf (x : FI) : MB := (x.1.1, x.1.2.1)
theorem insB_marks (rem : List Mk) (row : List Cell) (x : FI) : (insB rem row x).map (·.1) = insM (row.map (·.1)) (mbOf x) := by
  unfold insB insM mbOf
  rw [putAt_map]
  congr 1
theorem placeF_marks (rem : List Mk) (l : List FI) : (placeF rem l).map (·.1) = placeM (l.map mbOf) := by
  unfold placeF placeM
  have key : ∀ (l : List FI) (acc : List Cell), (l.foldl (insB rem) acc).map (·.1) = (l.map mbOf).foldl insM (acc.map (·.1)) := by
    intro l
    induction l with
    | nil => intro acc; rfl
    | cons x l ih => intro acc; rw [List.foldl_cons, ih, insB_marks]; rfl
  exact key l []
theorem placeM_snoc (l : List MB) (x : MB) : placeM (l ++ [x]) = insM (placeM l) x := by
  unfold placeM
  rw [List.foldl_append]
  rfl
theorem placeM_perm (l : List MB) : (placeM l).Perm (l.map (·.1)) := by
  have key : ∀ k, (placeM (l.take k)).Perm ((l.take k).map (·.1)) := by
    intro k
    induction k with
    | zero => exact .refl _
    | succ k ih =>
      cases e : l[k]? with
      | none =>
        rw [List.take_add_one, e]
        simpa using ih
      | some x =>
        rw [take_succ_of e, placeM_snoc, List.map_append]
        exact (putAt_perm _ _ _).trans ((List.Perm.cons _ ih).trans (List.perm_append_singleton _ _).symm)
  have := key l.length
  rwa [List.take_length] at this
theorem idx_mid {b : Mk} {C : List Mk} : ∀ {A : List Mk}, b ∉ A → (A ++ b :: C).idxOf b = A.length
  | [], _ => by simp
  | a :: A, h => by
    have h1 : a ≠ b := fun e => h (by rw [e]; exact .head _)
    have h2 := idx_mid (C := C) (A := A) fun hm => h (.tail _ hm)
    show (a :: (A ++ b :: C)).idxOf b = _
    rw [List.idxOf_cons, beq_eq_false_iff_ne.mpr h1, h2]
    rfl
theorem putAt_left {α : Type} {X Y : List α} {p : Nat} {y : α} (h : p ≤ X.length) : putAt (X ++ Y) p y = putAt X p y ++ Y := by
  unfold putAt
  rw [List.take_append_of_le_length h, List.drop_append_of_le_length h]
  simp only [List.append_assoc]
theorem putAt_right {α : Type} {X Y : List α} {p : Nat} {y : α} (h : X.length ≤ p) : putAt (X ++ Y) p y = X ++ putAt Y (p - X.length) y := by
  unfold putAt
  have e1 : (X ++ Y).take p = X ++ Y.take (p - X.length) := by rw [List.take_append, List.take_of_length_le h]
  have e2 : (X ++ Y).drop p = Y.drop (p - X.length) := by rw [List.drop_append, List.drop_of_length_le h, List.nil_append]
  rw [e1, e2]
  simp only [List.append_assoc]
theorem mem_split {b : Mk} {L : List Mk} (h : b ∈ L) : ∃ A C, L = A ++ b :: C ∧ b ∉ A := by
  induction L with
  | nil => exact nomatch h
  | cons a L ih =>
    by_cases e : a = b
    · exact ⟨[], L, by rw [e]; rfl, fun h => nomatch h⟩
    · have hb : b ∈ L := by
        rcases List.mem_cons.mp h with h | h
        · exact absurd h.symm e
        · exact h
      obtain ⟨A, C, e1, e2⟩ := ih hb
      refine ⟨a :: A, C, by rw [e1]; rfl, fun hm => ?_⟩
      rcases List.mem_cons.mp hm with hm | hm
      · exact e hm.symm
      · exact e2 hm
theorem ins_split {A C : List Mk} {b y : Mk} (h : b ∉ A) : insM (A ++ b :: C) (y, some b) = A ++ b :: y :: C := by
  show putAt (A ++ b :: C) ((A ++ b :: C).idxOf b + 1) y = _
  rw [idx_mid h, putAt_right (by omega), Nat.add_sub_cancel_left]
  rfl
theorem filter_put_out {α : Type} {p : α → Bool} {L : List α} {i : Nat} {y : α} (h : p y = false) : (putAt L i y).filter p = L.filter p := by
  unfold putAt
  rw [List.filter_append, List.filter_append, List.filter_cons_of_neg (by rw [h]; exact Bool.false_ne_true), List.filter_nil, List.append_nil, ← List.filter_append, List.take_append_drop]
theorem filter_ins {p : Mk → Bool} {L : List Mk} {x : MB} (hy : p x.1 = true) (hb : ∀ b, x.2 = some b → b ∈ L ∧ p b = true) : (insM L x).filter p = insM (L.filter p) x := by
  obtain ⟨y, bh⟩ := x
  cases bh with
  | none =>
    show (putAt L 0 y).filter p = putAt (L.filter p) 0 y
    unfold putAt
    simp only [List.take_zero, List.drop_zero, List.nil_append]
    show (y :: L).filter p = y :: L.filter p
    rw [List.filter_cons_of_pos hy]
  | some b =>
    obtain ⟨h1, h2⟩ := hb b rfl
    obtain ⟨A, C, rfl, hn⟩ := mem_split h1
    rw [ins_split hn, List.filter_append, List.filter_cons_of_pos h2, List.filter_cons_of_pos hy, List.filter_append, List.filter_cons_of_pos h2, ins_split (fun hm => hn (List.mem_filter.mp hm).1)]
theorem place_filter (p : Mk → Bool) (l : List MB) (h : ∀ i x, l[i]? = some x → p x.1 = true → ∀ b, x.2 = some b → b ∈ (l.take i).map (·.1) ∧ p b = true) : (placeM l).filter p = placeM (l.filter fun x => p x.1) := by
  have key : ∀ k, (placeM (l.take k)).filter p = placeM ((l.take k).filter fun x => p x.1) := by
    intro k
    induction k with
    | zero => rfl
    | succ k ih =>
      cases e : l[k]? with
      | none =>
        rw [List.take_add_one, e]
        simpa using ih
      | some x =>
        rw [take_succ_of e, placeM_snoc, List.filter_append]
        cases hx : p x.1 with
        | false =>
          rw [List.filter_cons_of_neg (p := fun x : MB => p x.1) (a := x) (l := []) (by rw [hx]; exact Bool.false_ne_true), List.filter_nil, List.append_nil, ← ih]
          exact filter_put_out hx
        | true =>
          rw [List.filter_cons_of_pos (p := fun x : MB => p x.1) (a := x) (l := []) hx, List.filter_nil, placeM_snoc, ← ih]
          refine filter_ins hx fun b hb => ?_
          obtain ⟨h1, h2⟩ := h k x e hx b hb
          exact ⟨(placeM_perm _).mem_iff.mpr h1, h2⟩
  have := key l.length
  rwa [List.take_length] at this
/-! two sorted lists of the same -/
def mlt (a b : Mk) : Prop := a.1 < b.1 ∨ (a.1 = b.1 ∧ a.2 < b.2)
theorem mlt_irr (a : Mk) : ¬ mlt a a := by unfold mlt; omega
theorem mlt_asym {a b : Mk} (h : mlt a b) : ¬ mlt b a := by unfold mlt at *; omega
theorem sorted_ext : ∀ {l l' : List MB}, l.Pairwise (fun a b => mlt a.1 b.1) → l'.Pairwise (fun a b => mlt a.1 b.1) → (∀ x, x ∈ l ↔ x ∈ l') → l = l'
  | [], [], _, _, _ => rfl
  | [], b :: l', _, _, h => nomatch (h b).mpr (.head _)
  | a :: l, [], _, _, h => nomatch (h a).mp (.head _)
  | a :: l, b :: l', h1, h2, h => by
    rw [List.pairwise_cons] at h1 h2
    have hab : a = b := by
      rcases List.mem_cons.mp ((h a).mp (.head _)) with e | ha
      · exact e
      · rcases List.mem_cons.mp ((h b).mpr (.head _)) with e | hb
        · exact e.symm
        · exact absurd (h1.1 b hb) (mlt_asym (h2.1 a ha))
    subst hab
    congr 1
    refine sorted_ext h1.2 h2.2 fun x => ?_
    constructor
    · intro hx
      rcases List.mem_cons.mp ((h x).mp (.tail _ hx)) with e | hx'
      · subst e
        exact absurd (h1.1 x hx) (mlt_irr _)
      · exact hx'
    · intro hx
      rcases List.mem_cons.mp ((h x).mpr (.tail _ hx)) with e | hx'
      · subst e
        exact absurd (h2.1 x hx) (mlt_irr _)
      · exact hx'
/-- the sorted marks of a module with what they stand behind -/
def mbs (m : Str) (rows : Rows) : List MB := (sortF (foundOf (chgN m rows 8))).map mbOf
theorem row_marks (m : Str) (rows : Rows) : (rowOf m rows).map (·.1) = placeM (mbs m rows) := placeF_marks _ _
theorem mbs_marks (m : Str) (rows : Rows) : (mbs m rows).map (·.1) = mksF (sortF (foundOf (chgN m rows 8))) := by
  unfold mbs mksF
  rw [List.map_map]
  rfl
theorem mbs_sorted {N : Int} {m : Str} {rows : Rows} (h : ROk N rows) : (mbs m rows).Pairwise fun a b => mlt a.1 b.1 := by
  have h1 := sortF_sorted (foundOf (chgN m rows 8))
  have h2 : (mksF (sortF (foundOf (chgN m rows 8)))).Nodup := ((sortF_perm _).map (fun x : FI => x.1.1)).nodup_iff.mpr (h.nd m)
  unfold mbs
  rw [List.pairwise_map]
  have h3 : (sortF (foundOf (chgN m rows 8))).Pairwise fun a b => a.1.1 ≠ b.1.1 := by
    unfold mksF at h2
    exact List.pairwise_map.mp h2
  refine List.Pairwise.imp (fun {a b} hab => ?_) (h1.and h3)
  have hl := hab.1
  unfold fle mle at hl
  rw [decide_eq_true_eq] at hl
  show mlt a.1.1 b.1.1
  rcases hl with hl | ⟨e, hl⟩
  · exact .inl hl
  · refine .inr ⟨e, ?_⟩
    rcases Int.lt_or_eq_of_le hl with h | h
    · exact h
    · exact absurd (Prod.ext e h) hab.2
theorem mem_mbs {m : Str} {rows : Rows} {x : MB} (h : x ∈ mbs m rows) : ∃ (r : Nat) (rm : List Mk) (bh : Option Mk) (n : Int) (t : List Nat) (i : Nat), r < 8 ∧ Deed.chg m rm bh n t ∈ rowN rows r ∧ i < t.length ∧ x = ((n + (i : Nat), (r : Int)), bhA r n bh i) := by
  obtain ⟨y, hy, rfl⟩ := List.mem_map.mp h
  obtain ⟨r, rm, bh, n, t, i, h1, h2, h3, h4, h5⟩ := mem_found ((sortF_perm _).mem_iff.mp hy)
  exact ⟨r, rm, bh, n, t, i, h1, h2, h3, by unfold mbOf; rw [h4, h5]⟩
theorem mbs_of {m : Str} {rows : Rows} {r : Nat} {rm : List Mk} {bh : Option Mk} {n : Int} {t : List Nat} {i : Nat} (hr : r < 8) (hd : Deed.chg m rm bh n t ∈ rowN rows r) (hi : i < t.length) : ((n + (i : Nat), (r : Int)), bhA r n bh i) ∈ mbs m rows := by
  obtain ⟨j, hj⟩ := List.mem_iff_getElem?.mp hd
  have hjl := (List.getElem?_eq_some_iff.mp hj).1
  have hf : (frc (rowN rows r))[j]? = some ((frc (rowN rows r))[j]'(by rw [frc_len]; exact hjl)) := List.getElem?_eq_getElem _
  refine List.mem_map.mpr ⟨(((n + (i : Nat), (r : Int)), bhA r n bh i, t[i]), (frc (rowN rows r))[j]'(by rw [frc_len]; exact hjl)), (sortF_perm _).mem_iff.mpr ?_, rfl⟩
  refine List.mem_flatMap.mpr ⟨((r : Int), .chg m rm bh n t, (frc (rowN rows r))[j]'(by rw [frc_len]; exact hjl)), ?_, ?_⟩
  · refine List.mem_flatMap.mpr ⟨r, List.mem_range.mpr hr, ?_⟩
    unfold chg1 chgP
    refine List.mem_map.mpr ⟨(.chg m rm bh n t, (frc (rowN rows r))[j]'(by rw [frc_len]; exact hjl)), List.mem_filter.mpr ⟨List.mem_iff_getElem?.mpr ⟨j, (List.getElem?_zip_eq_some).mpr ⟨hj, hf⟩⟩, decide_eq_true rfl⟩, rfl⟩
  · exact List.mem_map.mpr ⟨_, insA_mem (List.getElem?_eq_getElem hi), rfl⟩
theorem mbs_behind {N : Int} {m : Str} {rows : Rows} (h : ROk N rows) (hN : N ≤ 1125899906842624) {i : Nat} {x : MB} (hx : (mbs m rows)[i]? = some x) {b : Mk} (hb : x.2 = some b) : b ∈ ((mbs m rows).take i).map (·.1) := by
  unfold mbs at hx ⊢
  rw [List.getElem?_map] at hx
  cases e : (sortF (foundOf (chgN m rows 8)))[i]? with
  | none => rw [e] at hx; exact nomatch hx
  | some y =>
    rw [e] at hx
    cases hx
    have := (h.rm hN m).fok.bh i y e b hb
    rw [← List.map_take, List.map_map]
    exact this
theorem mbs_uniq {N : Int} {m : Str} {rows : Rows} (h : ROk N rows) {x y : MB} (hx : x ∈ mbs m rows) (hy : y ∈ mbs m rows) (e : x.1 = y.1) : x = y := by
  obtain ⟨i, hi, ei⟩ := List.mem_iff_getElem.mp hx
  obtain ⟨j, hj, ej⟩ := List.mem_iff_getElem.mp hy
  have hs := List.pairwise_iff_getElem.mp (mbs_sorted (m := m) h)
  rcases Nat.lt_trichotomy i j with hij | hij | hij
  · have := hs i j hi hj hij
    rw [ei, ej, e] at this
    exact absurd this (mlt_irr _)
  · subst hij
    rw [← ei, ← ej]
  · have := hs j i hj hi hij
    rw [ei, ej, e] at this
    exact absurd this (mlt_irr _)
/-- no further deed moves a character -/
theorem row_stays {N N0 : Int} {rows rows0 : Rows} (h : ROk N rows) (hN : N ≤ 1125899906842624) (h0 : ROk N0 rows0) (hN0 : N0 ≤ 1125899906842624) (s : SubR rows0 rows) (m : Str) :
    ((rowOf m rows).map (·.1)).filter (fun k => ((rowOf m rows0).map (·.1)).contains k) = (rowOf m rows0).map (·.1) := by
  rw [row_marks, row_marks]
  have hsub : ∀ x ∈ mbs m rows0, x ∈ mbs m rows := fun x hx => by
    obtain ⟨r, rm, bh, n, t, i, h1, h2, h3, rfl⟩ := mem_mbs hx
    exact mbs_of h1 (s r _ h2) h3
  have hmem : ∀ k : Mk, (placeM (mbs m rows0)).contains k = true ↔ k ∈ (mbs m rows0).map (·.1) := fun k => by
    rw [List.contains_iff_mem]
    exact (placeM_perm _).mem_iff
  have hin : ∀ x ∈ mbs m rows, (placeM (mbs m rows0)).contains x.1 = true → x ∈ mbs m rows0 := fun x hx hp => by
    obtain ⟨y, hy, e⟩ := List.mem_map.mp ((hmem _).mp hp)
    have := mbs_uniq h (hsub y hy) hx e
    rw [← this]
    exact hy
  have hf : (mbs m rows).filter (fun x => (placeM (mbs m rows0)).contains x.1) = mbs m rows0 := by
    refine sorted_ext ((mbs_sorted h).filter _) (mbs_sorted h0) fun x => ?_
    rw [List.mem_filter]
    constructor
    · rintro ⟨hx, hp⟩
      exact hin x hx hp
    · intro hx
      exact ⟨hsub x hx, (hmem _).mpr (List.mem_map.mpr ⟨x, hx, rfl⟩)⟩
  rw [place_filter _ _ fun i x hx hp b hb => ?_]
  · rw [hf]
  · refine ⟨mbs_behind h hN hx hb, (hmem _).mpr ?_⟩
    obtain ⟨j, hj⟩ := List.mem_iff_getElem?.mp (hin x (List.mem_of_getElem? hx) hp)
    have := mbs_behind h0 hN0 hj hb
    obtain ⟨z, hz, e⟩ := List.mem_map.mp this
    exact List.mem_map.mpr ⟨z, List.mem_of_mem_take hz, e⟩
/-! between a character and the one behind which it stands -/
def Btw (R : List Mk) (x : MB) : Prop := ∃ A M C, R = A ++ (M ++ x.1 :: C) ∧ (x.2 = none → A = []) ∧ (∀ b, x.2 = some b → ∃ A', A = A' ++ [b]) ∧ ∀ z ∈ M, mlt x.1 z
theorem putAt_cons {α : Type} {c y : α} {C : List α} {p : Nat} (h : 1 ≤ p) : putAt (c :: C) p y = c :: putAt C (p - 1) y := by
  obtain ⟨q, rfl⟩ : ∃ q, p = q + 1 := ⟨p - 1, by omega⟩
  rfl
theorem btw_put {R : List Mk} {x : MB} {y : Mk} (h : Btw R x) (hy : mlt x.1 y) (p : Nat) : Btw (putAt R p y) x := by
  obtain ⟨A, M, C, rfl, h1, h2, h3⟩ := h
  by_cases hp : p < A.length
  · cases e : x.2 with
    | none => rw [h1 e] at hp; exact absurd hp (Nat.not_lt_zero _)
    | some b =>
      obtain ⟨A', rfl⟩ := h2 b e
      rw [List.length_append] at hp
      have hp' : p ≤ A'.length := by
        have : [b].length = 1 := rfl
        omega
      refine ⟨putAt A' p y ++ [b], M, C, ?_, fun q => ?_, fun b' hb' => ?_, h3⟩
      · rw [putAt_left (by rw [List.length_append]; omega), putAt_left hp']
      · exact nomatch (e.symm.trans q)
      · have : b = b' := Option.some.inj (e.symm.trans hb')
        rw [← this]
        exact ⟨_, rfl⟩
  · rw [putAt_right (by omega)]
    by_cases hq : p - A.length ≤ M.length
    · refine ⟨A, putAt M (p - A.length) y, C, by rw [putAt_left hq], h1, h2, fun z hz => ?_⟩
      rcases List.mem_cons.mp ((putAt_perm _ _ _).mem_iff.mp hz) with rfl | hz
      · exact hy
      · exact h3 z hz
    · refine ⟨A, M, putAt C (p - A.length - M.length - 1) y, ?_, h1, h2, h3⟩
      rw [putAt_right (by omega), putAt_cons (by omega)]
theorem btw_new {R : List Mk} {x : MB} (hb : ∀ b, x.2 = some b → b ∈ R) : Btw (insM R x) x := by
  obtain ⟨y, bh⟩ := x
  cases bh with
  | none => exact ⟨[], [], R, rfl, fun _ => rfl, fun b h => (nomatch h), fun z h => (nomatch h)⟩
  | some b =>
    obtain ⟨A, C, rfl, hn⟩ := mem_split (hb b rfl)
    rw [ins_split hn]
    refine ⟨A ++ [b], [], C, ?_, fun h => (nomatch h), fun b' h => ⟨A, by cases h; rfl⟩, fun z h => (nomatch h)⟩
    rw [List.append_assoc]
    rfl
theorem btw_all (l : List MB) (hs : l.Pairwise fun a b => mlt a.1 b.1) (hb : ∀ i x, l[i]? = some x → ∀ b, x.2 = some b → b ∈ (l.take i).map (·.1)) : ∀ x ∈ l, Btw (placeM l) x := by
  have key : ∀ k, ∀ x ∈ l.take k, Btw (placeM (l.take k)) x := by
    intro k
    induction k with
    | zero => intro x hx; rw [List.take_zero] at hx; exact nomatch hx
    | succ k ih =>
      intro x hx
      cases e : l[k]? with
      | none =>
        rw [List.take_add_one, e] at hx ⊢
        simp only [Option.toList_none, List.append_nil] at hx ⊢
        exact ih x hx
      | some y =>
        rw [take_succ_of e] at hx ⊢
        rw [placeM_snoc]
        rcases List.mem_append.mp hx with hx | hx
        · refine btw_put (ih x hx) ?_ _
          obtain ⟨i, hi⟩ := List.mem_iff_getElem?.mp hx
          have hil := (List.getElem?_eq_some_iff.mp hi).1
          rw [List.length_take] at hil
          have hi2 : l[i]? = some x := by
            rw [List.getElem?_take_of_lt (by omega)] at hi
            exact hi
          obtain ⟨a1, a2⟩ := List.getElem?_eq_some_iff.mp hi2
          obtain ⟨b1, b2⟩ := List.getElem?_eq_some_iff.mp e
          have := List.pairwise_iff_getElem.mp hs i k a1 b1 (by omega)
          rw [a2, b2] at this
          exact this
        · rw [List.mem_singleton.mp hx]
          exact btw_new fun b h => (placeM_perm _).mem_iff.mpr (hb k y e b h)
  intro x hx
  have := key l.length x (by rw [List.take_length]; exact hx)
  rwa [List.take_length] at this
theorem row_btw {N : Int} {rows : Rows} (h : ROk N rows) (hN : N ≤ 1125899906842624) (m : Str) {x : MB} (hx : x ∈ mbs m rows) : Btw ((rowOf m rows).map (·.1)) x := by
  rw [row_marks]
  exact btw_all _ (mbs_sorted h) (fun i y hy b hb => mbs_behind h hN hy hb) x hx
theorem row_nd {N : Int} {rows : Rows} (h : ROk N rows) (m : Str) : ((rowOf m rows).map (·.1)).Nodup := by
  rw [row_marks]
  refine (placeM_perm _).nodup_iff.mpr ?_
  rw [mbs_marks]
  exact ((sortF_perm _).map (fun x : FI => x.1.1)).nodup_iff.mpr (h.nd m)


def sp_lmarks (C P : Addr) : Sp := fun vs H Q _ => ∃ (o R : Addr) (as : List Addr) (rows : Rows) (m : Str) (N : Int) (ps : Array Value), vs = [.ref o, .str m] ∧ DeedsAt H C o R as rows ∧ ROk N rows ∧ N ≤ 1125899906842624 ∧ H P = some (.tbl ps) ∧ TabI H (qLam "Deeds.row") ps ∧
  ∀ (B' : Hp) (p : Addr) (ws : List V) (ps' : Array Value) (H' : Hp), Same (Zl.dels H [P]) B' → Own B' [(p, .lst ws), (P, .tbl ps')] H' → TabI B' (qLam "Deeds.row") ps' → TdAll B' ws (((rowOf m rows).map (·.1)).map kzD) → Q (.ref p) H'
theorem td_R {H : Hp} {v : V} {c : Cell} (h : Td H v (encR c)) : ∃ a m, v = .ref a ∧ H a = some (.tup [.ref m, .str (S [c.2.1]), .bl c.2.2]) ∧ H m = some (.tup [.int c.1.1, .int c.1.2]) := by
  cases h with
  | tup h1 h2 =>
    cases h2 with
    | cons x1 h2 => cases h2 with
      | cons x2 h2 => cases h2 with
        | cons x3 h2 =>
          cases h2
          cases x2
          cases x3
          obtain ⟨m, rfl, hm⟩ := td_kzs x1
          exact ⟨_, m, rfl, h1, hm⟩

theorem ok__law_marks (T : Txt K mg base) : FnOk P w K mg base CX0 4 T.a__law_marks T.d__law_marks P__law_marks (sp_lmarks T.a_Deeds T.ta_Deeds_row) := by
  refine T.F__law_marks.ok sc__law_marks (fun vs H Q E h => ?_) (fun cdv A outer s H vs Q E hr h => ?_)
  · obtain ⟨o, R, as, rows, m, N, ps, rfl, _⟩ := h
    rfl
  · obtain ⟨o, R, as, rows, m, N, ps, rfl, hD, hok, hN, hP, hI, q⟩ := h
    refine ⟨_, (pss_cons (ps_set (i := 2) sc__law_marks.nd rfl (Or.inl rfl) (pe_meth (pv 0) T.cl_Deeds T.m_Deeds_row (ok_Deeds_row T) (hr.mono (by omega)) T.b_Deeds_row .nil pass0 (pa_cons (pv 1) pa_nil)))
        (pss_cons (ps_if (pt_not (pt_val (pe_callB call_isiU (by rfl) T.z_isinstance (by decide +kernel) (pa_cons (pv 2) (pa_cons (pe_bltn (v := .ty "list") (by rfl) T.z_list (by decide +kernel) rfl) pa_nil)))))
          (pss_one (ps_ret pe_non))
          pss_nil)
        (pss_cons (ps_set (i := 3) sc__law_marks.nd rfl (Or.inl rfl) (pe_lst pa_nil))
        (pss_cons (ps_for PassesOwn.never rfl (pi_list (pv 2)) (pg_name (i := 4) sc__law_marks.nd rfl (Or.inl rfl))
          (pss_cons (ps_if (PW.pt (pw_or (pt_not (pt_val (pe_callB call_isiU (by rfl) T.z_isinstance (by decide +kernel) (pa_cons (pv 4) (pa_cons (pe_bltn (v := .ty "tuple") (by rfl) T.z_tuple (by decide +kernel) rfl) pa_nil))))) (pw_or (pt_cmpR (op_neU (hu64 hr)) (pe_callB call_lenU (by rfl) T.z_len PySem.boot_len (pa_cons (pv 4) pa_nil)) pe_int (nomark _)) (pw_or1 (pt_cmpR (op_inU (hu65 hr)) (pe_ix ix_seq (pv 4) pe_int (fun _ _ => rfl)) (pv 3) (by rfl))))))
          (pss_one (ps_ret pe_non))
          pss_nil)
        (pss_one (ps_expr (pe_bm PySem.F.plainAttrs_list PySem.F.slot_list_append PySem.F.type_list_append mt_append (pv 3) (pa_cons (pe_ix ix_seq (pv 4) pe_int (fun _ _ => rfl)) pa_nil))))))
        (pss_one (ps_ret (pv 3))))))), ?_⟩
    have hI := (dels1_imm hP rfl).tab hI
    have hD := hD.dels hP
    obtain ⟨dx, ho⟩ := hD.obj
    have O := Own.arg1 hP
    have hrl := row_len m hok hN
    walk_at "z"
    refine g_methK (O.fr _ _ ho) (dfl_n R (by decide +kernel)) ?_
    walk_at "z"
    refine ⟨o, R, as, rows, m, ps, rfl, hD.ex O.fr, hok.sz, hok.rm hN m, hP, hI.ex O.fr, fun B1 p ws ps' H1 e1 O1 hJ hT => ?_⟩
    obtain ⟨B2, e2, O, im⟩ := O.callM (j := 0) (ds := [(p, .lst ws)]) rfl e1 O1 (.cons rfl .nil) (.cons rfl .nil) rfl
    have hI := im.tab (hJ.ex O1.fr)
    have hT := im.tds (tds_ex O1.fr hT)
    clear O1 e1 im hJ
    have O : Own B2 [(p, .lst ws), (T.ta_Deeds_row, .tbl ps')] H1 := O
    obtain ⟨B3, e3, hp, O⟩ := fz O
    have hT := tds_ex e3 hT
    have hI := hI.ex e3
    have hwl := tds_len hT
    rw [List.length_map] at hwl
    walk_at "z"
    refine g_isi (b := true) (.lst (K := _) (.inl (.inl (O.fr _ _ hp))) (tds_dp (tds_ex O.fr hT))) rfl ?_
    walk_at "z"
    refine iteF ?_
    walk_at "z"
    refine g_new (Nat.zero_le _) O fun mp H2 nmp O => ?_
    walk_at "z"
    refine g_iListv (.inl (.inl (O.fr _ _ hp))) ?_
    refine forB_list ws (fun i σ H' => ∃ (zs : List V) (x4 : Option V), σ = [some (.ref o), some (.str m), some (.ref p), some (.ref mp), x4] ∧ Own B3 [(mp, .lst zs), (T.ta_Deeds_row, .tbl ps')] H' ∧ TdAll B3 zs ((((rowOf m rows).map (·.1)).take i).map kzD)) ?_ ?_ ?_ ?_
    · exact ⟨[], _, rfl, O, .nil⟩
    · rintro i σ H' _ ⟨zs, x4, rfl, O, _⟩
      exact .inl (.inl (O.fr _ _ hp))
    · clear O
      rintro i v σ H3 hv ⟨zs, x4, rfl, O, hzs⟩
      obtain ⟨c, hc, hTc⟩ := tds_at' hT hv
      have hTd : Dp K H3 v (encR c) := td_dp (td_ex O.fr hTc)
      obtain ⟨a, mk, rfl, ha, hmk⟩ := td_R hTc
      have hci : ((rowOf m rows).map (·.1))[i]? = some c.1 := by rw [List.getElem?_map, hc]; rfl
      have hzl := tds_len hzs
      rw [List.length_map, List.length_take, List.length_map] at hzl
      walk_at "z"
      refine g_isi (b := true) hTd rfl ?_
      walk_at "z"
      refine iteF ?_
      walk_at "z"
      refine g_lenT (.inl (.inl (O.fr _ _ ha))) ?_
      walk_at "z"
      refine ite_nd (fun h => absurd rfl h) (fun _ => ?_)
      walk_at "z"
      refine g_ixT (.inl (.inl (O.fr _ _ ha))) (atI_nat (j := 0) rfl) ?_
      walk_at "z"
      refine g_inK (O.lst 0) (tds_ex O.fr hzs) (td_kz (O.fr _ _ hmk)) ?_
      have hnot : (((rowOf m rows).map (·.1)).take i).contains c.1 = false := by
        rw [← Bool.not_eq_true, List.contains_iff_mem]
        intro hm
        have hnd := row_nd hok m
        rw [← List.take_append_drop i ((rowOf m rows).map (·.1))] at hnd
        have h4 : c.1 ∈ ((rowOf m rows).map (·.1)).drop i := List.mem_iff_getElem?.mpr ⟨0, by rw [List.getElem?_drop]; exact hci⟩
        exact (List.nodup_append.mp hnd).2.2 _ hm _ h4 rfl
      rw [hnot]
      walk_at "z"
      refine iteF ?_
      walk_at "z"
      refine g_tyL (O.lst 0) ?_
      walk_at "z"
      refine g_ixT (.inl (.inl (O.fr _ _ ha))) (atI_nat (j := 0) rfl) ?_
      walk_at "z"
      refine g_append O 0 rfl (small_of (by omega)) fun H4 O => ?_
      refine ⟨_, _, rfl, O, ?_⟩
      rw [take_succ_of hci, List.map_append]
      exact tds_snoc hzs (td_kz hmk)
    · clear O
      rintro σ H3 ⟨zs, x4, rfl, O, hzs⟩
      rw [List.take_of_length_le (by rw [List.length_map]; omega)] at hzs
      walk_at "z"
      exact q B3 mp zs ps' H3 (e2.trans e3) O hI hzs
def sp_lstands (K : PySem.W.Frag) : Sp := fun vs H Q _ => ∃ (R p : Addr) (as : List Addr) (rows : Rows) (m : Str) (N : Int) (ws : List V), vs = [.ref R, .str m, .ref p] ∧ RowsAt H R as rows ∧ ROk N rows ∧ N ≤ 1125899906842624 ∧ H p = some (.lst ws) ∧ TdAll H ws (((rowOf m rows).map (·.1)).map kzD) ∧
  ∀ H', Same H H' → Q (.bl true) H'
theorem tds_dropE {α : Type} {f : α → PyData} {H : Hp} {ws : List V} {l : List α} (n : Nat) (h : TdAll H ws (l.map f)) : TdAll H (ws.drop n) ((l.drop n).map f) := by
  rw [List.map_drop]
  exact tds_drop n h

theorem ok__law_stands (T : Txt K mg base) : FnOk P w K mg base CX0 3 T.a__law_stands T.d__law_stands P__law_stands (sp_lstands K) := by
  refine T.F__law_stands.ok sc__law_stands (fun vs H Q E h => ?_) (fun cdv A outer s H vs Q E hr h => ?_)
  · obtain ⟨R, p, as, rows, m, N, ws, rfl, _⟩ := h
    rfl
  · obtain ⟨R, p, as, rows, m, N, ws, rfl, hR, hok, hN, hp, hT, q⟩ := h
    refine ⟨_, (pss_cons (ps_set (i := 3) sc__law_stands.nd rfl (Or.inl rfl) pe_int)
        (pss_cons (ps_for PassesOwn.never rfl (pi_list (pe_call (ok__law_changes T) (hr.mono (by omega)) (by rfl) T.g__law_changes T.F__law_changes.kp T.b__law_changes .nil pass0 (pa_cons (pv 0) (pa_cons (pv 1) pa_nil)))) (pg_tup rfl (pgs_cons (pg_name (i := 4) sc__law_stands.nd rfl (Or.inl rfl)) (pgs_cons (pg_name (i := 5) sc__law_stands.nd rfl (Or.inl rfl)) (pgs_cons (pg_name (i := 6) sc__law_stands.nd rfl (Or.inl rfl)) pgs_nil))))
          (pss_one (ps_for PassesOwn.never rfl (pi_list (pe_call (ok__law_inserted T) (hr.mono (by omega)) (by rfl) T.g__law_inserted T.F__law_inserted.kp T.b__law_inserted .nil pass0 (pa_cons (pv 4) (pa_cons (pv 5) pa_nil)))) (pg_tup rfl (pgs_cons (pg_name (i := 7) sc__law_stands.nd rfl (Or.inr rfl)) (pgs_cons (pg_name (i := 8) sc__law_stands.nd rfl (Or.inl rfl)) (pgs_cons (pg_name (i := 9) sc__law_stands.nd rfl (Or.inl rfl)) pgs_nil))))
          (pss_cons (ps_set (i := 3) sc__law_stands.nd rfl (Or.inl rfl) (pe_op op_addU (pv 3) pe_int))
        (pss_cons (ps_if (pt_cmpR (op_notInU (hu65 hr)) (pv 7) (pv 2) (by rfl))
          (pss_one (ps_ret pe_bl))
          pss_nil)
        (pss_cons (ps_set (i := 10) sc__law_stands.nd rfl (Or.inl rfl) pe_int)
        (Evl.pss_cut (ps_if (pt_cmpR op_notNU (pv 8) pe_non (nomark _))
          (pss_cons (ps_if (pt_cmpR (op_notInU (hu65 hr)) (pv 8) (pv 2) (by rfl))
          (pss_one (ps_ret pe_bl))
          pss_nil)
        (pss_one (ps_set (i := 10) sc__law_stands.nd rfl (Or.inl rfl) (pe_op op_addU (pe_bm PySem.F.plainAttrs_list PySem.F.slot_list_index PySem.F.type_list_index (mt_indexD (hu65 hr)) (pv 2) (pa_cons (pv 8) pa_nil)) pe_int))))
          pss_nil)
        (pss_cons (ps_set (i := 11) sc__law_stands.nd rfl (Or.inl rfl) (pe_bm PySem.F.plainAttrs_list PySem.F.slot_list_index PySem.F.type_list_index (mt_indexD (hu65 hr)) (pv 2) (pa_cons (pv 7) pa_nil)))
        (pss_one (ps_if (PW.pt (pw_or (pt_cmpR op_gt (pv 10) (pv 11) (nomark _)) (pw_or1 (pt_cmpR op_gt (pe_callB call_lenU (by rfl) T.z_len PySem.boot_len (pa_cons (pe_lc (own := [("other", 12)]) rfl sc__law_stands.nd (pi_list (pe_slice sl_U (pv 2) (po_some (pv 10)) (po_some (pv 11)))) (blkOk_by (own := [("other", 12)]) (N := N__law_stands) (sc := defScope s__law_stands) (by decide +kernel)) (fun _ _ _ _ _ => (pg_name (i := 12) sc__law_stands.nd rfl (Or.inl rfl))) (fun _ _ _ _ _ => (pts_one (pt_cmpR (show OpR _ _ (rLtT K) from (op_ltT hr.units0)) (pv 12) (pv 7) (nomark _)))) (fun _ _ _ _ _ => (pv 12))) pa_nil)) pe_int (nomark _)))))
          (pss_one (ps_ret pe_bl))
          pss_nil))))))))))
        (pss_one (ps_ret (pe_cmpR (op_eqU (hu64 hr)) (pe_callB call_lenU (by rfl) T.z_len PySem.boot_len (pa_cons (pv 2) pa_nil)) (pv 3) (nomark _)))))), ?_⟩
    have hrl := row_len m hok hN
    have hwl := tds_len hT
    rw [List.length_map, List.length_map] at hwl
    have hrm := hok.rm hN m
    have hz := hok.sz
    walk_at "z"
    refine ⟨R, as, rows, m, rfl, hR, hz, hok.lay, fun B1 pc cw H1 e1 O1 hTc => ?_⟩
    obtain ⟨B, e2, O, im⟩ := (Own.start H).call e1 O1 .nil (.cons rfl .nil)
    have hTc := im.tds (tds_ex O1.fr hTc)
    clear O1 e1 im
    have O : Own B [(pc, .lst cw)] H1 := O
    obtain ⟨B0, e3, hpc, O⟩ := fz O
    have e0 := e2.trans e3
    have hTc := tds_ex e3 hTc
    have hp := e0 _ _ hp
    have hT := tds_ex e0 hT
    have hcl := tds_len hTc
    rw [List.length_map] at hcl
    have hmem : ∀ c ∈ chgN m rows 8, ∀ x ∈ items1 c, mbOf x ∈ mbs m rows := fun c hc x hx => List.mem_map.mpr ⟨x, (sortF_perm _).mem_iff.mpr (List.mem_flatMap.mpr ⟨c, hc, hx⟩), rfl⟩
    have hbtw : ∀ x ∈ mbs m rows, Btw ((rowOf m rows).map (·.1)) x := fun x hx => row_btw hok hN m hx
    have hnd := row_nd hok m
    have hlenR : ((rowOf m rows).map (·.1)).length = (foundOf (chgN m rows 8)).length := by
      rw [List.length_map]
      unfold rowOf
      rw [place_len, (sortF_perm _).length_eq]
    generalize hmks : (rowOf m rows).map (·.1) = mks at *
    have hmkl : mks.length = ws.length := by rw [← hmks, List.length_map]; exact hwl.symm
    have hwl2 : ws.length ≤ 160000 := by omega
    have hcm := fun c hc => chgN_mem (m := m) (rows := rows) (k := 8) (c := c) hc
    have hcok := hrm.ok
    generalize hcs : chgN m rows 8 = cs at *
    refine g_iListv (.inl (.inl (O.fr _ _ hpc))) ?_
    refine forB_list cw (fun i σ H' => ∃ (B' : Hp) (x4 x5 x6 x7 x8 x9 x10 x11 : Option V), σ = [some (.ref R), some (.str m), some (.ref p), some (.int ((foundOf (cs.take i)).length : Nat)), x4, x5, x6, x7, x8, x9, x10, x11, none] ∧ Same B0 B' ∧ Own B' [] H') ?_ ?_ ?_ ?_
    · exact ⟨B0, _, _, _, _, _, _, _, _, rfl, Same.refl _, O⟩
    · rintro i σ H' _ ⟨B', x4, x5, x6, x7, x8, x9, x10, x11, rfl, eB, O⟩
      exact .inl (.inl (O.fr _ _ (eB _ _ hpc)))
    · clear O
      rintro i v σ H2 hv ⟨B, x4, x5, x6, x7, x8, x9, x10, x11, rfl, eB, O⟩
      obtain ⟨c, hc, hTcc⟩ := tds_at' (tds_ex eB hTc) hv
      have hcmem : c ∈ cs := List.mem_of_getElem? hc
      obtain ⟨r0, _, hr0, _, hisM⟩ := hcm c hcmem
      have hok1 := hcok c hcmem
      have hitems := hmem c hcmem
      obtain ⟨r, d, f⟩ := c
      obtain ⟨rm0, bh, n, t, rfl⟩ := isM_chg hisM
      obtain ⟨htl, hrl, _⟩ := hok1
      obtain ⟨a, vd, rfl, ha, hvd⟩ := td_C3 hTcc
      rw [take_succ_of hc, foundOf_snoc]
      refine g_gtup (.inl (.inl (O.fr _ _ ha))) rfl ?_
      walk_at "z"
      refine ⟨vd, r, m, rm0, bh, n, t, rfl, td_ex O.fr hvd, by omega, fun B4 p4 ws4 H5 e4 O4 hT4 => ?_⟩
      obtain ⟨B5, e5, O, im⟩ := O.call e4 O4 .nil (.cons rfl .nil)
      have hT4 := im.tds (tds_ex O4.fr hT4)
      have O : Own B5 [(p4, .lst ws4)] H5 := O
      obtain ⟨B6, e6, hp4, O⟩ := fz O
      have hT4 := tds_ex e6 hT4
      clear O4 e4 im
      have e06 := (eB.trans e5).trans e6
      have hl4 := tds_len hT4
      rw [List.length_map, insA_len] at hl4
      refine g_iListv (.inl (.inl (O.fr _ _ hp4))) ?_
      refine forB_list ws4 (fun k σ H' => ∃ (x7 x8 x9 x10 x11 : Option V), σ = [some (.ref R), some (.str m), some (.ref p), some (.int (((foundOf (cs.take i)).length + k : Nat) : Int)), some (.int r), some vd, some (.bl f), x7, x8, x9, x10, x11, none] ∧ Own B6 [] H') ?_ ?_ ?_ ?_
      · exact ⟨_, _, _, _, _, rfl, O⟩
      · rintro k σ H6 _ ⟨x7, x8, x9, x10, x11, rfl, O⟩
        exact .inl (.inl (O.fr _ _ hp4))
      · clear O
        rintro k v4 σ H6 hv4 ⟨x7, x8, x9, x10, x11, rfl, O⟩
        obtain ⟨x, hx, hTx⟩ := tds_at' hT4 hv4
        obtain ⟨a4, mk, vb, rfl, ha4, hmk, hvb⟩ := td_I hTx
        have hxm : (x.1, x.2.1) ∈ mbs m rows := hitems (x, f) (List.mem_map.mpr ⟨x, List.mem_of_getElem? hx, rfl⟩)
        obtain ⟨A, M, C, hL, hA0, hA1, hM⟩ := hbtw _ hxm
        have hin : x.1 ∈ mks := by rw [hL]; exact List.mem_append.mpr (.inr (List.mem_append.mpr (.inr (.head _))))
        have hp6 := e06 _ _ hp
        have hT6 := tds_ex e06 hT
        refine g_gtup (.inl (.inl (O.fr _ _ ha4))) rfl ?_
        walk_at "z"
        refine g_notInK (.inl (.inl (O.fr _ _ hp6))) (tds_ex O.fr hT6) (td_kz (O.fr _ _ hmk)) ?_
        rw [List.contains_iff_mem.mpr hin]
        walk_at "z"
        refine iteF ?_
        walk_at "z"
        refine ⟨fun σ H' => σ = [some (.ref R), some (.str m), some (.ref p), some (.int (((foundOf (cs.take i)).length + k : Nat) + 1 : Int)), some (.int r), some vd, some (.bl f), some (.ref mk), some vb, some (.str (S [x.2.2])), some (.int (A.length : Nat)), x11, none] ∧ Own B6 [] H', ?_, ?_⟩
        · walk_at "z"
          rcases encO_non hvb with ⟨hbn, rfl⟩ | ⟨b, hbs, hTb, hne⟩
          · refine ite_nd (fun h => absurd rfl h) (fun _ => ?_)
            exact ⟨by rw [hA0 hbn]; rfl, O⟩
          · refine ite_nd (fun _ => ?_) (fun h => absurd h hne)
            obtain ⟨A', hA'⟩ := hA1 b hbs
            have hbin : b ∈ mks := by rw [hL, hA']; exact List.mem_append.mpr (.inl (List.mem_append.mpr (.inr (.head _))))
            have hidx : mks.idxOf b + 1 = A.length := by
              have hL2 : mks = A' ++ b :: (M ++ x.1 :: C) := by rw [hL, hA', List.append_assoc]; rfl
              have hbn : b ∉ A' := fun hm => by
                rw [hL2] at hnd
                exact (List.nodup_append.mp hnd).2.2 _ hm _ (.head _) rfl
              rw [hL2, idx_mid hbn, hA', List.length_append]
              rfl
            walk_at "z"
            refine g_notInK (.inl (.inl (O.fr _ _ hp6))) (tds_ex O.fr hT6) (td_ex O.fr hTb) ?_
            rw [List.contains_iff_mem.mpr hbin]
            walk_at "z"
            refine iteF ?_
            walk_at "z"
            refine g_tyL (.inl (.inl (O.fr _ _ hp6))) ?_
            walk_at "z"
            refine g_idxK (.inl (.inl (O.fr _ _ hp6))) (tds_ex O.fr hT6) (td_ex O.fr hTb) hbin ?_
            walk_at "z"
            rw [show ((mks.idxOf b : Nat) : Int) + 1 = ((A.length : Nat) : Int) by omega]
            exact ⟨rfl, O⟩
        · clear O
          rintro σ H7 ⟨rfl, O⟩
          have hxA : x.1 ∉ A ++ M := fun hm => by
            rw [hL, ← List.append_assoc] at hnd
            exact (List.nodup_append.mp hnd).2.2 _ hm _ (.head _) rfl
          have hidx : mks.idxOf x.1 = A.length + M.length := by
            rw [hL, ← List.append_assoc, idx_mid hxA, List.length_append]
          walk_at "z"
          refine g_tyL (.inl (.inl (O.fr _ _ hp6))) ?_
          walk_at "z"
          refine g_idxK (.inl (.inl (O.fr _ _ hp6))) (tds_ex O.fr hT6) (td_kz (O.fr _ _ hmk)) hin ?_
          rw [hidx]
          walk_at "z"
          refine ite_d (fun h => absurd h (by omega)) (fun _ => ?_)
          walk_at "z"
          refine g_slL (.inl (.inl (O.fr _ _ hp6))) ?_
          rw [cut_mid, Nat.add_sub_cancel_left]
          refine g_newQ O fun ls H8 nls O => ?_
          have hsl : TdAll B6 ((ws.drop A.length).take M.length) (M.map kzD) := by
            have := tds_takeE (f := kzD) M.length (tds_dropE (f := kzD) A.length hT6)
            have e : (mks.drop A.length).take M.length = M := by
              rw [hL, List.drop_left, List.take_left]
            rwa [e] at this
          have hsll := tds_len hsl
          rw [List.length_map] at hsll
          refine g_iListv (O.lst 0) ?_
          refine lcB_list ((ws.drop A.length).take M.length) (fun D j H' => Own B6 [(D, .lst []), (ls, .lst ((ws.drop A.length).take M.length))] H') ?_ ?_ ?_ ?_
          · intro D nD
            exact O.alloc nD
          · intro D j H' _ O
            exact O.lst 1
          · clear O
            intro D j v9 H9 hv9 O
            obtain ⟨z, hz2, hTz⟩ := tds_at' hsl hv9
            obtain ⟨az, rfl, haz⟩ := td_kzs hTz
            have hlt := hM z (List.mem_of_getElem? hz2)
            have hll : HT.lexLt [z.1, z.2] [x.1.1, x.1.2] = false := by
              have hlt : x.1.1 < z.1 ∨ (x.1.1 = z.1 ∧ x.1.2 < z.2) := hlt
              rw [HT.lexLt_cons]
              split
              · rw [HT.lexLt_cons]
                split
                · rfl
                · exact decide_eq_false (by omega)
              · exact decide_eq_false (by omega)
            walk_at "z"
            refine ⟨az, mk, [z.1, z.2], [x.1.1, x.1.2], rfl, rfl, .inl (.inl (O.fr _ _ haz)), .inl (.inl (O.fr _ _ hmk)), ?_⟩
            rw [hll]
            walk_at "z"
            refine iteF ?_
            exact O
          · clear O
            intro D H9 nD O
            walk_at "z"
            refine g_lenL (O.lst 0) ?_
            walk_at "z"
            refine ite_d (fun h => absurd h (by simp)) (fun _ => ?_)
            exact ⟨_, _, _, _, _, rfl, O.tail.tail⟩
      · clear O
        rintro σ H6 ⟨x7, x8, x9, x10, x11, rfl, O⟩
        have e1 : (items1 (r, Deed.chg m rm0 bh n t, f)).length = ws4.length := by
          show ((insA r n bh t).map fun x => (x, f)).length = _
          rw [List.length_map, insA_len, hl4]
        rw [List.length_append, e1]
        exact ⟨B6, _, _, _, _, _, _, _, _, rfl, e06, O⟩
    · clear O
      rintro σ H2 ⟨B, x4, x5, x6, x7, x8, x9, x10, x11, rfl, eB, O⟩
      rw [hcl, List.take_length]
      walk_at "z"
      refine g_lenL (.inl (.inl (O.fr _ _ (eB _ _ hp)))) ?_
      walk_at "z"
      rw [decide_eq_true (show ((ws.length : Nat) : Int) = (((foundOf cs).length : Nat) : Int) by omega)]
      exact q H2 ((e0.trans eB).trans O.fr)

/-! ### added in a drawn order -/
def lens (rows : Rows) : Nat := (rows.map List.length).sum
theorem sum_set : ∀ {l : List Nat} {i x y : Nat}, l[i]? = some y → (l.set i x).sum + y = l.sum + x
  | [], i, x, y, h => by simp at h
  | a :: l, 0, x, y, h => by
    simp at h
    subst h
    show (x :: l).sum + a = (a :: l).sum + x
    rw [List.sum_cons, List.sum_cons]
    omega
  | a :: l, i + 1, x, y, h => by
    have := sum_set (l := l) (i := i) (x := x) (by simpa using h)
    show (a :: l.set i x).sum + y = (a :: l).sum + x
    rw [List.sum_cons, List.sum_cons]
    omega
theorem sum_pos_of : ∀ {l : List Nat}, 0 < l.sum → ∃ (i : Nat) (x : Nat), l[i]? = some x ∧ 0 < x
  | [], h => by simp at h
  | a :: l, h => by
    by_cases ha : 0 < a
    · exact ⟨0, a, rfl, ha⟩
    · rw [List.sum_cons] at h
      obtain ⟨i, x, h1, h2⟩ := sum_pos_of (l := l) (by omega)
      exact ⟨i + 1, x, h1, h2⟩
theorem sum_zero_of : ∀ {l : List Nat}, l.sum = 0 → ∀ x ∈ l, x = 0
  | [], _, x, h => nomatch h
  | a :: l, h, x, hx => by
    rw [List.sum_cons] at h
    rcases List.mem_cons.mp hx with rfl | hx
    · omega
    · exact sum_zero_of (l := l) (by omega) x hx
theorem lens_int (rows : Rows) : (rows.map fun row => (row.length : Int)).sum = ((lens rows : Nat) : Int) := by
  unfold lens
  induction rows with
  | nil => rfl
  | cons r rows ih =>
    rw [List.map_cons, List.map_cons, List.sum_cons, List.sum_cons, ih]
    omega
def popR (rows : Rows) (r : Nat) : Rows := rows.set r (rowN rows r).tail
theorem rowN_pop {rows : Rows} {r i : Nat} (h : r < rows.length) : rowN (popR rows r) i = if i = r then (rowN rows r).tail else rowN rows i := by
  unfold rowN popR
  rw [List.getD_eq_getElem?_getD, List.getD_eq_getElem?_getD, List.getD_eq_getElem?_getD, List.getElem?_set]
  by_cases e : r = i
  · subst e
    rw [if_pos rfl, if_pos h, if_pos rfl]
    rfl
  · rw [if_neg e, if_neg (Ne.symm e)]
theorem popR_len {rows : Rows} {r : Nat} : (popR rows r).length = rows.length := List.length_set ..
theorem lens_pop {rows : Rows} {r : Nat} (h : r < rows.length) (hp : 0 < (rowN rows r).length) : lens (popR rows r) + 1 = lens rows := by
  unfold lens popR
  rw [List.map_set]
  have hl : (rows.map List.length)[r]? = some (rowN rows r).length := by rw [List.getElem?_map, rowN_eq h]; rfl
  have := sum_set (x := (rowN rows r).tail.length) hl
  rw [List.length_tail] at this ⊢
  omega
theorem WsOk.pop {H : Hp} {wss : List (List V)} {rows : Rows} {r : Nat} {ws : List V} (h : WsOk H wss rows) (hr : wss[r]? = some ws) : WsOk H (wss.set r ws.tail) (popR rows r) := by
  have hl := (List.getElem?_eq_some_iff.mp hr).1
  refine ⟨by rw [List.length_set, popR_len]; exact h.1, fun i ws' hw => ?_⟩
  rw [rowN_pop (by rw [← h.1]; exact hl)]
  rw [List.getElem?_set] at hw
  by_cases e : r = i
  · subst e
    rw [if_pos rfl, if_pos hl] at hw
    cases hw
    rw [if_pos rfl]
    have := tds_drop 1 (h.2 r ws hr)
    rw [← List.map_drop, List.drop_one, List.drop_one] at this
    exact this
  · rw [if_neg e] at hw
    rw [if_neg (Ne.symm e)]
    exact h.2 i ws' hw
theorem g_pop0 {B H : Hp} {cs : List (Addr × HO)} {a : Addr} {x : V} {xs : List V} {Q : VK} (O : Own B cs H) (j : Nat) (h : cs[j]? = some (a, .lst (x :: xs))) (k : ∀ H', Own B (cs.set j (a, .lst xs)) H' → Q x H') : rPopAt (.ref a) [.int 0] H Q :=
  ⟨a, x :: xs, 0, 0, x, rfl, rfl, O.get j h, by decide, by decide, by rw [seqIndex_of (by decide) (by rw [List.length_cons]; omega)]; rfl, rfl, k _ (O.set j h)⟩
theorem rows_split {A L R : Rows} {i : Nat} (h : rowN A i ++ rowN L i = rowN R i) (hL : rowN L i = []) : rowN A i = rowN R i := by rw [← h, hL, List.append_nil]

def sp_lmixed (K : PySem.W.Frag) (C : Addr) : Sp := fun vs H Q _ => ∃ (dr : Addr) (ds : List Int) (R : Addr) (as : List Addr) (rows : Rows), vs = [.ref dr, .ref R] ∧ SqL K H dr (ds.map V.int) ∧ DrawsOk ds ∧ RowsAt H R as rows ∧ Sz rows ∧
  ∀ (o dx Ro : Addr) (ao : List Addr) (wss : List (List V)) (H' : Hp), ao.length = wss.length → WsOk H wss rows → Own H (DeedsC C o dx Ro ao wss) H' → Q (.ref o) H'

theorem ok__law_mixed (T : Txt K mg base) : FnOk P w K mg base CX0 3 T.a__law_mixed T.d__law_mixed P__law_mixed (sp_lmixed K T.a_Deeds) := by
  refine T.F__law_mixed.ok sc__law_mixed (fun vs H Q E h => ?_) (fun cdv A outer s H vs Q E hr h => ?_)
  · obtain ⟨dr, ds, R, as, rows, rfl, _⟩ := h
    rfl
  · obtain ⟨dr, ds, R, as, rows, rfl, hS, hds, hR, hz, q⟩ := h
    refine ⟨_, (pss_cons (ps_set (i := 2) sc__law_mixed.nd rfl (Or.inl rfl) (pe_make0 T.M_Deeds (ok_Deeds___init__ T) (hr.mono (by omega)) (by rfl) T.g_Deeds T.b_Deeds___init__ .nil pass0))
        (pss_cons (ps_set (i := 3) sc__law_mixed.nd rfl (Or.inr rfl) (pe_lc (own := [("row", 7)]) rfl sc__law_mixed.nd (pi_list (pv 1)) (blkOk_by (own := [("row", 7)]) (N := N__law_mixed) (sc := defScope s__law_mixed) (by decide +kernel)) (fun _ _ _ _ _ => (pg_name (i := 7) sc__law_mixed.nd rfl (Or.inl rfl))) (fun _ _ _ _ _ => pts_nil) (fun _ _ _ _ _ => (pe_callTy (show CallR _ _ (rListU K) from call_listU) (by rfl) T.z_list (by decide +kernel) (pa_cons (pv 7) pa_nil)))))
        (pss_cons (ps_for PassesOwn.never rfl (pi_range1 (by rfl) T.z_range (pa_cons (pe_callB (cr_sum rfl) (by rfl) T.z_sum (by decide +kernel) (pa_cons (pe_lc (own := [("row", 7)]) rfl sc__law_mixed.nd (pi_list (pv 1)) (blkOk_by (own := [("row", 7)]) (N := N__law_mixed) (sc := defScope s__law_mixed) (by decide +kernel)) (fun _ _ _ _ _ => (pg_name (i := 7) sc__law_mixed.nd rfl (Or.inl rfl))) (fun _ _ _ _ _ => pts_nil) (fun _ _ _ _ _ => (pe_callB (show CallR _ _ (rLenU K) from call_lenU) (by rfl) T.z_len PySem.boot_len (pa_cons (pv 7) pa_nil)))) pa_nil)) pa_nil)) (pg_name (i := 4) sc__law_mixed.nd rfl (Or.inl rfl))
          (pss_cons (ps_setLc (i := 6) (own := [("replica", 5)]) rfl sc__law_mixed.nd rfl rfl (sw_true rfl rfl rfl (by decide +kernel)) (pi_range1 (by rfl) T.z_range (pa_cons pe_int pa_nil)) (blkOk_by (own := [("replica", 5)]) (N := N__law_mixed) (sc := defScope s__law_mixed) (by decide +kernel)) (fun _ _ _ _ _ => (pg_name (i := 5) sc__law_mixed.nd rfl (Or.inl rfl))) (fun _ _ _ _ _ => (pts_one (pt_cmpR op_gt (pe_callB (show CallR _ _ (rLenU K) from call_lenU) (by rfl) T.z_len PySem.boot_len (pa_cons (pe_ix (show IxR _ (rIx K) from ix_seq) (pv 3) (pv 5) (fun _ _ => rfl)) pa_nil)) pe_int (nomark _)))) (fun _ _ _ _ _ => (pv 5)))
        (pss_cons (ps_set (i := 5) sc__law_mixed.nd rfl (Or.inl rfl) (pe_ix ix_seq (pv 6) (pe_op op_mod (pe_call (ok__law_at T) (hr.mono (by omega)) (by rfl) T.g__law_at T.F__law_at.kp T.b__law_at .nil pass0 (pa_cons (pv 0) (pa_cons (pe_op op_addU pe_int (pv 4)) pa_nil))) (pe_callB call_lenU (by rfl) T.z_len PySem.boot_len (pa_cons (pv 6) pa_nil))) (fun _ _ => rfl)))
        (pss_one (ps_expr (pe_meth (pv 2) T.cl_Deeds T.m_Deeds_add (ok_Deeds_add T) (hr.mono (by omega)) T.b_Deeds_add .nil pass0 (pa_cons (pv 5) (pa_cons (pe_bm PySem.F.plainAttrs_list PySem.F.slot_list_pop PySem.F.type_list_pop mt_popAt (pe_ix ix_seq (pv 3) (pv 5) (fun _ _ => rfl)) (pa_cons pe_int pa_nil)) pa_nil))))))))
        (pss_one (ps_ret (pv 2)))))), ?_⟩
    have hz8 := hz.len
    have hal := hR.len
    have hml : (as.map V.ref).length = as.length := List.length_map ..
    walk_at "z"
    refine g_makeK (Own.start H) fun x dx H1 nx O => ?_
    refine ⟨x, dx, rfl, O.get 0, fun Ro ao H2 (hl : ao.length = 8) O2 => ?_⟩
    obtain ⟨B1, e1, O, _⟩ := new_deeds O O2 Zl.Mut.nil
    have O := O.weak e1
    rw [List.append_nil] at O
    clear O2
    refine ⟨rfl, ?_⟩
    walk_at "z"
    refine g_iListv (.inl (.inl (O.fr _ _ hR.top))) ?_
    refine lcB_list (as.map V.ref) (fun D i H' => ∃ (as' : List Addr) (wss : List (List V)), as'.length = i ∧ wss.length = i ∧ (∀ (i : Nat) (ws : List V), wss[i]? = some ws → TdAll H ws ((rowN rows i).map encD)) ∧ Own H (RowsC D as' wss ++ DeedsC T.a_Deeds x dx Ro ao (List.replicate 8 [])) H') ?_ ?_ ?_ ?_
    · intro D nD
      exact ⟨[], [], rfl, rfl, fun i ws h => by simp at h, O.alloc nD⟩
    · rintro D i H1 _ ⟨as', wss, _, _, _, O⟩
      exact .inl (.inl (O.fr _ _ hR.top))
    · clear O
      rintro D i x H1 hx ⟨as', wss, hl1, hl2, hw, O⟩
      have hi : i < rows.length := by have := (List.getElem?_eq_some_iff.mp hx).1; omega
      obtain ⟨ai, wi, ha1, ha2, hai, hTi, hwil⟩ := hR.at hi
      rw [ha1] at hx
      cases hx
      walk_at "z"
      refine iteT ?_
      walk_at "z"
      refine g_listL (.inl (.inl (O.fr _ _ hai))) ?_
      refine g_newQ O fun l H2 nl O => ?_
      refine g_lcPut O 1 rfl (small_of (by rw [List.length_map]; omega)) fun H3 O => ?_
      have O := rows_grow (by omega) O
      refine ⟨as' ++ [l], wss ++ [wi], by rw [List.length_append]; show as'.length + 1 = _; omega, by rw [List.length_append]; show wss.length + 1 = _; omega, fun k ws' hk => ?_, O⟩
      by_cases hkk : k < wss.length
      · rw [List.getElem?_append_left hkk] at hk
        exact hw k ws' hk
      · rw [List.getElem?_append_right (by omega)] at hk
        have h0 : k = i := by
          have := (List.getElem?_eq_some_iff.mp hk).1
          simp at this
          omega
        subst h0
        rw [hl2, Nat.sub_self] at hk
        cases hk
        exact hTi
    clear O
    rintro L H3 nL ⟨al, wl0, hal1, hwl1, hwl, O⟩
    have hWL : WsOk H wl0 rows := ⟨by omega, hwl⟩
    walk_at "z"
    refine g_iListv (.inl (.inl (O.fr _ _ hR.top))) ?_
    refine lcB_list (as.map V.ref) (fun D i H' => Own H ((D, .lst ((cntV rows).take i)) :: (RowsC L al wl0 ++ DeedsC T.a_Deeds x dx Ro ao (List.replicate 8 []))) H') ?_ ?_ ?_ ?_
    · intro D nD
      exact O.alloc nD
    · intro D i H1 _ O
      exact .inl (.inl (O.fr _ _ hR.top))
    · clear O
      intro D i v H1 hx O
      have hi : i < rows.length := by have := (List.getElem?_eq_some_iff.mp hx).1; omega
      obtain ⟨a, ws, ha1, ha2, ha, hT, hwl⟩ := hR.at hi
      rw [ha1] at hx
      cases hx
      walk_at "z"
      refine iteT ?_
      walk_at "z"
      refine g_lenL (.inl (.inl (O.fr _ _ ha))) ?_
      refine g_lcPut O 0 rfl (small_of (by rw [List.length_take]; omega)) fun H2 O => ?_
      rw [hwl] at O
      rw [take_succ_of (x := V.int ((rowN rows i).length : Nat)) (by unfold cntV; rw [List.getElem?_map, List.getElem?_map, rowN_eq hi]; rfl)]
      exact O
    clear O
    intro cp H4 ncp O
    rw [List.take_of_length_le (by unfold cntV; rw [List.length_map, List.length_map]; omega)] at O
    have hsum := lens_int rows
    have hlens : lens rows ≤ 1600 := by
      have : ∀ (l : Rows), (∀ row ∈ l, row.length ≤ 200) → lens l ≤ 200 * l.length := by
        intro l
        induction l with
        | nil => intro _; exact Nat.le_refl _
        | cons r l ih =>
          intro h
          have h1 := ih fun x hx => h x (.tail _ hx)
          have h2 := h r (.head _)
          unfold lens at h1 ⊢
          rw [List.map_cons, List.sum_cons, List.length_cons]
          omega
      have := this rows hz.row
      omega
    walk_at "z"
    refine ⟨cp, _, rfl, .inl (.inl (O.get 0)), ?_⟩
    rw [hsum]
    have O := O.tail
    walk_at "z"
    refine forB_rng0 (fun k σ H' => ∃ (A Lr : Rows) (wa wl : List (List V)) (x4 x5 x6 : Option V), σ = [some (.ref dr), some (.ref R), some (.ref x), some (.ref L), x4, x5, x6, none] ∧ A.length = 8 ∧ Lr.length = 8 ∧ wa.length = 8 ∧ wl.length = 8 ∧ WsOk H wa A ∧ WsOk H wl Lr ∧ (∀ i, rowN A i ++ rowN Lr i = rowN rows i) ∧ lens Lr + k = lens rows ∧ Own H (RowsC L al wl ++ DeedsC T.a_Deeds x dx Ro ao wa) H') ?_ ?_ ?_
    · refine ⟨List.replicate 8 [], rows, List.replicate 8 [], wl0, _, _, _, rfl, List.length_replicate .., hz8, List.length_replicate .., by omega, wsOk_nil H 8, hWL, fun i => ?_, rfl, O⟩
      have := rowN_nil i
      unfold nilR at this
      rw [this]
      rfl
    · clear O
      rintro k σ H5 hk ⟨A, Lr, wa, wl, x4, x5, x6, rfl, hA8, hL8, hwa8, hwl8, hWA, hWL, hsp, hle, O⟩
      have hk : k < lens rows := by omega
      have hpos : 0 < lens Lr := by omega
      walk_at "z"
      refine lcB_rng0 (fun D j H' => Own H ((D, .lst (((List.range j).filter fun r => decide (0 < (rowN Lr r).length)).map fun r : Nat => V.int (r : Int))) :: (RowsC L al wl ++ DeedsC T.a_Deeds x dx Ro ao wa)) H') ?_ ?_ ?_
      · intro D nD
        exact O.alloc nD
      · clear O
        intro D j H6 hj O
        have hj : j < 8 := by omega
        have ha1 : al[j]? = some (al[j]'(by omega)) := List.getElem?_eq_getElem _
        have hw1 : wl[j]? = some (wl[j]'(by omega)) := List.getElem?_eq_getElem _
        have hwz := hWL.len_at hw1
        have hlen := List.length_filter_le (fun r => decide (0 < (rowN Lr r).length)) (List.range j)
        rw [List.length_range] at hlen
        rw [List.range_succ, List.filter_append, List.map_append]
        walk_at "z"
        refine g_ixL (O.lst 1) (atI_nat (show (al.map V.ref)[j]? = some (.ref (al[j]'(by omega))) by rw [List.getElem?_map, ha1]; rfl)) ?_
        walk_at "z"
        refine g_lenL (O.lst ((j + 1) + 1) (by rw [List.getElem?_cons_succ, List.getElem?_append_left (by rw [rowsC_len (by omega)]; omega)]; exact rowsC_get ha1 hw1)) ?_
        rw [hwz]
        walk_at "z"
        refine ite_d (fun h => ?_) (fun h => ?_)
        · walk_at "z"
          refine g_lcPut O 0 rfl (small_of (by rw [List.length_map]; omega)) fun H7 O => ?_
          have e : ([j].filter fun r => decide (0 < (rowN Lr r).length)) = [j] := by rw [List.filter_cons_of_pos (p := fun r => decide (0 < (rowN Lr r).length)) (a := j) (l := []) (decide_eq_true (by omega)), List.filter_nil]
          rw [e]
          exact O
        · have e : ([j].filter fun r => decide (0 < (rowN Lr r).length)) = [] := by rw [List.filter_cons_of_neg (p := fun r => decide (0 < (rowN Lr r).length)) (a := j) (l := []) (by rw [decide_eq_false (by omega)]; exact Bool.false_ne_true), List.filter_nil]
          rw [e]
          simp only [List.map_nil, List.append_nil]
          exact O
      clear O
      intro wt H6 nwt O
      obtain ⟨r0, y0, hr0, hy0⟩ := sum_pos_of (l := Lr.map List.length) hpos
      have hwne : 0 < ((List.range (8 : Int).toNat).filter fun r => decide (0 < (rowN Lr r).length)).length := by
        refine List.length_pos_of_mem (a := r0) (List.mem_filter.mpr ⟨List.mem_range.mpr ?_, ?_⟩)
        · have := (List.getElem?_eq_some_iff.mp hr0).1
          rw [List.length_map] at this
          show r0 < 8
          omega
        · have hr08 : r0 < Lr.length := by have := (List.getElem?_eq_some_iff.mp hr0).1; rwa [List.length_map] at this
          rw [List.getElem?_map, rowN_eq hr08] at hr0
          have : (rowN Lr r0).length = y0 := Option.some.inj hr0
          exact decide_eq_true (by omega)
      have hwmem : ∀ r ∈ ((List.range (8 : Int).toNat).filter fun r => decide (0 < (rowN Lr r).length)), r < 8 ∧ 0 < (rowN Lr r).length := fun r hr => by
        obtain ⟨h1, h2⟩ := List.mem_filter.mp hr
        exact ⟨List.mem_range.mp h1, of_decide_eq_true h2⟩
      generalize hwa : ((List.range (8 : Int).toNat).filter fun r => decide (0 < (rowN Lr r).length)) = wt_ at *
      walk_at "z"
      refine ⟨dr, ds, 500 + (k : Int), rfl, O.fr.seq hS, hds, by omega, fun n0 _ _ => ?_⟩
      walk_at "z"
      refine g_lenL (O.lst 0) ?_
      rw [List.length_map]
      walk_at "z"
      have h2 : 0 ≤ n0 % ((wt_.length : Nat) : Int) := Int.emod_nonneg _ (by omega)
      have h3 : n0 % ((wt_.length : Nat) : Int) < ((wt_.length : Nat) : Int) := Int.emod_lt_of_pos _ (by omega)
      have hjl : (n0 % ((wt_.length : Nat) : Int)).toNat < wt_.length := by omega
      obtain ⟨hr8, hrp⟩ := hwmem _ (List.getElem_mem hjl)
      have hgr : wt_[(n0 % ((wt_.length : Nat) : Int)).toNat]? = some wt_[(n0 % ((wt_.length : Nat) : Int)).toNat] := List.getElem?_eq_getElem hjl
      generalize wt_[(n0 % ((wt_.length : Nat) : Int)).toNat] = r at *
      refine g_ixL (O.lst 0) (atI_of h2 (show (wt_.map fun r : Nat => V.int (r : Int))[(n0 % ((wt_.length : Nat) : Int)).toNat]? = some (.int (r : Int)) by rw [List.getElem?_map, hgr]; rfl)) ?_
      have O := O.tail
      have ha1 : al[r]? = some (al[r]'(by omega)) := List.getElem?_eq_getElem _
      have hw1 : wl[r]? = some (wl[r]'(by omega)) := List.getElem?_eq_getElem _
      have hwz := hWL.len_at hw1
      obtain ⟨v, tl, hvt⟩ : ∃ v tl, wl[r]'(by omega) = v :: tl := by
        cases e : wl[r]'(by omega) with
        | nil => rw [e] at hwz; rw [← hwz] at hrp; exact absurd hrp (Nat.lt_irrefl 0)
        | cons v tl => exact ⟨v, tl, rfl⟩
      rw [hvt] at hw1
      obtain ⟨dd, dtl, hdl⟩ : ∃ d tl, rowN Lr r = d :: tl := by
        cases e : rowN Lr r with
        | nil => rw [e] at hrp; exact absurd hrp (Nat.lt_irrefl 0)
        | cons d tl => exact ⟨d, tl, rfl⟩
      have hv : Td H v (encD dd) := by
        have := hWL.2 r _ hw1
        rw [hdl] at this
        cases this with
        | cons h _ => exact h
      have hoD : ∀ {wl H'}, Own H (RowsC L al wl ++ DeedsC T.a_Deeds x dx Ro ao wa) H' → H' x = some (.ins T.a_Deeds dx (dfl Ro)) ∧ H' Ro = some (.lst (ao.map V.ref)) := fun O => ⟨O.have_ (x, _) (List.mem_append.mpr (.inr (.head _))), O.have_ (Ro, _) (List.mem_append.mpr (.inr (.tail _ (.head _))))⟩
      walk_at "z"
      refine g_methK (hoD O).1 (dfl_n Ro (by decide +kernel)) ?_
      walk_at "z"
      have hcell : (RowsC L al wl ++ DeedsC T.a_Deeds x dx Ro ao wa)[r + 1]? = some (al[r]'(by omega), .lst (v :: tl)) := by
        rw [List.getElem?_append_left (by rw [rowsC_len (by omega)]; omega)]
        exact rowsC_get ha1 hw1
      refine g_ixL (O.lst 0) (atI_nat (show (al.map V.ref)[r]? = some (.ref (al[r]'(by omega))) by rw [List.getElem?_map, ha1]; rfl)) ?_
      refine g_tyL (O.lst _ hcell) ?_
      walk_at "z"
      refine g_pop0 O _ hcell fun H7 O => ?_
      rw [List.set_append_left _ _ (by rw [rowsC_len (by omega)]; omega), rowsC_set ha1] at O
      walk_at "z"
      have hao : ao[r]? = some (ao[r]'(by omega)) := List.getElem?_eq_getElem _
      have hwar : wa[r]? = some (wa[r]'(by omega)) := List.getElem?_eq_getElem _
      have hwaz := hWA.len_at hwar
      have hrz := hz.at r
      have hsr := congrArg List.length (hsp r)
      rw [List.length_append] at hsr
      have hcell2 : (RowsC L al (wl.set r tl) ++ DeedsC T.a_Deeds x dx Ro ao wa)[(RowsC L al (wl.set r tl)).length + (r + 2)]? = some (ao[r]'(by omega), .lst (wa[r]'(by omega))) := get_end (rc_get hao hwar)
      have hw1000 : (wa[r]'(by omega)).length ≤ 1000 := by omega
      refine ⟨x, dx, Ro, _, ao, ((r : Nat) : Int), v, _, rfl, (hoD O).1, (hoD O).2, Int.natCast_nonneg _, by rw [Int.toNat_natCast]; exact hao, O.get _ hcell2, hw1000, fun H8 e8 h8 => ?_⟩
      have O := O.mut _ hcell2 e8 h8
      rw [set_end] at O
      have hs : (DeedsC T.a_Deeds x dx Ro ao wa).set (r + 2) (ao[r]'(by omega), .lst (wa[r]'(by omega) ++ [v])) = DeedsC T.a_Deeds x dx Ro ao (wa.set r (wa[r]'(by omega) ++ [v])) := by
        unfold DeedsC RowsC
        rw [List.set_cons_succ, List.set_cons_succ, rc_set hao]
      rw [hs] at O
      refine ⟨addD A r dd, popR Lr r, _, _, _, _, _, rfl, by rw [addD_len]; exact hA8, by rw [popR_len]; exact hL8, by rw [List.length_set]; exact hwa8, by rw [List.length_set]; exact hwl8, hWA.add hwar hv, hWL.pop hw1, fun i => ?_, ?_, O⟩
      · rw [rowN_add (by omega), rowN_pop (by omega)]
        by_cases hi : i = r
        · subst hi
          rw [if_pos rfl, if_pos rfl, hdl, ← hsp i, hdl, List.append_assoc]
          rfl
        · rw [if_neg hi, if_neg hi]
          exact hsp i
      · have := lens_pop (rows := Lr) (r := r) (by omega) hrp
        omega
    · clear O
      rintro σ H5 ⟨A, Lr, wa, wl, x4, x5, x6, rfl, hA8, hL8, hwa8, hwl8, hWA, hWL, hsp, hle, O⟩
      walk_at "z"
      have h0 : lens Lr = 0 := by omega
      have hAR : A = rows := by
        refine rows_ext (by omega) fun i => rows_split (hsp i) ?_
        by_cases hi : i < Lr.length
        · refine List.eq_nil_of_length_eq_zero (sum_zero_of h0 _ (List.mem_map.mpr ⟨rowN Lr i, ?_, rfl⟩))
          exact List.mem_of_getElem? (rowN_eq hi)
        · exact rowN_out (by omega)
      rw [hAR] at hWA
      exact q x dx Ro ao wa H5 (by omega) hWA (O.sub (List.sublist_append_right _ _))

/-! ### added replica by replica, the last one first -/
def turnR (rows : Rows) (i k : Nat) : Rows := (List.range 8).map fun r => if 8 - i ≤ r then rowN rows r else if r = 7 - i then (rowN rows r).take k else []
theorem rowN_turn (rows : Rows) (i k r : Nat) : rowN (turnR rows i k) r = if r < 8 then (if 8 - i ≤ r then rowN rows r else if r = 7 - i then (rowN rows r).take k else []) else [] := by
  by_cases h : r < 8
  · rw [if_pos h]
    show (turnR rows i k).getD r [] = _
    unfold turnR
    rw [List.getD_eq_getElem?_getD, List.getElem?_map, List.getElem?_range h]
    rfl
  · rw [if_neg h, rowN_out (by unfold turnR; rw [List.length_map, List.length_range]; omega)]
theorem turnR_len (rows : Rows) (i k : Nat) : (turnR rows i k).length = 8 := by unfold turnR; rw [List.length_map, List.length_range]
theorem turn_zero (rows : Rows) : turnR rows 0 0 = List.replicate 8 [] := by
  refine rows_ext (by rw [turnR_len, List.length_replicate]) fun r => ?_
  have := rowN_nil r
  unfold nilR at this
  rw [rowN_turn, this]
  split
  · rw [if_neg (by omega)]
    split
    · rfl
    · rfl
  · rfl
theorem turn_add {rows : Rows} {i k : Nat} {d : Deed} (hi : i < 8) (hd : (rowN rows (7 - i))[k]? = some d) : turnR rows i (k + 1) = addD (turnR rows i k) (7 - i) d := by
  refine rows_ext (by rw [turnR_len, addD_len, turnR_len]) fun r => ?_
  rw [rowN_turn, rowN_add (by rw [turnR_len]; omega), rowN_turn, rowN_turn]
  by_cases hr : r = 7 - i
  · subst hr
    rw [if_pos (by omega), if_neg (by omega), if_pos rfl, if_pos rfl, if_pos (by omega), if_neg (by omega), if_pos rfl, take_succ_of hd]
  · rw [if_neg hr]
    split
    · split
      · rfl
      · simp only [if_neg hr]
    · rfl
theorem turn_next {rows : Rows} {i : Nat} (hi : i < 8) : turnR rows i (rowN rows (7 - i)).length = turnR rows (i + 1) 0 := by
  refine rows_ext (by rw [turnR_len, turnR_len]) fun r => ?_
  rw [rowN_turn, rowN_turn]
  split
  · by_cases hr : r = 7 - i
    · subst hr
      rw [if_neg (by omega), if_pos rfl, if_pos (by omega), List.take_length]
    · rw [if_neg hr]
      by_cases h2 : 8 - i ≤ r
      · rw [if_pos h2, if_pos (by omega)]
      · rw [if_neg h2, if_neg (by omega)]
        split
        · rw [List.take_zero]
        · rfl
  · rfl
theorem turn_all {rows : Rows} (h : rows.length = 8) : turnR rows 8 0 = rows := by
  refine rows_ext (by rw [turnR_len, h]) fun r => ?_
  rw [rowN_turn]
  split
  · rw [if_pos (by omega)]
  · exact (rowN_out (by omega)).symm
theorem eqv_kzs (l : List Mk) : PyData.eqv (.list (l.map kzD)) (.list (l.map kzD)) = true := by
  rw [SeqAt.eqv_refl]
  simp only [PyData.canLay0]
  exact lay_kzs l
theorem rowsOf_drop (trs : List Tr) (c i : Nat) {x : Tr} (h : (trs.drop c)[i]? = some x) : rowsOf (trs.take (c + i + 1)) = addD (rowsOf (trs.take (c + i))) x.1 x.2.2 := by
  rw [List.getElem?_drop] at h
  rw [take_succ_of h, rowsOf_snoc]
theorem sub_take (trs : List Tr) (h8 : ∀ x ∈ trs, x.1 < 8) (c : Nat) : SubR (rowsOf (trs.take c)) (rowsOf trs) := by
  have key : ∀ k, SubR (rowsOf (trs.take c)) (rowsOf (trs.take (c + k))) := by
    intro k
    induction k with
    | zero => exact fun i d h => h
    | succ k ih =>
      cases e : trs[c + k]? with
      | none =>
        rw [show c + (k + 1) = c + k + 1 by omega, List.take_add_one, e]
        simpa using ih
      | some x =>
        rw [show c + (k + 1) = c + k + 1 by omega, take_succ_of e, rowsOf_snoc]
        intro i d hd
        exact sub_add (by rw [rowsOf_len]; exact h8 x (List.mem_of_getElem? e)) i d (ih i d hd)
  have := key trs.length
  rwa [List.take_of_length_le (by omega : trs.length ≤ c + trs.length)] at this

def sp_law (K : PySem.W.Frag) (P1 P2 : Addr) : Sp := fun vs H Q _ => ∃ (a : Addr) (ns : List Int), vs = [.ref a] ∧ SqL K H a (ns.map V.int) ∧ ns.length ≤ 63 ∧ H P1 = some (.tbl #[]) ∧ H P2 = some (.tbl #[]) ∧ ∀ H', Q (.bl true) H'

theorem ok_law (T : Txt K mg base) : FnOk P w K mg base CX0 17 T.a_law T.d_law P_law (sp_law K T.ta_Deeds_row T.ta__law_row) := by
  refine T.F_law.ok sc_law (fun vs H Q E h => ?_) (fun cdv A outer s H vs Q E hr h => ?_)
  · obtain ⟨a, ns, rfl, _⟩ := h
    rfl
  · obtain ⟨a, ns, rfl, hS, hlen, hP1, hP2, q⟩ := h
    refine ⟨_, (pss_cons (ps_set (i := 1) sc_law.nd rfl (Or.inl rfl) (pe_call (ok__law_draws T) (hr.mono (by omega)) (by rfl) T.g__law_draws T.F__law_draws.kp T.b__law_draws .nil pass0 (pa_cons (pv 0) pa_nil)))
        (pss_cons (ps_set (i := 2) sc_law.nd rfl (Or.inl rfl) (pe_op op_mod (pe_call (ok__law_at T) (hr.mono (by omega)) (by rfl) T.g__law_at T.F__law_at.kp T.b__law_at .nil pass0 (pa_cons (pv 1) (pa_cons pe_int pa_nil))) pe_int))
        (pss_cons (ps_set (i := 3) sc_law.nd rfl (Or.inl rfl) (pe_call (ok__law_triples T) (hr.mono (by omega)) (by rfl) T.g__law_triples T.F__law_triples.kp T.b__law_triples .nil pass0 (pa_cons (pv 1) (pa_cons pe_int (pa_cons (pe_op op_addU (pe_op op_addU (pv 2) pe_int) (pe_op op_mod (pe_call (ok__law_at T) (hr.mono (by omega)) (by rfl) T.g__law_at T.F__law_at.kp T.b__law_at .nil pass0 (pa_cons (pv 1) (pa_cons pe_int pa_nil))) pe_int)) (pa_cons (pe_op op_addU pe_int (pe_op op_mod (pe_call (ok__law_at T) (hr.mono (by omega)) (by rfl) T.g__law_at T.F__law_at.kp T.b__law_at .nil pass0 (pa_cons (pv 1) (pa_cons pe_int pa_nil))) pe_int)) pa_nil))))))
        (pss_cons (ps_set (i := 4) sc_law.nd rfl (Or.inl rfl) (pe_call (ok__law_rows_of T) (hr.mono (by omega)) (by rfl) T.g__law_rows_of T.F__law_rows_of.kp T.b__law_rows_of .nil pass0 (pa_cons (pv 3) pa_nil)))
        (pss_cons (ps_set (i := 5) sc_law.nd rfl (Or.inr rfl) (pe_call (ok__law_deeds T) (hr.mono (by omega)) (by rfl) T.g__law_deeds T.F__law_deeds.kp T.b__law_deeds .nil pass0 (pa_cons (pe_slice sl_U (pv 3) po_none (po_some (pv 2))) pa_nil)))
        (pss_cons (ps_set (i := 6) sc_law.nd rfl (Or.inl rfl) (pe_call (ok__law_deeds T) (hr.mono (by omega)) (by rfl) T.g__law_deeds T.F__law_deeds.kp T.b__law_deeds .nil pass0 (pa_cons (pv 3) pa_nil)))
        (pss_cons (ps_set (i := 7) sc_law.nd rfl (Or.inl rfl) (pe_make0 T.M_Deeds (ok_Deeds___init__ T) (hr.mono (by omega)) (by rfl) T.g_Deeds T.b_Deeds___init__ .nil pass0))
        (pss_cons (ps_for PassesOwn.never rfl (pi_range1 (by rfl) T.z_range (pa_cons pe_int pa_nil)) (pg_name (i := 8) sc_law.nd rfl (Or.inl rfl))
          (pss_one (ps_for PassesOwn.never rfl (pi_list (pe_ix ix_seq (pv 4) (pe_op op_sub pe_int (pv 8)) (fun _ _ => rfl))) (pg_name (i := 9) sc_law.nd rfl (Or.inl rfl))
          (pss_one (ps_expr (pe_meth (pv 7) T.cl_Deeds T.m_Deeds_add (ok_Deeds_add T) (hr.mono (by omega)) T.b_Deeds_add .nil pass0 (pa_cons (pe_op op_sub pe_int (pv 8)) (pa_cons (pv 9) pa_nil))))))))
        (pss_cons (ps_set (i := 10) sc_law.nd rfl (Or.inl rfl) (pe_call (ok__law_mixed T) (hr.mono (by omega)) (by rfl) T.g__law_mixed T.F__law_mixed.kp T.b__law_mixed .nil pass0 (pa_cons (pv 1) (pa_cons (pv 4) pa_nil))))
        (pss_cons (ps_setLc (i := 12) (own := [("module", 11)]) rfl sc_law.nd rfl rfl (sw_true rfl rfl rfl (by decide +kernel)) (pi_list (pe_call0 (ok__law_modules T) (hr.mono (by omega)) (by rfl) T.g__law_modules T.F__law_modules.kp T.b__law_modules .nil pass0)) (blkOk_by (own := [("module", 11)]) (N := N_law) (sc := defScope s_law) (by decide +kernel)) (fun _ _ _ _ _ => (pg_name (i := 11) sc_law.nd rfl (Or.inl rfl))) (fun _ _ _ _ _ => pts_nil) (fun _ _ _ _ _ => (pe_call (ok__law_marks T) (hr.mono (by omega)) (by rfl) T.g__law_marks T.F__law_marks.kp T.b__law_marks .nil pass0 (pa_cons (pv 5) (pa_cons (pv 11) pa_nil)))))
        (pss_cons (ps_for PassesOwn.never rfl (pi_list (pe_slice sl_U (pv 3) (po_some (pv 2)) po_none)) (pg_tup rfl (pgs_cons (pg_name (i := 8) sc_law.nd rfl (Or.inl rfl)) (pgs_cons (pg_name (i := 13) sc_law.nd rfl (Or.inl rfl)) (pgs_cons (pg_name (i := 9) sc_law.nd rfl (Or.inl rfl)) pgs_nil))))
          (pss_one (ps_expr (pe_meth (pv 5) T.cl_Deeds T.m_Deeds_add (ok_Deeds_add T) (hr.mono (by omega)) T.b_Deeds_add .nil pass0 (pa_cons (pv 8) (pa_cons (pv 9) pa_nil))))))
        (pss_cons (ps_for PassesOwn.never rfl (pi_range1 (by rfl) T.z_range (pa_cons (pe_callB call_lenU (by rfl) T.z_len PySem.boot_len (pa_cons (pv 12) pa_nil)) pa_nil)) (pg_name (i := 14) sc_law.nd rfl (Or.inl rfl))
          (pss_cons (ps_set (i := 11) sc_law.nd rfl (Or.inl rfl) (pe_ix ix_seq (pe_call0 (ok__law_modules T) (hr.mono (by omega)) (by rfl) T.g__law_modules T.F__law_modules.kp T.b__law_modules .nil pass0) (pv 14) (fun _ _ => rfl)))
        (pss_cons (ps_set (i := 15) sc_law.nd rfl (Or.inr rfl) (pe_ix ix_seq (pv 12) (pv 14) (fun _ _ => rfl)))
        (pss_cons (ps_set (i := 16) sc_law.nd rfl (Or.inl rfl) (pe_call (ok__law_marks T) (hr.mono (by omega)) (by rfl) T.g__law_marks T.F__law_marks.kp T.b__law_marks .nil pass0 (pa_cons (pv 6) (pa_cons (pv 11) pa_nil))))
        (pss_cons (ps_if (pt_not (pt_val (pe_call (ok__law_same T) (hr.mono (by omega)) (by rfl) T.g__law_same T.F__law_same.kp T.b__law_same .nil pass0 (pa_cons (pe_meth (pv 5) T.cl_Deeds T.m_Deeds_row (ok_Deeds_row T) (hr.mono (by omega)) T.b_Deeds_row .nil pass0 (pa_cons (pv 11) pa_nil)) (pa_cons (pe_meth (pv 6) T.cl_Deeds T.m_Deeds_row (ok_Deeds_row T) (hr.mono (by omega)) T.b_Deeds_row .nil pass0 (pa_cons (pv 11) pa_nil)) pa_nil)))))
          (pss_one (ps_ret pe_bl))
          pss_nil)
        (pss_cons (ps_if (PW.pt (pw_or (pt_cmpR op_isNU (pv 15) pe_non (nomark _)) (pw_or (pt_cmpR op_isNU (pv 16) pe_non (nomark _)) (pw_or1 (pt_not (pt_tr (by intro _; rfl) (pe_call (ok__law_stands T) (hr.mono (by omega)) (by rfl) T.g__law_stands T.F__law_stands.kp T.b__law_stands .nil pass0 (pa_cons (pv 4) (pa_cons (pv 11) (pa_cons (pv 16) pa_nil))))))))))
          (pss_one (ps_ret pe_bl))
          pss_nil)
        (pss_cons (ps_if (pt_cmpR (op_neU (hu64 hr)) (pe_lc (own := [("mark", 17)]) rfl sc_law.nd (pi_list (pv 16)) (blkOk_by (own := [("mark", 17)]) (N := N_law) (sc := defScope s_law) (by decide +kernel)) (fun _ _ _ _ _ => (pg_name (i := 17) sc_law.nd rfl (Or.inl rfl))) (fun _ _ _ _ _ => (pts_one (pt_cmpR (show OpR _ _ (rInU K) from (op_inU (hu65 hr))) (pv 17) (pv 15) (by rfl)))) (fun _ _ _ _ _ => (pv 17))) (pv 15) (nomark _))
          (pss_one (ps_ret pe_bl))
          pss_nil)
        (pss_one (ps_if (PW.pt (pw_or (pt_not (pt_val (pe_call (ok__law_same T) (hr.mono (by omega)) (by rfl) T.g__law_same T.F__law_same.kp T.b__law_same .nil pass0 (pa_cons (pe_meth (pv 7) T.cl_Deeds T.m_Deeds_row (ok_Deeds_row T) (hr.mono (by omega)) T.b_Deeds_row .nil pass0 (pa_cons (pv 11) pa_nil)) (pa_cons (pe_meth (pv 6) T.cl_Deeds T.m_Deeds_row (ok_Deeds_row T) (hr.mono (by omega)) T.b_Deeds_row .nil pass0 (pa_cons (pv 11) pa_nil)) pa_nil))))) (pw_or1 (pt_not (pt_val (pe_call (ok__law_same T) (hr.mono (by omega)) (by rfl) T.g__law_same T.F__law_same.kp T.b__law_same .nil pass0 (pa_cons (pe_meth (pv 10) T.cl_Deeds T.m_Deeds_row (ok_Deeds_row T) (hr.mono (by omega)) T.b_Deeds_row .nil pass0 (pa_cons (pv 11) pa_nil)) (pa_cons (pe_meth (pv 6) T.cl_Deeds T.m_Deeds_row (ok_Deeds_row T) (hr.mono (by omega)) T.b_Deeds_row .nil pass0 (pa_cons (pv 11) pa_nil)) pa_nil))))))))
          (pss_one (ps_ret pe_bl))
          pss_nil)))))))))
        (pss_one (ps_ret pe_bl)))))))))))))), ?_⟩
    have O : Own (Zl.dels H [T.ta_Deeds_row, T.ta__law_row]) [(T.ta_Deeds_row, .tbl #[]), (T.ta__law_row, .tbl #[])] H := Own.args [(T.ta_Deeds_row, .tbl #[]), (T.ta__law_row, .tbl #[])] (fun c hc => by
      simp only [List.mem_cons, List.not_mem_nil, or_false] at hc
      rcases hc with rfl | rfl
      · exact hP1
      · exact hP2) (by simp only [List.map_cons, List.map_nil, List.nodup_cons, List.mem_cons, List.not_mem_nil, or_false, not_false_eq_true, List.nodup_nil, and_true]; exact T.dt)
    have hS := sql_dels2 hP1 hP2 hS
    clear hP1 hP2
    generalize hB0 : Zl.dels H [T.ta_Deeds_row, T.ta__law_row] = B0 at *
    walk_at "z"
    refine ⟨a, ns, rfl, O.fr.seq hS, fun d H1 ds e1 nd hd hds => ?_⟩
    have O := O.new e1 nd hd
    obtain ⟨B, e0, hd, O⟩ := fz O
    walk_at "z"
    refine ⟨d, ds, 0, rfl, .inl (.inl (O.fr _ _ hd)), hds, by omega, fun n0 hn0 hn0' => ?_⟩
    walk_at "z"
    obtain ⟨cnt, hcnt, hcl⟩ : ∃ cnt : Nat, n0 % 19 = (cnt : Int) ∧ cnt ≤ 18 := ⟨(n0 % 19).toNat, by omega, by omega⟩
    rw [hcnt]
    refine ⟨d, ds, 1, rfl, .inl (.inl (O.fr _ _ hd)), hds, by omega, fun n1 hn1 hn1' => ?_⟩
    walk_at "z"
    obtain ⟨steps, hsteps, hsl, hsc⟩ : ∃ steps : Nat, (cnt : Int) + 1 + n1 % 4 = (steps : Int) ∧ steps ≤ 60 ∧ cnt ≤ steps := ⟨((cnt : Int) + 1 + n1 % 4).toNat, by omega, by omega, by omega⟩
    rw [hsteps]
    refine ⟨d, ds, 2, rfl, .inl (.inl (O.fr _ _ hd)), hds, by omega, fun n2 hn2 hn2' => ?_⟩
    walk_at "z"
    obtain ⟨most, hmost, hm1, hm8⟩ : ∃ most : Nat, 1 + n2 % 5 = (most : Int) ∧ 1 ≤ most ∧ most ≤ 8 := ⟨(1 + n2 % 5).toNat, by omega, by omega, by omega⟩
    rw [hmost]
    refine ⟨d, ds, 20, steps, most, #[], rfl, .inl (.inl (O.fr _ _ hd)), hds, by omega, by omega, hm1, hm8, O.get 1, TabI.nil, fun B1 p ws trs ps2 H2 e1 O1 hI2 hT hTr htl _ => ?_⟩
    obtain ⟨B2, e2, O, im⟩ := O.callM (j := 1) (ds := [(p, .lst ws)]) rfl e1 O1 (.cons rfl (.cons rfl .nil)) (.cons rfl .nil) rfl
    have hT := im.tds (tds_ex O1.fr hT)
    clear O1 e1 im hI2
    have O : Own B2 [(p, .lst ws), (T.ta_Deeds_row, .tbl #[]), (T.ta__law_row, .tbl ps2)] H2 := O
    obtain ⟨B3, e3, hp, O⟩ := fz O
    have O : Own B3 [(T.ta_Deeds_row, .tbl #[])] H2 := O.sub (((List.Sublist.refl []).cons _).cons_cons _)
    have hT := tds_ex e3 hT
    have hd := e3 _ _ (e2 _ _ hd)
    have hwl := tds_len hT
    rw [List.length_map] at hwl
    walk_at "z"
    refine ⟨p, ws, trs, rfl, .inl (.inl (O.fr _ _ hp)), tds_ex O.fr hT, hTr.r8, by omega, fun R as wss H3 hl1 hW O1 => ?_⟩
    have hok := hTr.all (by omega)
    have hok0 := hTr.rok (by omega) cnt (by omega)
    have hNk : LB * (trs.length : Int) ≤ LB * 60 := Int.mul_le_mul_of_nonneg_left (by omega) LB_nonneg
    have hNc : LB * (cnt : Int) ≤ LB * 60 := Int.mul_le_mul_of_nonneg_left (by omega) LB_nonneg
    have hNb : LB = 9 := rfl
    have hN : 1 + LB * (trs.length : Int) ≤ 1125899906842624 := by omega
    have hN0 : 1 + LB * (cnt : Int) ≤ 1125899906842624 := by omega
    have hsub := sub_take trs hTr.r8 cnt
    have hrl8 := rowsOf_len trs
    have O := O.join O1
    obtain ⟨B4, e4, O, him⟩ := O.fix ((RowsC.mut _ _ _).app (.cons rfl .nil))
    have hW := (hW.ex O1.fr).imm him
    clear O1 him
    obtain ⟨B5, e5, O, hRc⟩ := Own.frz O
    have hR : RowsAt B5 R as (rowsOf trs) := rowsAt_of hRc hl1 (hW.ex e5)
    have e35 := e4.trans e5
    have hd := e35 _ _ hd
    have hp := e35 _ _ hp
    have hT := tds_ex e35 hT
    clear hRc hW
    walk_at "z"
    refine g_slL (.inl (.inl (O.fr _ _ hp))) ?_
    rw [cut_take (by omega), Int.toNat_natCast]
    refine g_newQ O fun pc H4 npc O => ?_
    obtain ⟨B6, e6, hpc, O⟩ := fz O
    have hR := hR.ex e6
    have hd := e6 _ _ hd
    have hp := e6 _ _ hp
    have hT := tds_ex e6 hT
    walk_at "z"
    refine ⟨pc, _, trs.take cnt, rfl, .inl (.inl (O.fr _ _ hpc)), tds_ex O.fr (tds_takeE cnt hT), fun x hx => hTr.r8 x (List.mem_of_mem_take hx), by rw [List.length_take]; omega, fun o dx Ro ao wso H5 hlo hWo O1 => ?_⟩
    have O := O.join O1
    obtain ⟨B7, e7, O, him⟩ := O.fix ((DeedsC.mut _ _ _ _ _ _).app (.cons rfl .nil))
    have hWo := (hWo.ex O1.fr).imm him
    clear O1 him
    have hR := hR.ex e7
    have hd := e7 _ _ hd
    have hp := e7 _ _ hp
    have hT := tds_ex e7 hT
    walk_at "z"
    refine ⟨p, ws, trs, rfl, .inl (.inl (O.fr _ _ hp)), tds_ex O.fr hT, hTr.r8, by omega, fun o2 dx2 Ro2 ao2 wso2 H6 hlo2 hW2 O1 => ?_⟩
    have O := O.join O1
    obtain ⟨B8, e8, O, him⟩ := O.fix ((DeedsC.mut _ _ _ _ _ _).app ((DeedsC.mut _ _ _ _ _ _).app (.cons rfl .nil)))
    have hW2 := (hW2.ex O1.fr).imm him
    clear O1 him
    obtain ⟨B9, e9, O, hDc⟩ := Own.frz O
    have hD2 : DeedsAt B9 T.a_Deeds o2 Ro2 ao2 (rowsOf trs) := deedsAt_of hDc hlo2 (hW2.ex e9)
    clear hDc hW2
    have e89 := e8.trans e9
    have hR := hR.ex e89
    have hWo := hWo.ex e89
    have hd := e89 _ _ hd
    have hp := e89 _ _ hp
    have hT := tds_ex e89 hT
    have dAtM : ∀ {o dx R : Addr} {as : List Addr} {wss : List (List V)} {cs : List (Addr × HO)} {B H : Hp} {rows : Rows}, Own B (DeedsC T.a_Deeds o dx R as wss ++ cs) H → as.length = wss.length → WsOk B wss rows → DeedsAt H T.a_Deeds o R as rows := fun O h w => deedsAt_of (fun c hc => O.have_ c (List.mem_append.mpr (.inl hc))) h (w.ex O.fr)
    walk_at "z"
    refine g_makeK O fun x dx3 H7 nx O => ?_
    refine ⟨x, dx3, rfl, O.get 0, fun Ro3 ao3 H8 (hl3 : ao3.length = 8) O2 => ?_⟩
    obtain ⟨B10, e10, O, _⟩ := new_deeds O O2 ((DeedsC.mut _ _ _ _ _ _).app (.cons rfl .nil))
    clear O2
    have hR := hR.ex e10
    have hWo := hWo.ex e10
    have hD2 := hD2.ex e10
    have hd := e10 _ _ hd
    have hp := e10 _ _ hp
    have hT := tds_ex e10 hT
    refine ⟨rfl, ?_⟩
    walk_at "z"
    refine forB_rng0 (fun i σ H' => ∃ (w3 : List (List V)) (x8 x9 : Option V), σ = [some (.ref a), some (.ref d), some (.int (cnt : Nat)), some (.ref p), some (.ref R), some (.ref o), some (.ref o2), some (.ref x), x8, x9, none, none, none, none, none, none, none, none] ∧ w3.length = 8 ∧ WsOk B10 w3 (turnR (rowsOf trs) i 0) ∧ Own B10 (DeedsC T.a_Deeds x dx3 Ro3 ao3 w3 ++ (DeedsC T.a_Deeds o dx Ro ao wso ++ [(T.ta_Deeds_row, .tbl #[])])) H') ?_ ?_ ?_
    · refine ⟨List.replicate 8 [], _, _, rfl, List.length_replicate .., ?_, O⟩
      rw [turn_zero]
      exact wsOk_nil _ 8
    · clear O
      rintro i σ H9 hi ⟨w3, x8, x9, rfl, hw38, hW3, O⟩
      have hi : i < 8 := by omega
      obtain ⟨ar, wr, har1, har2, har, hTr1, hwrl⟩ := hR.at (i := 7 - i) (by rw [hrl8]; omega)
      have hsr := rowsOf_short trs (7 - i)
      walk_at "z"
      refine g_ixL (.inl (.inl (O.fr _ _ hR.top))) (atI_of (by omega) (show (as.map V.ref)[((7 : Int) - (i : Int)).toNat]? = some (.ref ar) by rw [show ((7 : Int) - (i : Int)).toNat = 7 - i by omega]; exact har1)) ?_
      refine g_iListv (.inl (.inl (O.fr _ _ har))) ?_
      refine forB_list wr (fun k σ H' => ∃ (w3 : List (List V)) (x9 : Option V), σ = [some (.ref a), some (.ref d), some (.int (cnt : Nat)), some (.ref p), some (.ref R), some (.ref o), some (.ref o2), some (.ref x), some (.int (i : Nat)), x9, none, none, none, none, none, none, none, none] ∧ w3.length = 8 ∧ WsOk B10 w3 (turnR (rowsOf trs) i k) ∧ Own B10 (DeedsC T.a_Deeds x dx3 Ro3 ao3 w3 ++ (DeedsC T.a_Deeds o dx Ro ao wso ++ [(T.ta_Deeds_row, .tbl #[])])) H') ?_ ?_ ?_ ?_
      · exact ⟨w3, _, rfl, hw38, hW3, O⟩
      · rintro k σ H' _ ⟨w3, x9, rfl, _, _, O⟩
        exact .inl (.inl (O.fr _ _ har))
      · clear O hW3 hw38
        rintro k v σ H10 hv ⟨w3, x9, rfl, hw38, hW3, O⟩
        obtain ⟨dd, hdd, hTd⟩ := tds_at' hTr1 hv
        have hao : ao3[7 - i]? = some (ao3[7 - i]'(by omega)) := List.getElem?_eq_getElem _
        have hwar : w3[7 - i]? = some (w3[7 - i]'(by omega)) := List.getElem?_eq_getElem _
        have hwaz := hW3.len_at hwar
        have hkl := (List.getElem?_eq_some_iff.mp hdd).1
        have htl2 : (rowN (turnR (rowsOf trs) i k) (7 - i)).length ≤ 60 := by
          rw [rowN_turn, if_pos (by omega), if_neg (by omega), if_pos rfl, List.length_take]
          omega
        have hw1000 : (w3[7 - i]'(by omega)).length ≤ 1000 := by omega
        have hcell : (DeedsC T.a_Deeds x dx3 Ro3 ao3 w3 ++ (DeedsC T.a_Deeds o dx Ro ao wso ++ [(T.ta_Deeds_row, HO.tbl #[])]))[(7 - i) + 2]? = some (ao3[7 - i]'(by omega), .lst (w3[7 - i]'(by omega))) := by
          rw [List.getElem?_append_left (by show (7 - i) + 2 < (_ :: _ :: rc ao3 w3).length; rw [List.length_cons, List.length_cons, rc_len (by omega)]; omega)]
          exact rc_get hao hwar
        walk_at "z"
        refine g_methK (O.get 0) (dfl_n Ro3 (by decide +kernel)) ?_
        walk_at "z"
        rw [show (7 : Int) - (i : Int) = ((7 - i : Nat) : Int) by omega]
        refine ⟨x, dx3, Ro3, _, ao3, ((7 - i : Nat) : Int), v, _, rfl, O.get 0, O.get 1, Int.natCast_nonneg _, by rw [Int.toNat_natCast]; exact hao, O.get _ hcell, hw1000, fun H11 e11 h11 => ?_⟩
        have O := O.mut _ hcell e11 h11
        rw [List.set_append_left _ _ (by show (7 - i) + 2 < (_ :: _ :: rc ao3 w3).length; rw [List.length_cons, List.length_cons, rc_len (by omega)]; omega)] at O
        have hs : (DeedsC T.a_Deeds x dx3 Ro3 ao3 w3).set ((7 - i) + 2) (ao3[7 - i]'(by omega), .lst (w3[7 - i]'(by omega) ++ [v])) = DeedsC T.a_Deeds x dx3 Ro3 ao3 (w3.set (7 - i) (w3[7 - i]'(by omega) ++ [v])) := by
          unfold DeedsC RowsC
          rw [List.set_cons_succ, List.set_cons_succ, rc_set hao]
        rw [hs] at O
        refine ⟨_, _, rfl, by rw [List.length_set]; exact hw38, ?_, O⟩
        rw [turn_add hi hdd]
        exact hW3.add hwar hTd
      · clear O hW3 hw38
        rintro σ H10 ⟨w3, x9, rfl, hw38, hW3, O⟩
        rw [hwrl, turn_next hi] at hW3
        exact ⟨w3, _, _, rfl, hw38, hW3, O⟩
    clear O
    rintro σ H9 ⟨w3, x8, x9, rfl, hw38, hW3, O⟩
    have hW3 : WsOk B10 w3 (rowsOf trs) := by
      have : turnR (rowsOf trs) (8 : Int).toNat 0 = rowsOf trs := turn_all hrl8
      rw [this] at hW3
      exact hW3
    obtain ⟨B11, e11, O, hDc⟩ := Own.frz O
    have hD3 : DeedsAt B11 T.a_Deeds x Ro3 ao3 (rowsOf trs) := deedsAt_of hDc (by omega) (hW3.ex e11)
    clear hDc hW3
    have hR := hR.ex e11
    have hWo := hWo.ex e11
    have hD2 := hD2.ex e11
    have hd := e11 _ _ hd
    have hp := e11 _ _ hp
    have hT := tds_ex e11 hT
    walk_at "z"
    refine ⟨d, ds, R, as, rowsOf trs, rfl, .inl (.inl (O.fr _ _ hd)), hds, hR.ex O.fr, hok.sz, fun o4 dx4 Ro4 ao4 wso4 H10 hlo4 hW4 O1 => ?_⟩
    have O := O.join O1
    obtain ⟨B12, e12, O, him⟩ := O.fix ((DeedsC.mut _ _ _ _ _ _).app ((DeedsC.mut _ _ _ _ _ _).app (.cons rfl .nil)))
    have hW4 := (hW4.ex O1.fr).imm him
    clear O1 him
    obtain ⟨B13, e13, O, hDc⟩ := Own.frz O
    have hD4 : DeedsAt B13 T.a_Deeds o4 Ro4 ao4 (rowsOf trs) := deedsAt_of hDc hlo4 (hW4.ex e13)
    clear hDc hW4
    have e1213 := e12.trans e13
    have hR := hR.ex e1213
    have hWo := hWo.ex e1213
    have hD2 := hD2.ex e1213
    have hD3 := hD3.ex e1213
    have hd := e1213 _ _ hd
    have hp := e1213 _ _ hp
    have hT := tds_ex e1213 hT
    walk_at "z"
    refine ⟨rfl, fun pm H11 O1 => ?_⟩
    have O := O.join O1
    clear O1
    obtain ⟨B14, e14, hpm, O⟩ := fz O
    have hR := hR.ex e14
    have hWo := hWo.ex e14
    have hD2 := hD2.ex e14
    have hD3 := hD3.ex e14
    have hD4 := hD4.ex e14
    have hd := e14 _ _ hd
    have hp := e14 _ _ hp
    have hT := tds_ex e14 hT
    refine g_iListv (.inl (.inl (O.fr _ _ hpm))) ?_
    refine lcB_list (modN.map V.str) (fun D i H' => ∃ (B' : Hp) (zs : List V) (ps1 : Array Value), Same B14 B' ∧ TabI B' (qLam "Deeds.row") ps1 ∧ Own B' ((D, .lst zs) :: (DeedsC T.a_Deeds o dx Ro ao wso ++ [(T.ta_Deeds_row, .tbl ps1)])) H' ∧ zs.length = i ∧ ∀ j, j < i → ∃ q wq, zs[j]? = some (.ref q) ∧ B' q = some (.lst wq) ∧ TdAll B' wq (((rowOf (modN.getD j Str.empty) (rowsOf (trs.take cnt))).map (·.1)).map kzD)) ?_ ?_ ?_ ?_
    · intro D nD
      exact ⟨B14, [], #[], Same.refl _, TabI.nil, O.alloc nD, rfl, fun j hj => absurd hj (Nat.not_lt_zero j)⟩
    · rintro D i H' _ ⟨B', zs, ps1, eB, _, O, _⟩
      exact .inl (.inl (O.fr _ _ (eB _ _ hpm)))
    · clear O
      rintro D i v H12 hv ⟨B', zs, ps1, eB, hI, O, hzl, hz⟩
      have hil : i < modN.length := by have := (List.getElem?_eq_some_iff.mp hv).1; rwa [List.length_map] at this
      have hv2 : v = .str (modN.getD i Str.empty) := by
        rw [List.getElem?_map, List.getElem?_eq_getElem hil] at hv
        rw [List.getD_eq_getElem?_getD, List.getElem?_eq_getElem hil]
        exact (Option.some.inj hv).symm
      subst hv2
      have hmod : modN.length = 4 := rfl
      walk_at "z"
      refine iteT ?_
      walk_at "z"
      have hoA : DeedsAt H12 T.a_Deeds o Ro ao (rowsOf (trs.take cnt)) := deedsAt_of (fun c hc => O.have_ c (.tail _ (List.mem_append.mpr (.inl hc)))) hlo ((hWo.ex eB).ex O.fr)
      have hj : ((D, HO.lst zs) :: (DeedsC T.a_Deeds o dx Ro ao wso ++ [(T.ta_Deeds_row, HO.tbl ps1)]))[((DeedsC T.a_Deeds o dx Ro ao wso).length + 0) + 1]? = some (T.ta_Deeds_row, .tbl ps1) := by
        rw [List.getElem?_cons_succ]
        exact get_end (X := DeedsC T.a_Deeds o dx Ro ao wso) (M := [(T.ta_Deeds_row, HO.tbl ps1)]) (i := 0) rfl
      refine ⟨o, Ro, ao, rowsOf (trs.take cnt), _, _, ps1, rfl, hoA, hok0, hN0, O.get _ hj, hI.ex O.fr, fun B1 p5 w5 ps1' H13 e1 O1 hJ hT5 => ?_⟩
      obtain ⟨B2', e2', O, im⟩ := O.callM (ds := [(p5, .lst w5)]) hj e1 O1 (.cons rfl ((DeedsC.mut _ _ _ _ _ _).app (.cons rfl .nil))) (.cons rfl .nil) rfl
      have hI := im.tab (hJ.ex O1.fr)
      have hT5 := im.tds (tds_ex O1.fr hT5)
      have hset : ((D, HO.lst zs) :: (DeedsC T.a_Deeds o dx Ro ao wso ++ [(T.ta_Deeds_row, HO.tbl ps1)])).set (((DeedsC T.a_Deeds o dx Ro ao wso).length + 0) + 1) (T.ta_Deeds_row, HO.tbl ps1') = (D, HO.lst zs) :: (DeedsC T.a_Deeds o dx Ro ao wso ++ [(T.ta_Deeds_row, HO.tbl ps1')]) := by
        rw [List.set_cons_succ]
        exact congrArg _ (set_end (X := DeedsC T.a_Deeds o dx Ro ao wso) (M := [(T.ta_Deeds_row, HO.tbl ps1)]) (i := 0))
      rw [hset] at O
      have O : Own B2' ((p5, .lst w5) :: ((D, .lst zs) :: (DeedsC T.a_Deeds o dx Ro ao wso ++ [(T.ta_Deeds_row, .tbl ps1')]))) H13 := O
      obtain ⟨B3', e3', hp5, O⟩ := fz O
      refine g_lcPut O 0 rfl (small_of (by omega)) fun H14 O => ?_
      refine ⟨B3', _, ps1', (eB.trans e2').trans e3', hI.ex e3', O, by rw [List.length_append, hzl]; rfl, fun j hj => ?_⟩
      by_cases hji : j < i
      · obtain ⟨q', wq, h1, h2, h3⟩ := hz j hji
        exact ⟨q', wq, by rw [List.getElem?_append_left (by omega)]; exact h1, e3' _ _ (e2' _ _ h2), tds_ex (e2'.trans e3') h3⟩
      · have : j = i := by omega
        subst this
        exact ⟨p5, w5, by rw [List.getElem?_append_right (by omega), hzl, Nat.sub_self]; rfl, hp5, tds_ex e3' hT5⟩
    clear O
    rintro mk H12 nmk ⟨B15, zs, ps1, e15, hI, O, hzl, hz⟩
    obtain ⟨B16, e16, hmk, O⟩ := fz O
    have e1516 := e15.trans e16
    have hI := hI.ex e16
    have hR := hR.ex e1516
    have hWo := hWo.ex e1516
    have hD2 := hD2.ex e1516
    have hD3 := hD3.ex e1516
    have hD4 := hD4.ex e1516
    have hd := e1516 _ _ hd
    have hp := e1516 _ _ hp
    have hT := tds_ex e1516 hT
    have hz : ∀ j, j < 4 → ∃ q wq, zs[j]? = some (.ref q) ∧ B16 q = some (.lst wq) ∧ TdAll B16 wq (((rowOf (modN.getD j Str.empty) (rowsOf (trs.take cnt))).map (·.1)).map kzD) := fun j hj => by
      obtain ⟨q', wq, h1, h2, h3⟩ := hz j (by rw [List.length_map]; exact hj)
      exact ⟨q', wq, h1, e16 _ _ h2, tds_ex e16 h3⟩
    have hzl : zs.length = 4 := by rw [hzl, List.length_map]; rfl
    walk_at "z"
    refine g_slL (.inl (.inl (O.fr _ _ hp))) ?_
    rw [cut_drop (by omega), Int.toNat_natCast]
    refine g_newQ O fun pd H13 npd O => ?_
    obtain ⟨B17, e17, hpd, O⟩ := fz O
    have hI := hI.ex e17
    have hR := hR.ex e17
    have hWo := hWo.ex e17
    have hD2 := hD2.ex e17
    have hD3 := hD3.ex e17
    have hD4 := hD4.ex e17
    have hmk := e17 _ _ hmk
    have hT := tds_ex e17 hT
    have hTd := tds_dropE cnt hT
    have hTdl := tds_len hTd
    rw [List.length_map, List.length_drop, List.length_drop] at hTdl
    refine g_iListv (.inl (.inl (O.fr _ _ hpd))) ?_
    refine forB_list (ws.drop cnt) (fun i σ H' => ∃ (wF : List (List V)) (x8 x9 x11 x13 : Option V), σ = [some (.ref a), some (.ref d), some (.int (cnt : Nat)), some (.ref p), some (.ref R), some (.ref o), some (.ref o2), some (.ref x), x8, x9, some (.ref o4), x11, some (.ref mk), x13, none, none, none, none] ∧ wF.length = ao.length ∧ WsOk B17 wF (rowsOf (trs.take (cnt + i))) ∧ Own B17 (DeedsC T.a_Deeds o dx Ro ao wF ++ [(T.ta_Deeds_row, .tbl ps1)]) H') ?_ ?_ ?_ ?_
    · exact ⟨wso, _, _, _, _, rfl, hlo.symm, hWo, O⟩
    · rintro i σ H' _ ⟨wF, x8, x9, x11, x13, rfl, _, _, O⟩
      exact .inl (.inl (O.fr _ _ hpd))
    · clear O hWo
      rintro i v σ H14 hv ⟨wF, x8, x9, x11, x13, rfl, hwF, hWF, O⟩
      obtain ⟨y, hy, hTy⟩ := tds_at' hTd hv
      have hy8 := hTr.r8 y (List.mem_of_mem_drop (List.mem_of_getElem? hy))
      obtain ⟨b, vd, rfl, hb, hvd⟩ := td_T3 hTy
      have hao8 : ao.length = 8 := by rw [← hwF, hWF.1, rowsOf_len]
      have hao : ao[y.1]? = some (ao[y.1]'(by omega)) := List.getElem?_eq_getElem _
      have hwar : wF[y.1]? = some (wF[y.1]'(by omega)) := List.getElem?_eq_getElem _
      have hwaz := hWF.len_at hwar
      have hsr := rowsOf_short (trs.take (cnt + i)) y.1
      rw [List.length_take] at hsr
      have hw1000 : (wF[y.1]'(by omega)).length ≤ 1000 := by omega
      have hcell : (DeedsC T.a_Deeds o dx Ro ao wF ++ [(T.ta_Deeds_row, HO.tbl ps1)])[y.1 + 2]? = some (ao[y.1]'(by omega), .lst (wF[y.1]'(by omega))) := by
        rw [List.getElem?_append_left (by show y.1 + 2 < (_ :: _ :: rc ao wF).length; rw [List.length_cons, List.length_cons, rc_len (by omega)]; omega)]
        exact rc_get hao hwar
      refine g_gtup (.inl (.inl (O.fr _ _ hb))) rfl ?_
      walk_at "z"
      refine g_methK (O.get 0) (dfl_n Ro (by decide +kernel)) ?_
      walk_at "z"
      refine ⟨o, dx, Ro, _, ao, ((y.1 : Nat) : Int), vd, _, rfl, O.get 0, O.get 1, Int.natCast_nonneg _, by rw [Int.toNat_natCast]; exact hao, O.get _ hcell, hw1000, fun H11 e11 h11 => ?_⟩
      have O := O.mut _ hcell e11 h11
      rw [List.set_append_left _ _ (by show y.1 + 2 < (_ :: _ :: rc ao wF).length; rw [List.length_cons, List.length_cons, rc_len (by omega)]; omega)] at O
      have hs : (DeedsC T.a_Deeds o dx Ro ao wF).set (y.1 + 2) (ao[y.1]'(by omega), .lst (wF[y.1]'(by omega) ++ [vd])) = DeedsC T.a_Deeds o dx Ro ao (wF.set y.1 (wF[y.1]'(by omega) ++ [vd])) := by
        unfold DeedsC RowsC
        rw [List.set_cons_succ, List.set_cons_succ, rc_set hao]
      rw [hs] at O
      refine ⟨_, _, _, _, _, rfl, by rw [List.length_set]; exact hwF, ?_, O⟩
      rw [← Nat.add_assoc, rowsOf_drop trs cnt i hy]
      exact hWF.add hwar hvd
    clear O hWo
    rintro σ H14 ⟨wF, x8, x9, x11, x13, rfl, hwF, hWF, O⟩
    rw [show cnt + (ws.drop cnt).length = trs.length by rw [List.length_drop]; omega, List.take_length] at hWF
    obtain ⟨B18, e18, O, hDc⟩ := Own.frz O
    have hD1 : DeedsAt B18 T.a_Deeds o Ro ao (rowsOf trs) := deedsAt_of hDc hwF.symm (hWF.ex e18)
    clear hDc hWF
    have e1718 := e17.trans e18
    have hI := hI.ex e18
    have hR := hR.ex e18
    have hD2 := hD2.ex e18
    have hD3 := hD3.ex e18
    have hD4 := hD4.ex e18
    have hmk := e18 _ _ hmk
    have hz : ∀ j, j < 4 → ∃ q wq, zs[j]? = some (.ref q) ∧ B18 q = some (.lst wq) ∧ TdAll B18 wq (((rowOf (modN.getD j Str.empty) (rowsOf (trs.take cnt))).map (·.1)).map kzD) := fun j hj => by
      obtain ⟨q', wq, h1, h2, h3⟩ := hz j hj
      exact ⟨q', wq, h1, e1718 _ _ h2, tds_ex e1718 h3⟩
    clear hd hp hT hTd hpd hpm hTdl
    walk_at "z"
    refine g_lenL (.inl (.inl (O.fr _ _ hmk))) ?_
    rw [hzl]
    walk_at "z"
    refine forB_rng0 (fun k σ H' => ∃ (B' : Hp) (qs : Array Value) (x11 x14 x15 x16 : Option V), σ = [some (.ref a), some (.ref d), some (.int (cnt : Nat)), some (.ref p), some (.ref R), some (.ref o), some (.ref o2), some (.ref x), x8, x9, some (.ref o4), x11, some (.ref mk), x13, x14, x15, x16, none] ∧ Same B18 B' ∧ TabI B' (qLam "Deeds.row") qs ∧ Own B' [(T.ta_Deeds_row, .tbl qs)] H') ?_ ?_ ?_
    · exact ⟨B18, ps1, _, _, _, _, rfl, Same.refl _, hI, O⟩
    · clear O hI
      rintro k σ H15 hk ⟨B, qs, x11, x14, x15, x16, rfl, eB, hI, O⟩
      have hk : k < 4 := by omega
      have hR := hR.ex eB
      have hD1 := hD1.ex eB
      have hD2 := hD2.ex eB
      have hD3 := hD3.ex eB
      have hD4 := hD4.ex eB
      have hmk := eB _ _ hmk
      obtain ⟨q0, w0, hz1, hq0, hT0⟩ := hz k hk
      have hq0 := eB _ _ hq0
      have hT0 := tds_ex eB hT0
      generalize hrws : rowsOf trs = rows at *
      generalize hrws0 : rowsOf (trs.take cnt) = rows0 at *
      have hmN : modN[k]? = some (modN.getD k Str.empty) := by
        rw [List.getD_eq_getElem?_getD, List.getElem?_eq_getElem (show k < modN.length from hk)]
        rfl
      generalize modN.getD k Str.empty = m at *
      have hrl := row_len m hok hN
      have hrl0 := row_len m hok0 hN0
      walk_at "z"
      refine ⟨rfl, fun pm2 H16 O1 => ?_⟩
      have O := O.join O1
      clear O1
      walk_at "z"
      refine g_ixL (v := .str m) (O.lst 0) (atI_nat (by rw [List.getElem?_map, hmN]; rfl)) ?_
      have O := O.tail
      walk_at "z"
      refine g_ixL (.inl (.inl (O.fr _ _ hmk))) (atI_nat hz1) ?_
      walk_at "z"
      refine ⟨o2, Ro2, ao2, rows, m, _, qs, rfl, hD2.ex O.fr, hok, hN, O.get 0, hI.ex O.fr, fun B1 p5 w5 qs1 H17 e1 O1 hJ hT5 => ?_⟩
      obtain ⟨B2', e2', O, im⟩ := O.callM (j := 0) (ds := [(p5, .lst w5)]) rfl e1 O1 (.cons rfl .nil) (.cons rfl .nil) rfl
      have hI := im.tab (hJ.ex O1.fr)
      have hT5 := im.tds (tds_ex O1.fr hT5)
      clear O1 e1 im hJ
      have O : Own B2' [(p5, .lst w5), (T.ta_Deeds_row, .tbl qs1)] H17 := O
      obtain ⟨C1, c1, hp5, O⟩ := fz O
      have hI := hI.ex c1
      have hT5 := tds_ex c1 hT5
      have eC1 := e2'.trans c1
      walk_at "z"
      obtain ⟨dxa, ho1⟩ := hD1.obj
      obtain ⟨dxb, ho2⟩ := hD2.obj
      obtain ⟨dxc, ho3⟩ := hD3.obj
      obtain ⟨dxd, ho4⟩ := hD4.obj
      -- a row, told by an object
      have tell : ∀ {C H' : Hp} {cs : List (Addr × HO)} {qs : Array Value} {o Ro : Addr} {ao : List Addr} {Q : VK}, Same B C → Own C (cs ++ [(T.ta_Deeds_row, .tbl qs)]) H' → TabI C (qLam "Deeds.row") qs → Zl.Mut cs → DeedsAt B T.a_Deeds o Ro ao rows →
          (∀ (C' : Hp) (p : Addr) (w : List V) (qs' : Array Value) (H'' : Hp), Same C C' → Own C' ((p, .lst w) :: (cs ++ [(T.ta_Deeds_row, .tbl qs')])) H'' → TabI C' (qLam "Deeds.row") qs' → TdAll C' w ((rowOf m rows).map encR) → Q (.ref p) H'') → sp_drow T.a_Deeds T.ta_Deeds_row [.ref o, .str m] H' Q E0 := by
        intro C H' cs qs o Ro ao Q eC O hI hmut hD k
        refine ⟨o, Ro, ao, rows, m, qs, rfl, (hD.ex eC).ex O.fr, hok.sz, hok.rm hN m, O.get _ (get_end (i := 0) rfl), hI.ex O.fr, fun B1 p w qs' H'' e1 O1 hJ hT => ?_⟩
        obtain ⟨C', e', O', im⟩ := O.callM (ds := [(p, .lst w)]) (get_end (i := 0) rfl) e1 O1 (hmut.app (.cons rfl .nil)) (.cons rfl .nil) rfl
        rw [set_end] at O'
        exact k C' p w qs' H'' e' O' (im.tab (hJ.ex O1.fr)) (im.tds (tds_ex O1.fr hT))
      have cmp : ∀ {C H' : Hp} {p1 p2 : Addr} {w1 w2 : List V} {qs : Array Value} {Q : VK}, Own C [(p2, .lst w2), (p1, .lst w1), (T.ta_Deeds_row, .tbl qs)] H' → TdAll C w1 ((rowOf m rows).map encR) → TdAll C w2 ((rowOf m rows).map encR) → (∀ H'', Own C [(T.ta_Deeds_row, .tbl qs)] H'' → Q (.bl true) H'') → sp__law_same 12 K [.ref p1, .ref p2] H' Q E0 := by
        intro C H' p1 p2 w1 w2 qs Q O h1 h2 k
        exact same_ok (.lst (O.lst 1) (tds_dp (tds_ex O.fr h1))) (.lst (O.lst 0) (tds_dp (tds_ex O.fr h2))) (dl_cells 8 (by omega)) fun H'' e => k H'' (O.ex e).tail.tail
      refine g_methK (O.fr _ _ (eC1 _ _ ho1)) (dfl_n Ro (by decide +kernel)) ?_
      walk_at "z"
      refine tell (cs := []) eC1 O hI .nil hD1 fun C2 p1 w1 qs2 H18 eC2 O hI hT1 => ?_
      have e2C := eC1.trans eC2
      walk_at "z"
      refine g_methK (O.fr _ _ (e2C _ _ ho2)) (dfl_n Ro2 (by decide +kernel)) ?_
      walk_at "z"
      refine tell (cs := [(p1, .lst w1)]) e2C O hI (.cons rfl .nil) hD2 fun C3 p2 w2 qs3 H19 eC3 O hI hT2 => ?_
      have e3C := e2C.trans eC3
      walk_at "z"
      refine cmp O (tds_ex eC3 hT1) hT2 fun H20 O => ?_
      clear hT1 hT2
      walk_at "z"
      refine iteF ?_
      walk_at "z"
      refine ite_d (fun h => nomatch h) (fun _ => ?_)
      walk_at "z"
      refine ite_d (fun h => nomatch h) (fun _ => ?_)
      walk_at "z"
      have hp5 := (eC2.trans eC3) _ _ hp5
      have hT5 := tds_ex (eC2.trans eC3) hT5
      have hq0 := e3C _ _ hq0
      have hT0 := tds_ex e3C hT0
      refine ⟨R, p5, as, rows, m, _, w5, rfl, (hR.ex e3C).ex O.fr, hok, hN, O.fr _ _ hp5, tds_ex O.fr hT5, fun H21 e21 => ?_⟩
      have O := O.ex e21
      walk_at "z"
      refine iteF ?_
      walk_at "z"
      have hst := row_stays hok hN hok0 hN0 hsub m
      have hmkl := tds_len hT5
      rw [List.length_map, List.length_map] at hmkl
      have hmkl0 : ((rowOf m rows).map (·.1)).length = (rowOf m rows).length := List.length_map ..
      generalize hks : (rowOf m rows).map (·.1) = ks at *
      generalize hks0 : (rowOf m rows0).map (·.1) = ks0 at *
      refine g_iListv (.inl (.inl (O.fr _ _ hp5))) ?_
      refine lcB_list w5 (fun D i H' => ∃ zs : List V, Own C3 [(D, .lst zs), (T.ta_Deeds_row, .tbl qs3)] H' ∧ TdAll C3 zs (((ks.take i).filter fun k => ks0.contains k).map kzD)) ?_ ?_ ?_ ?_
      · intro D nD
        exact ⟨[], O.alloc nD, .nil⟩
      · rintro D i H' _ ⟨zs, O, _⟩
        exact .inl (.inl (O.fr _ _ hp5))
      · clear O
        rintro D i v H22 hv ⟨zs, O, hzs⟩
        obtain ⟨b, hb, hTb⟩ := tds_at' hT5 hv
        have hzl2 := tds_len hzs
        have hfl := List.length_filter_le (fun k => ks0.contains k) (ks.take i)
        rw [List.length_map] at hzl2
        rw [List.length_take] at hfl
        rw [take_succ_of hb, List.filter_append]
        walk_at "z"
        refine g_inK (.inl (.inl (O.fr _ _ hq0))) (tds_ex O.fr hT0) (td_ex O.fr hTb) ?_
        walk_at "z"
        refine ite_b (fun hc => ?_) (fun hc => ?_)
        · walk_at "z"
          refine g_lcPut O 0 rfl (small_of (by omega)) fun H23 O => ?_
          refine ⟨_, O, ?_⟩
          rw [List.filter_cons_of_pos (p := fun k => ks0.contains k) (a := b) (l := []) hc, List.filter_nil, List.map_append]
          exact tds_snoc hzs hTb
        · refine ⟨zs, O, ?_⟩
          rw [List.filter_cons_of_neg (p := fun k => ks0.contains k) (a := b) (l := []) (by rw [hc]; exact Bool.false_ne_true), List.filter_nil, List.append_nil]
          exact hzs
      clear O
      rintro fl H22 nfl ⟨zs2, O, hzs2⟩
      rw [List.take_of_length_le (by omega), hst] at hzs2
      walk_at "z"
      refine g_neD (.lst (O.lst 0) (tds_dp (tds_ex O.fr hzs2))) (.lst (.inl (.inl (O.fr _ _ hq0))) (tds_dp (tds_ex O.fr hT0))) (shaped_kzs _) (shaped_kzs _) ?_
      rw [eqv_kzs]
      walk_at "z"
      refine iteF ?_
      have O := O.tail
      walk_at "z"
      refine g_methK (O.fr _ _ (e3C _ _ ho3)) (dfl_n Ro3 (by decide +kernel)) ?_
      walk_at "z"
      refine tell (cs := []) e3C O hI .nil hD3 fun C4 p1 w1 qs4 H18 eC4 O hI hT1 => ?_
      have e4C := e3C.trans eC4
      walk_at "z"
      refine g_methK (O.fr _ _ (e4C _ _ ho2)) (dfl_n Ro2 (by decide +kernel)) ?_
      walk_at "z"
      refine tell (cs := [(p1, .lst w1)]) e4C O hI (.cons rfl .nil) hD2 fun C5 p2 w2 qs5 H19 eC5 O hI hT2 => ?_
      have e5C := e4C.trans eC5
      walk_at "z"
      refine cmp O (tds_ex eC5 hT1) hT2 fun H20 O => ?_
      clear hT1 hT2
      walk_at "z"
      refine iteF ?_
      walk_at "z"
      refine g_methK (O.fr _ _ (e5C _ _ ho4)) (dfl_n Ro4 (by decide +kernel)) ?_
      walk_at "z"
      refine tell (cs := []) e5C O hI .nil hD4 fun C6 p1 w1 qs6 H18 eC6 O hI hT1 => ?_
      have e6C := e5C.trans eC6
      walk_at "z"
      refine g_methK (O.fr _ _ (e6C _ _ ho2)) (dfl_n Ro2 (by decide +kernel)) ?_
      walk_at "z"
      refine tell (cs := [(p1, .lst w1)]) e6C O hI (.cons rfl .nil) hD2 fun C7 p2 w2 qs7 H19 eC7 O hI hT2 => ?_
      have e7C := e6C.trans eC7
      walk_at "z"
      refine cmp O (tds_ex eC7 hT1) hT2 fun H20 O => ?_
      walk_at "z"
      refine iteF ?_
      exact ⟨C7, qs7, _, _, _, _, rfl, eB.trans e7C, hI, O⟩
    · clear O hI
      rintro σ H15 ⟨B, qs, x11, x14, x15, x16, rfl, eB, hI, O⟩
      walk_at "z"
      exact q _

end
/-! ### what the top has written; the law's own head -/
def mk_txt {K : PySem.W.Frag} {h : Heap} {mg : Str → Option Value} {C_Deeds f__wall f_inserted f_Deeds___init__ f_Deeds_counts f_Deeds_add f_Deeds_copy f_Deeds_forces f_Deeds_in_force f_Deeds_changes f_Deeds_modules f_Deeds_row co_Deeds_row f_Deeds_text f_Deeds_last_number f_Deeds_fits f__law_mix f__law_draws f__law_at f__law_is_integer f__law_same f__law_inserted f__law_forces f__law_changes f__law_row co__law_row f__law_last f__law_modules f__law_letters f__law_deed f__law_visible f__law_triples f__law_rows_of f__law_deeds f__law_marks f__law_stands f__law_mixed f_law : Addr} (ta_Deeds_row ta__law_row : Addr) (X : K.In h) (G : h.Ns mainGlobals mg)
    {od__wall an__wall : Option Addr} {sl__wall : Array (Option Value)} {oc__wall kV__wall dc__wall pm__wall cd__wall ct__wall : Value}
    {od_inserted an_inserted : Option Addr} {sl_inserted : Array (Option Value)} {oc_inserted kV_inserted dc_inserted pm_inserted cd_inserted ct_inserted : Value}
    {od_Deeds___init__ an_Deeds___init__ : Option Addr} {sl_Deeds___init__ : Array (Option Value)} {oc_Deeds___init__ kV_Deeds___init__ dc_Deeds___init__ pm_Deeds___init__ cd_Deeds___init__ ct_Deeds___init__ : Value}
    {od_Deeds_counts an_Deeds_counts : Option Addr} {sl_Deeds_counts : Array (Option Value)} {oc_Deeds_counts kV_Deeds_counts dc_Deeds_counts pm_Deeds_counts cd_Deeds_counts ct_Deeds_counts : Value}
    {od_Deeds_add an_Deeds_add : Option Addr} {sl_Deeds_add : Array (Option Value)} {oc_Deeds_add kV_Deeds_add dc_Deeds_add pm_Deeds_add cd_Deeds_add ct_Deeds_add : Value}
    {od_Deeds_copy an_Deeds_copy : Option Addr} {sl_Deeds_copy : Array (Option Value)} {oc_Deeds_copy kV_Deeds_copy dc_Deeds_copy pm_Deeds_copy cd_Deeds_copy ct_Deeds_copy : Value}
    {od_Deeds_forces an_Deeds_forces : Option Addr} {sl_Deeds_forces : Array (Option Value)} {oc_Deeds_forces kV_Deeds_forces dc_Deeds_forces pm_Deeds_forces cd_Deeds_forces ct_Deeds_forces : Value}
    {od_Deeds_in_force an_Deeds_in_force : Option Addr} {sl_Deeds_in_force : Array (Option Value)} {oc_Deeds_in_force kV_Deeds_in_force dc_Deeds_in_force pm_Deeds_in_force cd_Deeds_in_force ct_Deeds_in_force : Value}
    {od_Deeds_changes an_Deeds_changes : Option Addr} {sl_Deeds_changes : Array (Option Value)} {oc_Deeds_changes kV_Deeds_changes dc_Deeds_changes pm_Deeds_changes cd_Deeds_changes ct_Deeds_changes : Value}
    {od_Deeds_modules an_Deeds_modules : Option Addr} {sl_Deeds_modules : Array (Option Value)} {oc_Deeds_modules kV_Deeds_modules dc_Deeds_modules pm_Deeds_modules cd_Deeds_modules ct_Deeds_modules : Value}
    {od_Deeds_row an_Deeds_row : Option Addr} {sl_Deeds_row : Array (Option Value)} {oc_Deeds_row kV_Deeds_row dc_Deeds_row pm_Deeds_row ct_Deeds_row : Value}
    {od_Deeds_text an_Deeds_text : Option Addr} {sl_Deeds_text : Array (Option Value)} {oc_Deeds_text kV_Deeds_text dc_Deeds_text pm_Deeds_text cd_Deeds_text ct_Deeds_text : Value}
    {od_Deeds_last_number an_Deeds_last_number : Option Addr} {sl_Deeds_last_number : Array (Option Value)} {oc_Deeds_last_number kV_Deeds_last_number dc_Deeds_last_number pm_Deeds_last_number cd_Deeds_last_number ct_Deeds_last_number : Value}
    {od_Deeds_fits an_Deeds_fits : Option Addr} {sl_Deeds_fits : Array (Option Value)} {oc_Deeds_fits kV_Deeds_fits dc_Deeds_fits pm_Deeds_fits cd_Deeds_fits ct_Deeds_fits : Value}
    {od__law_mix an__law_mix : Option Addr} {sl__law_mix : Array (Option Value)} {oc__law_mix kV__law_mix dc__law_mix pm__law_mix cd__law_mix ct__law_mix : Value}
    {od__law_draws an__law_draws : Option Addr} {sl__law_draws : Array (Option Value)} {oc__law_draws kV__law_draws dc__law_draws pm__law_draws cd__law_draws ct__law_draws : Value}
    {od__law_at an__law_at : Option Addr} {sl__law_at : Array (Option Value)} {oc__law_at kV__law_at dc__law_at pm__law_at cd__law_at ct__law_at : Value}
    {od__law_is_integer an__law_is_integer : Option Addr} {sl__law_is_integer : Array (Option Value)} {oc__law_is_integer kV__law_is_integer dc__law_is_integer pm__law_is_integer cd__law_is_integer ct__law_is_integer : Value}
    {od__law_same an__law_same : Option Addr} {sl__law_same : Array (Option Value)} {oc__law_same kV__law_same dc__law_same pm__law_same cd__law_same ct__law_same : Value}
    {od__law_inserted an__law_inserted : Option Addr} {sl__law_inserted : Array (Option Value)} {oc__law_inserted kV__law_inserted dc__law_inserted pm__law_inserted cd__law_inserted ct__law_inserted : Value}
    {od__law_forces an__law_forces : Option Addr} {sl__law_forces : Array (Option Value)} {oc__law_forces kV__law_forces dc__law_forces pm__law_forces cd__law_forces ct__law_forces : Value}
    {od__law_changes an__law_changes : Option Addr} {sl__law_changes : Array (Option Value)} {oc__law_changes kV__law_changes dc__law_changes pm__law_changes cd__law_changes ct__law_changes : Value}
    {od__law_row an__law_row : Option Addr} {sl__law_row : Array (Option Value)} {oc__law_row kV__law_row dc__law_row pm__law_row ct__law_row : Value}
    {od__law_last an__law_last : Option Addr} {sl__law_last : Array (Option Value)} {oc__law_last kV__law_last dc__law_last pm__law_last cd__law_last ct__law_last : Value}
    {od__law_modules an__law_modules : Option Addr} {sl__law_modules : Array (Option Value)} {oc__law_modules kV__law_modules dc__law_modules pm__law_modules cd__law_modules ct__law_modules : Value}
    {od__law_letters an__law_letters : Option Addr} {sl__law_letters : Array (Option Value)} {oc__law_letters kV__law_letters dc__law_letters pm__law_letters cd__law_letters ct__law_letters : Value}
    {od__law_deed an__law_deed : Option Addr} {sl__law_deed : Array (Option Value)} {oc__law_deed kV__law_deed dc__law_deed pm__law_deed cd__law_deed ct__law_deed : Value}
    {od__law_visible an__law_visible : Option Addr} {sl__law_visible : Array (Option Value)} {oc__law_visible kV__law_visible dc__law_visible pm__law_visible cd__law_visible ct__law_visible : Value}
    {od__law_triples an__law_triples : Option Addr} {sl__law_triples : Array (Option Value)} {oc__law_triples kV__law_triples dc__law_triples pm__law_triples cd__law_triples ct__law_triples : Value}
    {od__law_rows_of an__law_rows_of : Option Addr} {sl__law_rows_of : Array (Option Value)} {oc__law_rows_of kV__law_rows_of dc__law_rows_of pm__law_rows_of cd__law_rows_of ct__law_rows_of : Value}
    {od__law_deeds an__law_deeds : Option Addr} {sl__law_deeds : Array (Option Value)} {oc__law_deeds kV__law_deeds dc__law_deeds pm__law_deeds cd__law_deeds ct__law_deeds : Value}
    {od__law_marks an__law_marks : Option Addr} {sl__law_marks : Array (Option Value)} {oc__law_marks kV__law_marks dc__law_marks pm__law_marks cd__law_marks ct__law_marks : Value}
    {od__law_stands an__law_stands : Option Addr} {sl__law_stands : Array (Option Value)} {oc__law_stands kV__law_stands dc__law_stands pm__law_stands cd__law_stands ct__law_stands : Value}
    {od__law_mixed an__law_mixed : Option Addr} {sl__law_mixed : Array (Option Value)} {oc__law_mixed kV__law_mixed dc__law_mixed pm__law_mixed cd__law_mixed ct__law_mixed : Value}
    {od_law an_law : Option Addr} {sl_law : Array (Option Value)} {oc_law kV_law dc_law pm_law cd_law ct_law : Value}
    {tk_R : Tok}
    (aC_Deeds : PySem.W.nsIn K mainGlobals "Deeds" = some (some (.ref C_Deeds)))
    (pg_Deeds : PySem.W.plainGet K C_Deeds Str.empty = true)
    (hd_Deeds : PySem.W.hasDictIn K C_Deeds = true)
    (po_Deeds : PySem.W.plainOver K C_Deeds = true)
    (sa_Deeds : PySem.W.findIn K (.ref C_Deeds) "__setattr__" = some (some (.builtin "object.__setattr__")))
    (mk_Deeds : PySem.W.makesIn K C_Deeds = true)
    (kC_Deeds : PySem.W.keepIn K (.ref C_Deeds) = true)
    (nA_Deeds_rows : PySem.W.findIn K (.ref C_Deeds) "rows" = some none)
    (a__wall : PySem.W.nsIn K mainGlobals "_wall" = some (some (.ref f__wall)))
    (l__wall : K.lookup f__wall = some ⟨oc__wall, od__wall, .func (PySem.W.fnOf "_wall" "_wall" (defArgs s__wall) (defBody s__wall) (defScope s__wall) .none kV__wall dc__wall pm__wall an__wall cd__wall ct__wall), sl__wall⟩)
    (c__wall : PySem.W.codeIn K cd__wall "_wall" = true)
    (k__wall : PySem.W.keepIn K (.ref f__wall) = true)
    (a_inserted : PySem.W.nsIn K mainGlobals "inserted" = some (some (.ref f_inserted)))
    (l_inserted : K.lookup f_inserted = some ⟨oc_inserted, od_inserted, .func (PySem.W.fnOf "inserted" "inserted" (defArgs s_inserted) (defBody s_inserted) (defScope s_inserted) .none kV_inserted dc_inserted pm_inserted an_inserted cd_inserted ct_inserted), sl_inserted⟩)
    (c_inserted : PySem.W.codeIn K cd_inserted "inserted" = true)
    (k_inserted : PySem.W.keepIn K (.ref f_inserted) = true)
    (a_Deeds___init__ : PySem.W.findIn K (.ref C_Deeds) "__init__" = some (some (.ref f_Deeds___init__)))
    (i_Deeds___init__ : PySem.W.isFn K (.ref f_Deeds___init__) = true)
    (l_Deeds___init__ : K.lookup f_Deeds___init__ = some ⟨oc_Deeds___init__, od_Deeds___init__, .func (PySem.W.fnOf "__init__" "Deeds.__init__" (defArgs s_Deeds___init__) (defBody s_Deeds___init__) (defScope s_Deeds___init__) .none kV_Deeds___init__ dc_Deeds___init__ pm_Deeds___init__ an_Deeds___init__ cd_Deeds___init__ ct_Deeds___init__), sl_Deeds___init__⟩)
    (c_Deeds___init__ : PySem.W.codeIn K cd_Deeds___init__ "Deeds.__init__" = true)
    (k_Deeds___init__ : PySem.W.keepIn K (.ref f_Deeds___init__) = true)
    (a_Deeds_counts : PySem.W.findIn K (.ref C_Deeds) "counts" = some (some (.ref f_Deeds_counts)))
    (i_Deeds_counts : PySem.W.isFn K (.ref f_Deeds_counts) = true)
    (l_Deeds_counts : K.lookup f_Deeds_counts = some ⟨oc_Deeds_counts, od_Deeds_counts, .func (PySem.W.fnOf "counts" "Deeds.counts" (defArgs s_Deeds_counts) (defBody s_Deeds_counts) (defScope s_Deeds_counts) .none kV_Deeds_counts dc_Deeds_counts pm_Deeds_counts an_Deeds_counts cd_Deeds_counts ct_Deeds_counts), sl_Deeds_counts⟩)
    (c_Deeds_counts : PySem.W.codeIn K cd_Deeds_counts "Deeds.counts" = true)
    (k_Deeds_counts : PySem.W.keepIn K (.ref f_Deeds_counts) = true)
    (a_Deeds_add : PySem.W.findIn K (.ref C_Deeds) "add" = some (some (.ref f_Deeds_add)))
    (i_Deeds_add : PySem.W.isFn K (.ref f_Deeds_add) = true)
    (l_Deeds_add : K.lookup f_Deeds_add = some ⟨oc_Deeds_add, od_Deeds_add, .func (PySem.W.fnOf "add" "Deeds.add" (defArgs s_Deeds_add) (defBody s_Deeds_add) (defScope s_Deeds_add) .none kV_Deeds_add dc_Deeds_add pm_Deeds_add an_Deeds_add cd_Deeds_add ct_Deeds_add), sl_Deeds_add⟩)
    (c_Deeds_add : PySem.W.codeIn K cd_Deeds_add "Deeds.add" = true)
    (k_Deeds_add : PySem.W.keepIn K (.ref f_Deeds_add) = true)
    (a_Deeds_copy : PySem.W.findIn K (.ref C_Deeds) "copy" = some (some (.ref f_Deeds_copy)))
    (i_Deeds_copy : PySem.W.isFn K (.ref f_Deeds_copy) = true)
    (l_Deeds_copy : K.lookup f_Deeds_copy = some ⟨oc_Deeds_copy, od_Deeds_copy, .func (PySem.W.fnOf "copy" "Deeds.copy" (defArgs s_Deeds_copy) (defBody s_Deeds_copy) (defScope s_Deeds_copy) .none kV_Deeds_copy dc_Deeds_copy pm_Deeds_copy an_Deeds_copy cd_Deeds_copy ct_Deeds_copy), sl_Deeds_copy⟩)
    (c_Deeds_copy : PySem.W.codeIn K cd_Deeds_copy "Deeds.copy" = true)
    (k_Deeds_copy : PySem.W.keepIn K (.ref f_Deeds_copy) = true)
    (a_Deeds_forces : PySem.W.findIn K (.ref C_Deeds) "forces" = some (some (.ref f_Deeds_forces)))
    (i_Deeds_forces : PySem.W.isFn K (.ref f_Deeds_forces) = true)
    (l_Deeds_forces : K.lookup f_Deeds_forces = some ⟨oc_Deeds_forces, od_Deeds_forces, .func (PySem.W.fnOf "forces" "Deeds.forces" (defArgs s_Deeds_forces) (defBody s_Deeds_forces) (defScope s_Deeds_forces) .none kV_Deeds_forces dc_Deeds_forces pm_Deeds_forces an_Deeds_forces cd_Deeds_forces ct_Deeds_forces), sl_Deeds_forces⟩)
    (c_Deeds_forces : PySem.W.codeIn K cd_Deeds_forces "Deeds.forces" = true)
    (k_Deeds_forces : PySem.W.keepIn K (.ref f_Deeds_forces) = true)
    (a_Deeds_in_force : PySem.W.findIn K (.ref C_Deeds) "in_force" = some (some (.ref f_Deeds_in_force)))
    (i_Deeds_in_force : PySem.W.isFn K (.ref f_Deeds_in_force) = true)
    (l_Deeds_in_force : K.lookup f_Deeds_in_force = some ⟨oc_Deeds_in_force, od_Deeds_in_force, .func (PySem.W.fnOf "in_force" "Deeds.in_force" (defArgs s_Deeds_in_force) (defBody s_Deeds_in_force) (defScope s_Deeds_in_force) .none kV_Deeds_in_force dc_Deeds_in_force pm_Deeds_in_force an_Deeds_in_force cd_Deeds_in_force ct_Deeds_in_force), sl_Deeds_in_force⟩)
    (c_Deeds_in_force : PySem.W.codeIn K cd_Deeds_in_force "Deeds.in_force" = true)
    (k_Deeds_in_force : PySem.W.keepIn K (.ref f_Deeds_in_force) = true)
    (a_Deeds_changes : PySem.W.findIn K (.ref C_Deeds) "changes" = some (some (.ref f_Deeds_changes)))
    (i_Deeds_changes : PySem.W.isFn K (.ref f_Deeds_changes) = true)
    (l_Deeds_changes : K.lookup f_Deeds_changes = some ⟨oc_Deeds_changes, od_Deeds_changes, .func (PySem.W.fnOf "changes" "Deeds.changes" (defArgs s_Deeds_changes) (defBody s_Deeds_changes) (defScope s_Deeds_changes) .none kV_Deeds_changes dc_Deeds_changes pm_Deeds_changes an_Deeds_changes cd_Deeds_changes ct_Deeds_changes), sl_Deeds_changes⟩)
    (c_Deeds_changes : PySem.W.codeIn K cd_Deeds_changes "Deeds.changes" = true)
    (k_Deeds_changes : PySem.W.keepIn K (.ref f_Deeds_changes) = true)
    (a_Deeds_modules : PySem.W.findIn K (.ref C_Deeds) "modules" = some (some (.ref f_Deeds_modules)))
    (i_Deeds_modules : PySem.W.isFn K (.ref f_Deeds_modules) = true)
    (l_Deeds_modules : K.lookup f_Deeds_modules = some ⟨oc_Deeds_modules, od_Deeds_modules, .func (PySem.W.fnOf "modules" "Deeds.modules" (defArgs s_Deeds_modules) (defBody s_Deeds_modules) (defScope s_Deeds_modules) .none kV_Deeds_modules dc_Deeds_modules pm_Deeds_modules an_Deeds_modules cd_Deeds_modules ct_Deeds_modules), sl_Deeds_modules⟩)
    (c_Deeds_modules : PySem.W.codeIn K cd_Deeds_modules "Deeds.modules" = true)
    (k_Deeds_modules : PySem.W.keepIn K (.ref f_Deeds_modules) = true)
    (a_Deeds_row : PySem.W.findIn K (.ref C_Deeds) "row" = some (some (.ref f_Deeds_row)))
    (i_Deeds_row : PySem.W.isFn K (.ref f_Deeds_row) = true)
    (l_Deeds_row : K.lookup f_Deeds_row = some ⟨oc_Deeds_row, od_Deeds_row, .func (PySem.W.fnOf "row" "Deeds.row" (defArgs s_Deeds_row) (defBody s_Deeds_row) (defScope s_Deeds_row) .none kV_Deeds_row dc_Deeds_row pm_Deeds_row an_Deeds_row (.ref co_Deeds_row) ct_Deeds_row), sl_Deeds_row⟩)
    (c_Deeds_row : PySem.W.codeIn K (.ref co_Deeds_row) "Deeds.row" = true)
    (k_Deeds_row : PySem.W.keepIn K (.ref f_Deeds_row) = true)
    (a_Deeds_text : PySem.W.findIn K (.ref C_Deeds) "text" = some (some (.ref f_Deeds_text)))
    (i_Deeds_text : PySem.W.isFn K (.ref f_Deeds_text) = true)
    (l_Deeds_text : K.lookup f_Deeds_text = some ⟨oc_Deeds_text, od_Deeds_text, .func (PySem.W.fnOf "text" "Deeds.text" (defArgs s_Deeds_text) (defBody s_Deeds_text) (defScope s_Deeds_text) .none kV_Deeds_text dc_Deeds_text pm_Deeds_text an_Deeds_text cd_Deeds_text ct_Deeds_text), sl_Deeds_text⟩)
    (c_Deeds_text : PySem.W.codeIn K cd_Deeds_text "Deeds.text" = true)
    (k_Deeds_text : PySem.W.keepIn K (.ref f_Deeds_text) = true)
    (a_Deeds_last_number : PySem.W.findIn K (.ref C_Deeds) "last_number" = some (some (.ref f_Deeds_last_number)))
    (i_Deeds_last_number : PySem.W.isFn K (.ref f_Deeds_last_number) = true)
    (l_Deeds_last_number : K.lookup f_Deeds_last_number = some ⟨oc_Deeds_last_number, od_Deeds_last_number, .func (PySem.W.fnOf "last_number" "Deeds.last_number" (defArgs s_Deeds_last_number) (defBody s_Deeds_last_number) (defScope s_Deeds_last_number) .none kV_Deeds_last_number dc_Deeds_last_number pm_Deeds_last_number an_Deeds_last_number cd_Deeds_last_number ct_Deeds_last_number), sl_Deeds_last_number⟩)
    (c_Deeds_last_number : PySem.W.codeIn K cd_Deeds_last_number "Deeds.last_number" = true)
    (k_Deeds_last_number : PySem.W.keepIn K (.ref f_Deeds_last_number) = true)
    (a_Deeds_fits : PySem.W.findIn K (.ref C_Deeds) "fits" = some (some (.ref f_Deeds_fits)))
    (i_Deeds_fits : PySem.W.isFn K (.ref f_Deeds_fits) = true)
    (l_Deeds_fits : K.lookup f_Deeds_fits = some ⟨oc_Deeds_fits, od_Deeds_fits, .func (PySem.W.fnOf "fits" "Deeds.fits" (defArgs s_Deeds_fits) (defBody s_Deeds_fits) (defScope s_Deeds_fits) .none kV_Deeds_fits dc_Deeds_fits pm_Deeds_fits an_Deeds_fits cd_Deeds_fits ct_Deeds_fits), sl_Deeds_fits⟩)
    (c_Deeds_fits : PySem.W.codeIn K cd_Deeds_fits "Deeds.fits" = true)
    (k_Deeds_fits : PySem.W.keepIn K (.ref f_Deeds_fits) = true)
    (a__law_mix : PySem.W.nsIn K mainGlobals "_law_mix" = some (some (.ref f__law_mix)))
    (l__law_mix : K.lookup f__law_mix = some ⟨oc__law_mix, od__law_mix, .func (PySem.W.fnOf "_law_mix" "_law_mix" (defArgs s__law_mix) (defBody s__law_mix) (defScope s__law_mix) .none kV__law_mix dc__law_mix pm__law_mix an__law_mix cd__law_mix ct__law_mix), sl__law_mix⟩)
    (c__law_mix : PySem.W.codeIn K cd__law_mix "_law_mix" = true)
    (k__law_mix : PySem.W.keepIn K (.ref f__law_mix) = true)
    (a__law_draws : PySem.W.nsIn K mainGlobals "_law_draws" = some (some (.ref f__law_draws)))
    (l__law_draws : K.lookup f__law_draws = some ⟨oc__law_draws, od__law_draws, .func (PySem.W.fnOf "_law_draws" "_law_draws" (defArgs s__law_draws) (defBody s__law_draws) (defScope s__law_draws) .none kV__law_draws dc__law_draws pm__law_draws an__law_draws cd__law_draws ct__law_draws), sl__law_draws⟩)
    (c__law_draws : PySem.W.codeIn K cd__law_draws "_law_draws" = true)
    (k__law_draws : PySem.W.keepIn K (.ref f__law_draws) = true)
    (a__law_at : PySem.W.nsIn K mainGlobals "_law_at" = some (some (.ref f__law_at)))
    (l__law_at : K.lookup f__law_at = some ⟨oc__law_at, od__law_at, .func (PySem.W.fnOf "_law_at" "_law_at" (defArgs s__law_at) (defBody s__law_at) (defScope s__law_at) .none kV__law_at dc__law_at pm__law_at an__law_at cd__law_at ct__law_at), sl__law_at⟩)
    (c__law_at : PySem.W.codeIn K cd__law_at "_law_at" = true)
    (k__law_at : PySem.W.keepIn K (.ref f__law_at) = true)
    (a__law_is_integer : PySem.W.nsIn K mainGlobals "_law_is_integer" = some (some (.ref f__law_is_integer)))
    (l__law_is_integer : K.lookup f__law_is_integer = some ⟨oc__law_is_integer, od__law_is_integer, .func (PySem.W.fnOf "_law_is_integer" "_law_is_integer" (defArgs s__law_is_integer) (defBody s__law_is_integer) (defScope s__law_is_integer) .none kV__law_is_integer dc__law_is_integer pm__law_is_integer an__law_is_integer cd__law_is_integer ct__law_is_integer), sl__law_is_integer⟩)
    (c__law_is_integer : PySem.W.codeIn K cd__law_is_integer "_law_is_integer" = true)
    (k__law_is_integer : PySem.W.keepIn K (.ref f__law_is_integer) = true)
    (a__law_same : PySem.W.nsIn K mainGlobals "_law_same" = some (some (.ref f__law_same)))
    (l__law_same : K.lookup f__law_same = some ⟨oc__law_same, od__law_same, .func (PySem.W.fnOf "_law_same" "_law_same" (defArgs s__law_same) (defBody s__law_same) (defScope s__law_same) .none kV__law_same dc__law_same pm__law_same an__law_same cd__law_same ct__law_same), sl__law_same⟩)
    (c__law_same : PySem.W.codeIn K cd__law_same "_law_same" = true)
    (k__law_same : PySem.W.keepIn K (.ref f__law_same) = true)
    (a__law_inserted : PySem.W.nsIn K mainGlobals "_law_inserted" = some (some (.ref f__law_inserted)))
    (l__law_inserted : K.lookup f__law_inserted = some ⟨oc__law_inserted, od__law_inserted, .func (PySem.W.fnOf "_law_inserted" "_law_inserted" (defArgs s__law_inserted) (defBody s__law_inserted) (defScope s__law_inserted) .none kV__law_inserted dc__law_inserted pm__law_inserted an__law_inserted cd__law_inserted ct__law_inserted), sl__law_inserted⟩)
    (c__law_inserted : PySem.W.codeIn K cd__law_inserted "_law_inserted" = true)
    (k__law_inserted : PySem.W.keepIn K (.ref f__law_inserted) = true)
    (a__law_forces : PySem.W.nsIn K mainGlobals "_law_forces" = some (some (.ref f__law_forces)))
    (l__law_forces : K.lookup f__law_forces = some ⟨oc__law_forces, od__law_forces, .func (PySem.W.fnOf "_law_forces" "_law_forces" (defArgs s__law_forces) (defBody s__law_forces) (defScope s__law_forces) .none kV__law_forces dc__law_forces pm__law_forces an__law_forces cd__law_forces ct__law_forces), sl__law_forces⟩)
    (c__law_forces : PySem.W.codeIn K cd__law_forces "_law_forces" = true)
    (k__law_forces : PySem.W.keepIn K (.ref f__law_forces) = true)
    (a__law_changes : PySem.W.nsIn K mainGlobals "_law_changes" = some (some (.ref f__law_changes)))
    (l__law_changes : K.lookup f__law_changes = some ⟨oc__law_changes, od__law_changes, .func (PySem.W.fnOf "_law_changes" "_law_changes" (defArgs s__law_changes) (defBody s__law_changes) (defScope s__law_changes) .none kV__law_changes dc__law_changes pm__law_changes an__law_changes cd__law_changes ct__law_changes), sl__law_changes⟩)
    (c__law_changes : PySem.W.codeIn K cd__law_changes "_law_changes" = true)
    (k__law_changes : PySem.W.keepIn K (.ref f__law_changes) = true)
    (a__law_row : PySem.W.nsIn K mainGlobals "_law_row" = some (some (.ref f__law_row)))
    (l__law_row : K.lookup f__law_row = some ⟨oc__law_row, od__law_row, .func (PySem.W.fnOf "_law_row" "_law_row" (defArgs s__law_row) (defBody s__law_row) (defScope s__law_row) .none kV__law_row dc__law_row pm__law_row an__law_row (.ref co__law_row) ct__law_row), sl__law_row⟩)
    (c__law_row : PySem.W.codeIn K (.ref co__law_row) "_law_row" = true)
    (k__law_row : PySem.W.keepIn K (.ref f__law_row) = true)
    (a__law_last : PySem.W.nsIn K mainGlobals "_law_last" = some (some (.ref f__law_last)))
    (l__law_last : K.lookup f__law_last = some ⟨oc__law_last, od__law_last, .func (PySem.W.fnOf "_law_last" "_law_last" (defArgs s__law_last) (defBody s__law_last) (defScope s__law_last) .none kV__law_last dc__law_last pm__law_last an__law_last cd__law_last ct__law_last), sl__law_last⟩)
    (c__law_last : PySem.W.codeIn K cd__law_last "_law_last" = true)
    (k__law_last : PySem.W.keepIn K (.ref f__law_last) = true)
    (a__law_modules : PySem.W.nsIn K mainGlobals "_law_modules" = some (some (.ref f__law_modules)))
    (l__law_modules : K.lookup f__law_modules = some ⟨oc__law_modules, od__law_modules, .func (PySem.W.fnOf "_law_modules" "_law_modules" (defArgs s__law_modules) (defBody s__law_modules) (defScope s__law_modules) .none kV__law_modules dc__law_modules pm__law_modules an__law_modules cd__law_modules ct__law_modules), sl__law_modules⟩)
    (c__law_modules : PySem.W.codeIn K cd__law_modules "_law_modules" = true)
    (k__law_modules : PySem.W.keepIn K (.ref f__law_modules) = true)
    (a__law_letters : PySem.W.nsIn K mainGlobals "_law_letters" = some (some (.ref f__law_letters)))
    (l__law_letters : K.lookup f__law_letters = some ⟨oc__law_letters, od__law_letters, .func (PySem.W.fnOf "_law_letters" "_law_letters" (defArgs s__law_letters) (defBody s__law_letters) (defScope s__law_letters) .none kV__law_letters dc__law_letters pm__law_letters an__law_letters cd__law_letters ct__law_letters), sl__law_letters⟩)
    (c__law_letters : PySem.W.codeIn K cd__law_letters "_law_letters" = true)
    (k__law_letters : PySem.W.keepIn K (.ref f__law_letters) = true)
    (a__law_deed : PySem.W.nsIn K mainGlobals "_law_deed" = some (some (.ref f__law_deed)))
    (l__law_deed : K.lookup f__law_deed = some ⟨oc__law_deed, od__law_deed, .func (PySem.W.fnOf "_law_deed" "_law_deed" (defArgs s__law_deed) (defBody s__law_deed) (defScope s__law_deed) .none kV__law_deed dc__law_deed pm__law_deed an__law_deed cd__law_deed ct__law_deed), sl__law_deed⟩)
    (c__law_deed : PySem.W.codeIn K cd__law_deed "_law_deed" = true)
    (k__law_deed : PySem.W.keepIn K (.ref f__law_deed) = true)
    (a__law_visible : PySem.W.nsIn K mainGlobals "_law_visible" = some (some (.ref f__law_visible)))
    (l__law_visible : K.lookup f__law_visible = some ⟨oc__law_visible, od__law_visible, .func (PySem.W.fnOf "_law_visible" "_law_visible" (defArgs s__law_visible) (defBody s__law_visible) (defScope s__law_visible) .none kV__law_visible dc__law_visible pm__law_visible an__law_visible cd__law_visible ct__law_visible), sl__law_visible⟩)
    (c__law_visible : PySem.W.codeIn K cd__law_visible "_law_visible" = true)
    (k__law_visible : PySem.W.keepIn K (.ref f__law_visible) = true)
    (a__law_triples : PySem.W.nsIn K mainGlobals "_law_triples" = some (some (.ref f__law_triples)))
    (l__law_triples : K.lookup f__law_triples = some ⟨oc__law_triples, od__law_triples, .func (PySem.W.fnOf "_law_triples" "_law_triples" (defArgs s__law_triples) (defBody s__law_triples) (defScope s__law_triples) .none kV__law_triples dc__law_triples pm__law_triples an__law_triples cd__law_triples ct__law_triples), sl__law_triples⟩)
    (c__law_triples : PySem.W.codeIn K cd__law_triples "_law_triples" = true)
    (k__law_triples : PySem.W.keepIn K (.ref f__law_triples) = true)
    (a__law_rows_of : PySem.W.nsIn K mainGlobals "_law_rows_of" = some (some (.ref f__law_rows_of)))
    (l__law_rows_of : K.lookup f__law_rows_of = some ⟨oc__law_rows_of, od__law_rows_of, .func (PySem.W.fnOf "_law_rows_of" "_law_rows_of" (defArgs s__law_rows_of) (defBody s__law_rows_of) (defScope s__law_rows_of) .none kV__law_rows_of dc__law_rows_of pm__law_rows_of an__law_rows_of cd__law_rows_of ct__law_rows_of), sl__law_rows_of⟩)
    (c__law_rows_of : PySem.W.codeIn K cd__law_rows_of "_law_rows_of" = true)
    (k__law_rows_of : PySem.W.keepIn K (.ref f__law_rows_of) = true)
    (a__law_deeds : PySem.W.nsIn K mainGlobals "_law_deeds" = some (some (.ref f__law_deeds)))
    (l__law_deeds : K.lookup f__law_deeds = some ⟨oc__law_deeds, od__law_deeds, .func (PySem.W.fnOf "_law_deeds" "_law_deeds" (defArgs s__law_deeds) (defBody s__law_deeds) (defScope s__law_deeds) .none kV__law_deeds dc__law_deeds pm__law_deeds an__law_deeds cd__law_deeds ct__law_deeds), sl__law_deeds⟩)
    (c__law_deeds : PySem.W.codeIn K cd__law_deeds "_law_deeds" = true)
    (k__law_deeds : PySem.W.keepIn K (.ref f__law_deeds) = true)
    (a__law_marks : PySem.W.nsIn K mainGlobals "_law_marks" = some (some (.ref f__law_marks)))
    (l__law_marks : K.lookup f__law_marks = some ⟨oc__law_marks, od__law_marks, .func (PySem.W.fnOf "_law_marks" "_law_marks" (defArgs s__law_marks) (defBody s__law_marks) (defScope s__law_marks) .none kV__law_marks dc__law_marks pm__law_marks an__law_marks cd__law_marks ct__law_marks), sl__law_marks⟩)
    (c__law_marks : PySem.W.codeIn K cd__law_marks "_law_marks" = true)
    (k__law_marks : PySem.W.keepIn K (.ref f__law_marks) = true)
    (a__law_stands : PySem.W.nsIn K mainGlobals "_law_stands" = some (some (.ref f__law_stands)))
    (l__law_stands : K.lookup f__law_stands = some ⟨oc__law_stands, od__law_stands, .func (PySem.W.fnOf "_law_stands" "_law_stands" (defArgs s__law_stands) (defBody s__law_stands) (defScope s__law_stands) .none kV__law_stands dc__law_stands pm__law_stands an__law_stands cd__law_stands ct__law_stands), sl__law_stands⟩)
    (c__law_stands : PySem.W.codeIn K cd__law_stands "_law_stands" = true)
    (k__law_stands : PySem.W.keepIn K (.ref f__law_stands) = true)
    (a__law_mixed : PySem.W.nsIn K mainGlobals "_law_mixed" = some (some (.ref f__law_mixed)))
    (l__law_mixed : K.lookup f__law_mixed = some ⟨oc__law_mixed, od__law_mixed, .func (PySem.W.fnOf "_law_mixed" "_law_mixed" (defArgs s__law_mixed) (defBody s__law_mixed) (defScope s__law_mixed) .none kV__law_mixed dc__law_mixed pm__law_mixed an__law_mixed cd__law_mixed ct__law_mixed), sl__law_mixed⟩)
    (c__law_mixed : PySem.W.codeIn K cd__law_mixed "_law_mixed" = true)
    (k__law_mixed : PySem.W.keepIn K (.ref f__law_mixed) = true)
    (a_law : PySem.W.nsIn K mainGlobals "law" = some (some (.ref f_law)))
    (l_law : K.lookup f_law = some ⟨oc_law, od_law, .func (PySem.W.fnOf "law" "law" (defArgs s_law) (defBody s_law) (defScope s_law) .none kV_law dc_law pm_law an_law cd_law ct_law), sl_law⟩)
    (c_law : PySem.W.codeIn K cd_law "law" = true)
    (k_law : PySem.W.keepIn K (.ref f_law) = true)
    (z_len : PySem.W.nsIn K mainGlobals "len" = some none)
    (z_min : PySem.W.nsIn K mainGlobals "min" = some none)
    (z_max : PySem.W.nsIn K mainGlobals "max" = some none)
    (z_int : PySem.W.nsIn K mainGlobals "int" = some none)
    (z_list : PySem.W.nsIn K mainGlobals "list" = some none)
    (z_range : PySem.W.nsIn K mainGlobals "range" = some none)
    (z_isinstance : PySem.W.nsIn K mainGlobals "isinstance" = some none)
    (z_bool : PySem.W.nsIn K mainGlobals "bool" = some none)
    (z_str : PySem.W.nsIn K mainGlobals "str" = some none)
    (z_tuple : PySem.W.nsIn K mainGlobals "tuple" = some none)
    (z_zip : PySem.W.nsIn K mainGlobals "zip" = some none)
    (z_enumerate : PySem.W.nsIn K mainGlobals "enumerate" = some none)
    (z_sorted : PySem.W.nsIn K mainGlobals "sorted" = some none)
    (z_sum : PySem.W.nsIn K mainGlobals "sum" = some none)
    (aK_REPLICAS : PySem.W.nsIn K mainGlobals "REPLICAS" = some (some (.int 8 tk_R)))
    (hdt : ta_Deeds_row ≠ ta__law_row)
    : ∀ base : Heap, LamX.TabB base mg co_Deeds_row ta_Deeds_row → LamX.TabB base mg co__law_row ta__law_row → Txt K mg base := fun base tb_Deeds_row tb__law_row => {
  u_REPLICAS := (.int 8 tk_R),
  c_REPLICAS := PySem.W.mg_of X G aK_REPLICAS,
  r_REPLICAS := ⟨_, rfl⟩,
  a_Deeds := C_Deeds,
  cl_Deeds := ⟨pg_Deeds, hd_Deeds, po_Deeds, sa_Deeds⟩,
  g_Deeds := PySem.W.mg_of X G aC_Deeds,
  n_Deeds_rows := nA_Deeds_rows,
  a__wall := f__wall,
  d__wall := PySem.W.fnOf "_wall" "_wall" (defArgs s__wall) (defBody s__wall) (defScope s__wall) .none kV__wall dc__wall pm__wall an__wall cd__wall ct__wall,
  F__wall := fun_mk l__wall c__wall k__wall,
  b__wall := (fun_mk (st := s__wall) l__wall c__wall k__wall).binds (ps := P__wall) (fun _ _ _ _ _ _ us hl => match us, hl with | [_], _ => rfl),
  g__wall := PySem.W.mg_of X G a__wall,
  a_inserted := f_inserted,
  d_inserted := PySem.W.fnOf "inserted" "inserted" (defArgs s_inserted) (defBody s_inserted) (defScope s_inserted) .none kV_inserted dc_inserted pm_inserted an_inserted cd_inserted ct_inserted,
  F_inserted := fun_mk l_inserted c_inserted k_inserted,
  b_inserted := (fun_mk (st := s_inserted) l_inserted c_inserted k_inserted).binds (ps := P_inserted) (fun _ _ _ _ _ _ us hl => match us, hl with | [_, _], _ => rfl),
  g_inserted := PySem.W.mg_of X G a_inserted,
  a_Deeds___init__ := f_Deeds___init__,
  d_Deeds___init__ := PySem.W.fnOf "__init__" "Deeds.__init__" (defArgs s_Deeds___init__) (defBody s_Deeds___init__) (defScope s_Deeds___init__) .none kV_Deeds___init__ dc_Deeds___init__ pm_Deeds___init__ an_Deeds___init__ cd_Deeds___init__ ct_Deeds___init__,
  F_Deeds___init__ := fun_mk l_Deeds___init__ c_Deeds___init__ k_Deeds___init__,
  b_Deeds___init__ := (fun_mk (st := s_Deeds___init__) l_Deeds___init__ c_Deeds___init__ k_Deeds___init__).binds (ps := P_Deeds___init__) (fun _ _ _ _ _ _ us hl => match us, hl with | [_], _ => rfl),
  M_Deeds := ⟨mk_Deeds, a_Deeds___init__, i_Deeds___init__, kC_Deeds⟩,
  a_Deeds_counts := f_Deeds_counts,
  d_Deeds_counts := PySem.W.fnOf "counts" "Deeds.counts" (defArgs s_Deeds_counts) (defBody s_Deeds_counts) (defScope s_Deeds_counts) .none kV_Deeds_counts dc_Deeds_counts pm_Deeds_counts an_Deeds_counts cd_Deeds_counts ct_Deeds_counts,
  F_Deeds_counts := fun_mk l_Deeds_counts c_Deeds_counts k_Deeds_counts,
  b_Deeds_counts := (fun_mk (st := s_Deeds_counts) l_Deeds_counts c_Deeds_counts k_Deeds_counts).binds (ps := P_Deeds_counts) (fun _ _ _ _ _ _ us hl => match us, hl with | [_], _ => rfl),
  m_Deeds_counts := ⟨a_Deeds_counts, i_Deeds_counts, k_Deeds_counts⟩,
  a_Deeds_add := f_Deeds_add,
  d_Deeds_add := PySem.W.fnOf "add" "Deeds.add" (defArgs s_Deeds_add) (defBody s_Deeds_add) (defScope s_Deeds_add) .none kV_Deeds_add dc_Deeds_add pm_Deeds_add an_Deeds_add cd_Deeds_add ct_Deeds_add,
  F_Deeds_add := fun_mk l_Deeds_add c_Deeds_add k_Deeds_add,
  b_Deeds_add := (fun_mk (st := s_Deeds_add) l_Deeds_add c_Deeds_add k_Deeds_add).binds (ps := P_Deeds_add) (fun _ _ _ _ _ _ us hl => match us, hl with | [_, _, _], _ => rfl),
  m_Deeds_add := ⟨a_Deeds_add, i_Deeds_add, k_Deeds_add⟩,
  a_Deeds_copy := f_Deeds_copy,
  d_Deeds_copy := PySem.W.fnOf "copy" "Deeds.copy" (defArgs s_Deeds_copy) (defBody s_Deeds_copy) (defScope s_Deeds_copy) .none kV_Deeds_copy dc_Deeds_copy pm_Deeds_copy an_Deeds_copy cd_Deeds_copy ct_Deeds_copy,
  F_Deeds_copy := fun_mk l_Deeds_copy c_Deeds_copy k_Deeds_copy,
  b_Deeds_copy := (fun_mk (st := s_Deeds_copy) l_Deeds_copy c_Deeds_copy k_Deeds_copy).binds (ps := P_Deeds_copy) (fun _ _ _ _ _ _ us hl => match us, hl with | [_], _ => rfl),
  m_Deeds_copy := ⟨a_Deeds_copy, i_Deeds_copy, k_Deeds_copy⟩,
  a_Deeds_forces := f_Deeds_forces,
  d_Deeds_forces := PySem.W.fnOf "forces" "Deeds.forces" (defArgs s_Deeds_forces) (defBody s_Deeds_forces) (defScope s_Deeds_forces) .none kV_Deeds_forces dc_Deeds_forces pm_Deeds_forces an_Deeds_forces cd_Deeds_forces ct_Deeds_forces,
  F_Deeds_forces := fun_mk l_Deeds_forces c_Deeds_forces k_Deeds_forces,
  b_Deeds_forces := (fun_mk (st := s_Deeds_forces) l_Deeds_forces c_Deeds_forces k_Deeds_forces).binds (ps := P_Deeds_forces) (fun _ _ _ _ _ _ us hl => match us, hl with | [_, _], _ => rfl),
  m_Deeds_forces := ⟨a_Deeds_forces, i_Deeds_forces, k_Deeds_forces⟩,
  a_Deeds_in_force := f_Deeds_in_force,
  d_Deeds_in_force := PySem.W.fnOf "in_force" "Deeds.in_force" (defArgs s_Deeds_in_force) (defBody s_Deeds_in_force) (defScope s_Deeds_in_force) .none kV_Deeds_in_force dc_Deeds_in_force pm_Deeds_in_force an_Deeds_in_force cd_Deeds_in_force ct_Deeds_in_force,
  F_Deeds_in_force := fun_mk l_Deeds_in_force c_Deeds_in_force k_Deeds_in_force,
  b_Deeds_in_force := (fun_mk (st := s_Deeds_in_force) l_Deeds_in_force c_Deeds_in_force k_Deeds_in_force).binds (ps := P_Deeds_in_force) (fun _ _ _ _ _ _ us hl => match us, hl with | [_, _, _], _ => rfl),
  m_Deeds_in_force := ⟨a_Deeds_in_force, i_Deeds_in_force, k_Deeds_in_force⟩,
  a_Deeds_changes := f_Deeds_changes,
  d_Deeds_changes := PySem.W.fnOf "changes" "Deeds.changes" (defArgs s_Deeds_changes) (defBody s_Deeds_changes) (defScope s_Deeds_changes) .none kV_Deeds_changes dc_Deeds_changes pm_Deeds_changes an_Deeds_changes cd_Deeds_changes ct_Deeds_changes,
  F_Deeds_changes := fun_mk l_Deeds_changes c_Deeds_changes k_Deeds_changes,
  b_Deeds_changes := (fun_mk (st := s_Deeds_changes) l_Deeds_changes c_Deeds_changes k_Deeds_changes).binds (ps := P_Deeds_changes) (fun _ _ _ _ _ _ us hl => match us, hl with | [_, _], _ => rfl),
  m_Deeds_changes := ⟨a_Deeds_changes, i_Deeds_changes, k_Deeds_changes⟩,
  a_Deeds_modules := f_Deeds_modules,
  d_Deeds_modules := PySem.W.fnOf "modules" "Deeds.modules" (defArgs s_Deeds_modules) (defBody s_Deeds_modules) (defScope s_Deeds_modules) .none kV_Deeds_modules dc_Deeds_modules pm_Deeds_modules an_Deeds_modules cd_Deeds_modules ct_Deeds_modules,
  F_Deeds_modules := fun_mk l_Deeds_modules c_Deeds_modules k_Deeds_modules,
  b_Deeds_modules := (fun_mk (st := s_Deeds_modules) l_Deeds_modules c_Deeds_modules k_Deeds_modules).binds (ps := P_Deeds_modules) (fun _ _ _ _ _ _ us hl => match us, hl with | [_], _ => rfl),
  m_Deeds_modules := ⟨a_Deeds_modules, i_Deeds_modules, k_Deeds_modules⟩,
  a_Deeds_row := f_Deeds_row,
  d_Deeds_row := PySem.W.fnOf "row" "Deeds.row" (defArgs s_Deeds_row) (defBody s_Deeds_row) (defScope s_Deeds_row) .none kV_Deeds_row dc_Deeds_row pm_Deeds_row an_Deeds_row (.ref co_Deeds_row) ct_Deeds_row,
  F_Deeds_row := fun_mk l_Deeds_row c_Deeds_row k_Deeds_row,
  b_Deeds_row := (fun_mk (st := s_Deeds_row) l_Deeds_row c_Deeds_row k_Deeds_row).binds (ps := P_Deeds_row) (fun _ _ _ _ _ _ us hl => match us, hl with | [_, _], _ => rfl),
  co_Deeds_row := co_Deeds_row,
  ta_Deeds_row := ta_Deeds_row,
  C_Deeds_row := ⟨_, _, _, _, _, _, _, _, rfl, l_Deeds_row, c_Deeds_row⟩,
  tb_Deeds_row := tb_Deeds_row,
  m_Deeds_row := ⟨a_Deeds_row, i_Deeds_row, k_Deeds_row⟩,
  a_Deeds_text := f_Deeds_text,
  d_Deeds_text := PySem.W.fnOf "text" "Deeds.text" (defArgs s_Deeds_text) (defBody s_Deeds_text) (defScope s_Deeds_text) .none kV_Deeds_text dc_Deeds_text pm_Deeds_text an_Deeds_text cd_Deeds_text ct_Deeds_text,
  F_Deeds_text := fun_mk l_Deeds_text c_Deeds_text k_Deeds_text,
  b_Deeds_text := (fun_mk (st := s_Deeds_text) l_Deeds_text c_Deeds_text k_Deeds_text).binds (ps := P_Deeds_text) (fun _ _ _ _ _ _ us hl => match us, hl with | [_, _], _ => rfl),
  m_Deeds_text := ⟨a_Deeds_text, i_Deeds_text, k_Deeds_text⟩,
  a_Deeds_last_number := f_Deeds_last_number,
  d_Deeds_last_number := PySem.W.fnOf "last_number" "Deeds.last_number" (defArgs s_Deeds_last_number) (defBody s_Deeds_last_number) (defScope s_Deeds_last_number) .none kV_Deeds_last_number dc_Deeds_last_number pm_Deeds_last_number an_Deeds_last_number cd_Deeds_last_number ct_Deeds_last_number,
  F_Deeds_last_number := fun_mk l_Deeds_last_number c_Deeds_last_number k_Deeds_last_number,
  b_Deeds_last_number := (fun_mk (st := s_Deeds_last_number) l_Deeds_last_number c_Deeds_last_number k_Deeds_last_number).binds (ps := P_Deeds_last_number) (fun _ _ _ _ _ _ us hl => match us, hl with | [_], _ => rfl),
  m_Deeds_last_number := ⟨a_Deeds_last_number, i_Deeds_last_number, k_Deeds_last_number⟩,
  a_Deeds_fits := f_Deeds_fits,
  d_Deeds_fits := PySem.W.fnOf "fits" "Deeds.fits" (defArgs s_Deeds_fits) (defBody s_Deeds_fits) (defScope s_Deeds_fits) .none kV_Deeds_fits dc_Deeds_fits pm_Deeds_fits an_Deeds_fits cd_Deeds_fits ct_Deeds_fits,
  F_Deeds_fits := fun_mk l_Deeds_fits c_Deeds_fits k_Deeds_fits,
  b_Deeds_fits := (fun_mk (st := s_Deeds_fits) l_Deeds_fits c_Deeds_fits k_Deeds_fits).binds (ps := P_Deeds_fits) (fun _ _ _ _ _ _ us hl => match us, hl with | [_, _, _], _ => rfl),
  m_Deeds_fits := ⟨a_Deeds_fits, i_Deeds_fits, k_Deeds_fits⟩,
  a__law_mix := f__law_mix,
  d__law_mix := PySem.W.fnOf "_law_mix" "_law_mix" (defArgs s__law_mix) (defBody s__law_mix) (defScope s__law_mix) .none kV__law_mix dc__law_mix pm__law_mix an__law_mix cd__law_mix ct__law_mix,
  F__law_mix := fun_mk l__law_mix c__law_mix k__law_mix,
  b__law_mix := (fun_mk (st := s__law_mix) l__law_mix c__law_mix k__law_mix).binds (ps := P__law_mix) (fun _ _ _ _ _ _ us hl => match us, hl with | [_, _], _ => rfl),
  g__law_mix := PySem.W.mg_of X G a__law_mix,
  a__law_draws := f__law_draws,
  d__law_draws := PySem.W.fnOf "_law_draws" "_law_draws" (defArgs s__law_draws) (defBody s__law_draws) (defScope s__law_draws) .none kV__law_draws dc__law_draws pm__law_draws an__law_draws cd__law_draws ct__law_draws,
  F__law_draws := fun_mk l__law_draws c__law_draws k__law_draws,
  b__law_draws := (fun_mk (st := s__law_draws) l__law_draws c__law_draws k__law_draws).binds (ps := P__law_draws) (fun _ _ _ _ _ _ us hl => match us, hl with | [_], _ => rfl),
  g__law_draws := PySem.W.mg_of X G a__law_draws,
  a__law_at := f__law_at,
  d__law_at := PySem.W.fnOf "_law_at" "_law_at" (defArgs s__law_at) (defBody s__law_at) (defScope s__law_at) .none kV__law_at dc__law_at pm__law_at an__law_at cd__law_at ct__law_at,
  F__law_at := fun_mk l__law_at c__law_at k__law_at,
  b__law_at := (fun_mk (st := s__law_at) l__law_at c__law_at k__law_at).binds (ps := P__law_at) (fun _ _ _ _ _ _ us hl => match us, hl with | [_, _], _ => rfl),
  g__law_at := PySem.W.mg_of X G a__law_at,
  a__law_is_integer := f__law_is_integer,
  d__law_is_integer := PySem.W.fnOf "_law_is_integer" "_law_is_integer" (defArgs s__law_is_integer) (defBody s__law_is_integer) (defScope s__law_is_integer) .none kV__law_is_integer dc__law_is_integer pm__law_is_integer an__law_is_integer cd__law_is_integer ct__law_is_integer,
  F__law_is_integer := fun_mk l__law_is_integer c__law_is_integer k__law_is_integer,
  b__law_is_integer := (fun_mk (st := s__law_is_integer) l__law_is_integer c__law_is_integer k__law_is_integer).binds (ps := P__law_is_integer) (fun _ _ _ _ _ _ us hl => match us, hl with | [_], _ => rfl),
  g__law_is_integer := PySem.W.mg_of X G a__law_is_integer,
  a__law_same := f__law_same,
  d__law_same := PySem.W.fnOf "_law_same" "_law_same" (defArgs s__law_same) (defBody s__law_same) (defScope s__law_same) .none kV__law_same dc__law_same pm__law_same an__law_same cd__law_same ct__law_same,
  F__law_same := fun_mk l__law_same c__law_same k__law_same,
  b__law_same := (fun_mk (st := s__law_same) l__law_same c__law_same k__law_same).binds (ps := P__law_same) (fun _ _ _ _ _ _ us hl => match us, hl with | [_, _], _ => rfl),
  g__law_same := PySem.W.mg_of X G a__law_same,
  a__law_inserted := f__law_inserted,
  d__law_inserted := PySem.W.fnOf "_law_inserted" "_law_inserted" (defArgs s__law_inserted) (defBody s__law_inserted) (defScope s__law_inserted) .none kV__law_inserted dc__law_inserted pm__law_inserted an__law_inserted cd__law_inserted ct__law_inserted,
  F__law_inserted := fun_mk l__law_inserted c__law_inserted k__law_inserted,
  b__law_inserted := (fun_mk (st := s__law_inserted) l__law_inserted c__law_inserted k__law_inserted).binds (ps := P__law_inserted) (fun _ _ _ _ _ _ us hl => match us, hl with | [_, _], _ => rfl),
  g__law_inserted := PySem.W.mg_of X G a__law_inserted,
  a__law_forces := f__law_forces,
  d__law_forces := PySem.W.fnOf "_law_forces" "_law_forces" (defArgs s__law_forces) (defBody s__law_forces) (defScope s__law_forces) .none kV__law_forces dc__law_forces pm__law_forces an__law_forces cd__law_forces ct__law_forces,
  F__law_forces := fun_mk l__law_forces c__law_forces k__law_forces,
  b__law_forces := (fun_mk (st := s__law_forces) l__law_forces c__law_forces k__law_forces).binds (ps := P__law_forces) (fun _ _ _ _ _ _ us hl => match us, hl with | [_], _ => rfl),
  g__law_forces := PySem.W.mg_of X G a__law_forces,
  a__law_changes := f__law_changes,
  d__law_changes := PySem.W.fnOf "_law_changes" "_law_changes" (defArgs s__law_changes) (defBody s__law_changes) (defScope s__law_changes) .none kV__law_changes dc__law_changes pm__law_changes an__law_changes cd__law_changes ct__law_changes,
  F__law_changes := fun_mk l__law_changes c__law_changes k__law_changes,
  b__law_changes := (fun_mk (st := s__law_changes) l__law_changes c__law_changes k__law_changes).binds (ps := P__law_changes) (fun _ _ _ _ _ _ us hl => match us, hl with | [_, _], _ => rfl),
  g__law_changes := PySem.W.mg_of X G a__law_changes,
  a__law_row := f__law_row,
  d__law_row := PySem.W.fnOf "_law_row" "_law_row" (defArgs s__law_row) (defBody s__law_row) (defScope s__law_row) .none kV__law_row dc__law_row pm__law_row an__law_row (.ref co__law_row) ct__law_row,
  F__law_row := fun_mk l__law_row c__law_row k__law_row,
  b__law_row := (fun_mk (st := s__law_row) l__law_row c__law_row k__law_row).binds (ps := P__law_row) (fun _ _ _ _ _ _ us hl => match us, hl with | [_, _], _ => rfl),
  co__law_row := co__law_row,
  ta__law_row := ta__law_row,
  C__law_row := ⟨_, _, _, _, _, _, _, _, rfl, l__law_row, c__law_row⟩,
  tb__law_row := tb__law_row,
  g__law_row := PySem.W.mg_of X G a__law_row,
  a__law_last := f__law_last,
  d__law_last := PySem.W.fnOf "_law_last" "_law_last" (defArgs s__law_last) (defBody s__law_last) (defScope s__law_last) .none kV__law_last dc__law_last pm__law_last an__law_last cd__law_last ct__law_last,
  F__law_last := fun_mk l__law_last c__law_last k__law_last,
  b__law_last := (fun_mk (st := s__law_last) l__law_last c__law_last k__law_last).binds (ps := P__law_last) (fun _ _ _ _ _ _ us hl => match us, hl with | [_], _ => rfl),
  g__law_last := PySem.W.mg_of X G a__law_last,
  a__law_modules := f__law_modules,
  d__law_modules := PySem.W.fnOf "_law_modules" "_law_modules" (defArgs s__law_modules) (defBody s__law_modules) (defScope s__law_modules) .none kV__law_modules dc__law_modules pm__law_modules an__law_modules cd__law_modules ct__law_modules,
  F__law_modules := fun_mk l__law_modules c__law_modules k__law_modules,
  b__law_modules := (fun_mk (st := s__law_modules) l__law_modules c__law_modules k__law_modules).binds (ps := P__law_modules) (fun _ _ _ _ _ _ us hl => match us, hl with | [], _ => rfl),
  g__law_modules := PySem.W.mg_of X G a__law_modules,
  a__law_letters := f__law_letters,
  d__law_letters := PySem.W.fnOf "_law_letters" "_law_letters" (defArgs s__law_letters) (defBody s__law_letters) (defScope s__law_letters) .none kV__law_letters dc__law_letters pm__law_letters an__law_letters cd__law_letters ct__law_letters,
  F__law_letters := fun_mk l__law_letters c__law_letters k__law_letters,
  b__law_letters := (fun_mk (st := s__law_letters) l__law_letters c__law_letters k__law_letters).binds (ps := P__law_letters) (fun _ _ _ _ _ _ us hl => match us, hl with | [_, _], _ => rfl),
  g__law_letters := PySem.W.mg_of X G a__law_letters,
  a__law_deed := f__law_deed,
  d__law_deed := PySem.W.fnOf "_law_deed" "_law_deed" (defArgs s__law_deed) (defBody s__law_deed) (defScope s__law_deed) .none kV__law_deed dc__law_deed pm__law_deed an__law_deed cd__law_deed ct__law_deed,
  F__law_deed := fun_mk l__law_deed c__law_deed k__law_deed,
  b__law_deed := (fun_mk (st := s__law_deed) l__law_deed c__law_deed k__law_deed).binds (ps := P__law_deed) (fun _ _ _ _ _ _ us hl => match us, hl with | [_, _, _, _], _ => rfl),
  g__law_deed := PySem.W.mg_of X G a__law_deed,
  a__law_visible := f__law_visible,
  d__law_visible := PySem.W.fnOf "_law_visible" "_law_visible" (defArgs s__law_visible) (defBody s__law_visible) (defScope s__law_visible) .none kV__law_visible dc__law_visible pm__law_visible an__law_visible cd__law_visible ct__law_visible,
  F__law_visible := fun_mk l__law_visible c__law_visible k__law_visible,
  b__law_visible := (fun_mk (st := s__law_visible) l__law_visible c__law_visible k__law_visible).binds (ps := P__law_visible) (fun _ _ _ _ _ _ us hl => match us, hl with | [_, _], _ => rfl),
  g__law_visible := PySem.W.mg_of X G a__law_visible,
  a__law_triples := f__law_triples,
  d__law_triples := PySem.W.fnOf "_law_triples" "_law_triples" (defArgs s__law_triples) (defBody s__law_triples) (defScope s__law_triples) .none kV__law_triples dc__law_triples pm__law_triples an__law_triples cd__law_triples ct__law_triples,
  F__law_triples := fun_mk l__law_triples c__law_triples k__law_triples,
  b__law_triples := (fun_mk (st := s__law_triples) l__law_triples c__law_triples k__law_triples).binds (ps := P__law_triples) (fun _ _ _ _ _ _ us hl => match us, hl with | [_, _, _, _], _ => rfl),
  g__law_triples := PySem.W.mg_of X G a__law_triples,
  a__law_rows_of := f__law_rows_of,
  d__law_rows_of := PySem.W.fnOf "_law_rows_of" "_law_rows_of" (defArgs s__law_rows_of) (defBody s__law_rows_of) (defScope s__law_rows_of) .none kV__law_rows_of dc__law_rows_of pm__law_rows_of an__law_rows_of cd__law_rows_of ct__law_rows_of,
  F__law_rows_of := fun_mk l__law_rows_of c__law_rows_of k__law_rows_of,
  b__law_rows_of := (fun_mk (st := s__law_rows_of) l__law_rows_of c__law_rows_of k__law_rows_of).binds (ps := P__law_rows_of) (fun _ _ _ _ _ _ us hl => match us, hl with | [_], _ => rfl),
  g__law_rows_of := PySem.W.mg_of X G a__law_rows_of,
  a__law_deeds := f__law_deeds,
  d__law_deeds := PySem.W.fnOf "_law_deeds" "_law_deeds" (defArgs s__law_deeds) (defBody s__law_deeds) (defScope s__law_deeds) .none kV__law_deeds dc__law_deeds pm__law_deeds an__law_deeds cd__law_deeds ct__law_deeds,
  F__law_deeds := fun_mk l__law_deeds c__law_deeds k__law_deeds,
  b__law_deeds := (fun_mk (st := s__law_deeds) l__law_deeds c__law_deeds k__law_deeds).binds (ps := P__law_deeds) (fun _ _ _ _ _ _ us hl => match us, hl with | [_], _ => rfl),
  g__law_deeds := PySem.W.mg_of X G a__law_deeds,
  a__law_marks := f__law_marks,
  d__law_marks := PySem.W.fnOf "_law_marks" "_law_marks" (defArgs s__law_marks) (defBody s__law_marks) (defScope s__law_marks) .none kV__law_marks dc__law_marks pm__law_marks an__law_marks cd__law_marks ct__law_marks,
  F__law_marks := fun_mk l__law_marks c__law_marks k__law_marks,
  b__law_marks := (fun_mk (st := s__law_marks) l__law_marks c__law_marks k__law_marks).binds (ps := P__law_marks) (fun _ _ _ _ _ _ us hl => match us, hl with | [_, _], _ => rfl),
  g__law_marks := PySem.W.mg_of X G a__law_marks,
  a__law_stands := f__law_stands,
  d__law_stands := PySem.W.fnOf "_law_stands" "_law_stands" (defArgs s__law_stands) (defBody s__law_stands) (defScope s__law_stands) .none kV__law_stands dc__law_stands pm__law_stands an__law_stands cd__law_stands ct__law_stands,
  F__law_stands := fun_mk l__law_stands c__law_stands k__law_stands,
  b__law_stands := (fun_mk (st := s__law_stands) l__law_stands c__law_stands k__law_stands).binds (ps := P__law_stands) (fun _ _ _ _ _ _ us hl => match us, hl with | [_, _, _], _ => rfl),
  g__law_stands := PySem.W.mg_of X G a__law_stands,
  a__law_mixed := f__law_mixed,
  d__law_mixed := PySem.W.fnOf "_law_mixed" "_law_mixed" (defArgs s__law_mixed) (defBody s__law_mixed) (defScope s__law_mixed) .none kV__law_mixed dc__law_mixed pm__law_mixed an__law_mixed cd__law_mixed ct__law_mixed,
  F__law_mixed := fun_mk l__law_mixed c__law_mixed k__law_mixed,
  b__law_mixed := (fun_mk (st := s__law_mixed) l__law_mixed c__law_mixed k__law_mixed).binds (ps := P__law_mixed) (fun _ _ _ _ _ _ us hl => match us, hl with | [_, _], _ => rfl),
  g__law_mixed := PySem.W.mg_of X G a__law_mixed,
  a_law := f_law,
  d_law := PySem.W.fnOf "law" "law" (defArgs s_law) (defBody s_law) (defScope s_law) .none kV_law dc_law pm_law an_law cd_law ct_law,
  F_law := fun_mk l_law c_law k_law,
  b_law := (fun_mk (st := s_law) l_law c_law k_law).binds (ps := P_law) (fun _ _ _ _ _ _ us hl => match us, hl with | [_], _ => rfl),
  g_law := PySem.W.mg_of X G a_law,
  z_len := PySem.W.mg_none_of X G z_len,
  z_min := PySem.W.mg_none_of X G z_min,
  z_max := PySem.W.mg_none_of X G z_max,
  z_int := PySem.W.mg_none_of X G z_int,
  z_list := PySem.W.mg_none_of X G z_list,
  z_range := PySem.W.mg_none_of X G z_range,
  z_isinstance := PySem.W.mg_none_of X G z_isinstance,
  z_bool := PySem.W.mg_none_of X G z_bool,
  z_str := PySem.W.mg_none_of X G z_str,
  z_tuple := PySem.W.mg_none_of X G z_tuple,
  z_zip := PySem.W.mg_none_of X G z_zip,
  z_enumerate := PySem.W.mg_none_of X G z_enumerate,
  z_sorted := PySem.W.mg_none_of X G z_sorted,
  z_sum := PySem.W.mg_none_of X G z_sum,
  dt := hdt }
theorem all_ok {l : PySem.W.OpenLaw} {w : World} {K : PySem.W.Frag} {mg : Str → Option Value} {fa : Addr} {h : Heap} {c_0 P_0 c_1 P_1 : Addr} {fd : FuncData} (hfa : mg "law" = some (.ref fa))
    (TT : ∀ base : Heap, LamX.TabB base mg c_0 P_0 → LamX.TabB base mg c_1 P_1 → { T : Txt K mg base // T.d_law = fd ∧ T.ta_Deeds_row = P_0 ∧ T.ta__law_row = P_1 })
    (hb : ∀ (s : Shared) (v : Value), BindsTo s fd ⟨[v], []⟩ [("script", v)])
    (ht : ∀ p ∈ ([(c_0, P_0), (c_1, P_1)] : List (Addr × Addr)), h.get? p.2 = some { cls := .none, data := .fields #[] }) (hn : ∀ p ∈ ([(c_0, P_0), (c_1, P_1)] : List (Addr × Addr)), K.lookup p.2 = none) (hc : ∀ p ∈ ([(c_0, P_0), (c_1, P_1)] : List (Addr × Addr)), PySem.W.CodeHd h p.1 p.2) :
    LamX.LawAtS l w K CX0 17 63 "script" mg fa h := by
  refine ⟨fd, [(c_0, P_0), (c_1, P_1)], sp_law K P_0 P_1, ht, hn, hc, hb, fun H a ns hl _ hT hS => ⟨a, ns, rfl, hS, hl, hT _ (.head _), hT _ (.tail _ (.head _)), fun _ => rfl⟩, fun base KB GB hTab => ?_⟩
  obtain ⟨T, e1, e_0, e_1⟩ := TT base (hTab _ (.head _)) (hTab _ (.tail _ (.head _)))
  have e := hfa.symm.trans T.g_law
  cases e
  subst e1
  subst e_0
  subst e_1
  exact ok_law T

end K03
open PySem PySem.W PyProof.Rows
set_option maxHeartbeats 0 in
theorem PySem.Challenge.cw_textwhole_k03_whole_no_deed_moves_a_char_holds : PySem.Challenge.rw_textwhole_k03_whole_no_deed_moves_a_char.Holds := by
  w_on; o_law; k_head; (case hw => w_witness2)
  k_fill
  refine LamX.walk_ofTs (l := PySem.Challenge.rw_textwhole_k03_whole_no_deed_moves_a_char) (n := 63) (k := 17) (x := "script") (CX := fun w => L2.CX0) rfl (by decide) rfl ⟨rfl, by decide, by decide⟩ (fun w h Y => PySem.W.km_in_of Y) ?F (fun _ _ _ _ _ h => h)
  case F =>
    intro w mg fa h Y KX G hmg
    refine' K03.all_ok hmg (fun base t0 t1 => ⟨K03.mk_txt 89 174 KX G ?aC_Deeds ?pg_Deeds ?hd_Deeds ?po_Deeds ?sa_Deeds ?mk_Deeds ?kC_Deeds ?nA_Deeds_rows ?a__wall ?l__wall ?c__wall ?k__wall ?a_inserted ?l_inserted ?c_inserted ?k_inserted ?a_Deeds___init__ ?i_Deeds___init__ ?l_Deeds___init__ ?c_Deeds___init__ ?k_Deeds___init__ ?a_Deeds_counts ?i_Deeds_counts ?l_Deeds_counts ?c_Deeds_counts ?k_Deeds_counts ?a_Deeds_add ?i_Deeds_add ?l_Deeds_add ?c_Deeds_add ?k_Deeds_add ?a_Deeds_copy ?i_Deeds_copy ?l_Deeds_copy ?c_Deeds_copy ?k_Deeds_copy ?a_Deeds_forces ?i_Deeds_forces ?l_Deeds_forces ?c_Deeds_forces ?k_Deeds_forces ?a_Deeds_in_force ?i_Deeds_in_force ?l_Deeds_in_force ?c_Deeds_in_force ?k_Deeds_in_force ?a_Deeds_changes ?i_Deeds_changes ?l_Deeds_changes ?c_Deeds_changes ?k_Deeds_changes ?a_Deeds_modules ?i_Deeds_modules ?l_Deeds_modules ?c_Deeds_modules ?k_Deeds_modules ?a_Deeds_row ?i_Deeds_row ?l_Deeds_row ?c_Deeds_row ?k_Deeds_row ?a_Deeds_text ?i_Deeds_text ?l_Deeds_text ?c_Deeds_text ?k_Deeds_text ?a_Deeds_last_number ?i_Deeds_last_number ?l_Deeds_last_number ?c_Deeds_last_number ?k_Deeds_last_number ?a_Deeds_fits ?i_Deeds_fits ?l_Deeds_fits ?c_Deeds_fits ?k_Deeds_fits ?a__law_mix ?l__law_mix ?c__law_mix ?k__law_mix ?a__law_draws ?l__law_draws ?c__law_draws ?k__law_draws ?a__law_at ?l__law_at ?c__law_at ?k__law_at ?a__law_is_integer ?l__law_is_integer ?c__law_is_integer ?k__law_is_integer ?a__law_same ?l__law_same ?c__law_same ?k__law_same ?a__law_inserted ?l__law_inserted ?c__law_inserted ?k__law_inserted ?a__law_forces ?l__law_forces ?c__law_forces ?k__law_forces ?a__law_changes ?l__law_changes ?c__law_changes ?k__law_changes ?a__law_row ?l__law_row ?c__law_row ?k__law_row ?a__law_last ?l__law_last ?c__law_last ?k__law_last ?a__law_modules ?l__law_modules ?c__law_modules ?k__law_modules ?a__law_letters ?l__law_letters ?c__law_letters ?k__law_letters ?a__law_deed ?l__law_deed ?c__law_deed ?k__law_deed ?a__law_visible ?l__law_visible ?c__law_visible ?k__law_visible ?a__law_triples ?l__law_triples ?c__law_triples ?k__law_triples ?a__law_rows_of ?l__law_rows_of ?c__law_rows_of ?k__law_rows_of ?a__law_deeds ?l__law_deeds ?c__law_deeds ?k__law_deeds ?a__law_marks ?l__law_marks ?c__law_marks ?k__law_marks ?a__law_stands ?l__law_stands ?c__law_stands ?k__law_stands ?a__law_mixed ?l__law_mixed ?c__law_mixed ?k__law_mixed ?a_law ?l_law ?c_law ?k_law ?z_len ?z_min ?z_max ?z_int ?z_list ?z_range ?z_isinstance ?z_bool ?z_str ?z_tuple ?z_zip ?z_enumerate ?z_sorted ?z_sum ?aK_REPLICAS ?hdt base t0 t1, rfl, rfl, rfl⟩) (fun s v => .of_eq rfl) ?tabs ?nolk ?codes
    (case aC_Deeds => k_is)
    (case pg_Deeds => k_is)
    (case hd_Deeds => k_is)
    (case po_Deeds => k_is)
    (case sa_Deeds => k_is)
    (case mk_Deeds => k_is)
    (case kC_Deeds => k_is)
    (case nA_Deeds_rows => k_is)
    (case a__wall => k_is)
    (case l__wall => k_is)
    (case c__wall => k_is)
    (case k__wall => k_is)
    (case a_inserted => k_is)
    (case l_inserted => k_is)
    (case c_inserted => k_is)
    (case k_inserted => k_is)
    (case a_Deeds___init__ => k_is)
    (case i_Deeds___init__ => k_is)
    (case l_Deeds___init__ => k_is)
    (case c_Deeds___init__ => k_is)
    (case k_Deeds___init__ => k_is)
    (case a_Deeds_counts => k_is)
    (case i_Deeds_counts => k_is)
    (case l_Deeds_counts => k_is)
    (case c_Deeds_counts => k_is)
    (case k_Deeds_counts => k_is)
    (case a_Deeds_add => k_is)
    (case i_Deeds_add => k_is)
    (case l_Deeds_add => k_is)
    (case c_Deeds_add => k_is)
    (case k_Deeds_add => k_is)
    (case a_Deeds_copy => k_is)
    (case i_Deeds_copy => k_is)
    (case l_Deeds_copy => k_is)
    (case c_Deeds_copy => k_is)
    (case k_Deeds_copy => k_is)
    (case a_Deeds_forces => k_is)
    (case i_Deeds_forces => k_is)
    (case l_Deeds_forces => k_is)
    (case c_Deeds_forces => k_is)
    (case k_Deeds_forces => k_is)
    (case a_Deeds_in_force => k_is)
    (case i_Deeds_in_force => k_is)
    (case l_Deeds_in_force => k_is)
    (case c_Deeds_in_force => k_is)
    (case k_Deeds_in_force => k_is)
    (case a_Deeds_changes => k_is)
    (case i_Deeds_changes => k_is)
    (case l_Deeds_changes => k_is)
    (case c_Deeds_changes => k_is)
    (case k_Deeds_changes => k_is)
    (case a_Deeds_modules => k_is)
    (case i_Deeds_modules => k_is)
    (case l_Deeds_modules => k_is)
    (case c_Deeds_modules => k_is)
    (case k_Deeds_modules => k_is)
    (case a_Deeds_row => k_is)
    (case i_Deeds_row => k_is)
    (case l_Deeds_row => k_is)
    (case c_Deeds_row => k_is)
    (case k_Deeds_row => k_is)
    (case a_Deeds_text => k_is)
    (case i_Deeds_text => k_is)
    (case l_Deeds_text => k_is)
    (case c_Deeds_text => k_is)
    (case k_Deeds_text => k_is)
    (case a_Deeds_last_number => k_is)
    (case i_Deeds_last_number => k_is)
    (case l_Deeds_last_number => k_is)
    (case c_Deeds_last_number => k_is)
    (case k_Deeds_last_number => k_is)
    (case a_Deeds_fits => k_is)
    (case i_Deeds_fits => k_is)
    (case l_Deeds_fits => k_is)
    (case c_Deeds_fits => k_is)
    (case k_Deeds_fits => k_is)
    (case a__law_mix => k_is)
    (case l__law_mix => k_is)
    (case c__law_mix => k_is)
    (case k__law_mix => k_is)
    (case a__law_draws => k_is)
    (case l__law_draws => k_is)
    (case c__law_draws => k_is)
    (case k__law_draws => k_is)
    (case a__law_at => k_is)
    (case l__law_at => k_is)
    (case c__law_at => k_is)
    (case k__law_at => k_is)
    (case a__law_is_integer => k_is)
    (case l__law_is_integer => k_is)
    (case c__law_is_integer => k_is)
    (case k__law_is_integer => k_is)
    (case a__law_same => k_is)
    (case l__law_same => k_is)
    (case c__law_same => k_is)
    (case k__law_same => k_is)
    (case a__law_inserted => k_is)
    (case l__law_inserted => k_is)
    (case c__law_inserted => k_is)
    (case k__law_inserted => k_is)
    (case a__law_forces => k_is)
    (case l__law_forces => k_is)
    (case c__law_forces => k_is)
    (case k__law_forces => k_is)
    (case a__law_changes => k_is)
    (case l__law_changes => k_is)
    (case c__law_changes => k_is)
    (case k__law_changes => k_is)
    (case a__law_row => k_is)
    (case l__law_row => k_is)
    (case c__law_row => k_is)
    (case k__law_row => k_is)
    (case a__law_last => k_is)
    (case l__law_last => k_is)
    (case c__law_last => k_is)
    (case k__law_last => k_is)
    (case a__law_modules => k_is)
    (case l__law_modules => k_is)
    (case c__law_modules => k_is)
    (case k__law_modules => k_is)
    (case a__law_letters => k_is)
    (case l__law_letters => k_is)
    (case c__law_letters => k_is)
    (case k__law_letters => k_is)
    (case a__law_deed => k_is)
    (case l__law_deed => k_is)
    (case c__law_deed => k_is)
    (case k__law_deed => k_is)
    (case a__law_visible => k_is)
    (case l__law_visible => k_is)
    (case c__law_visible => k_is)
    (case k__law_visible => k_is)
    (case a__law_triples => k_is)
    (case l__law_triples => k_is)
    (case c__law_triples => k_is)
    (case k__law_triples => k_is)
    (case a__law_rows_of => k_is)
    (case l__law_rows_of => k_is)
    (case c__law_rows_of => k_is)
    (case k__law_rows_of => k_is)
    (case a__law_deeds => k_is)
    (case l__law_deeds => k_is)
    (case c__law_deeds => k_is)
    (case k__law_deeds => k_is)
    (case a__law_marks => k_is)
    (case l__law_marks => k_is)
    (case c__law_marks => k_is)
    (case k__law_marks => k_is)
    (case a__law_stands => k_is)
    (case l__law_stands => k_is)
    (case c__law_stands => k_is)
    (case k__law_stands => k_is)
    (case a__law_mixed => k_is)
    (case l__law_mixed => k_is)
    (case c__law_mixed => k_is)
    (case k__law_mixed => k_is)
    (case a_law => k_is)
    (case l_law => k_is)
    (case c_law => k_is)
    (case k_law => k_is)
    (case z_len => k_is)
    (case z_min => k_is)
    (case z_max => k_is)
    (case z_int => k_is)
    (case z_list => k_is)
    (case z_range => k_is)
    (case z_isinstance => k_is)
    (case z_bool => k_is)
    (case z_str => k_is)
    (case z_tuple => k_is)
    (case z_zip => k_is)
    (case z_enumerate => k_is)
    (case z_sorted => k_is)
    (case z_sum => k_is)
    (case aK_REPLICAS => k_is)
    (case hdt => decide)
    case tabs =>
      have hT8 := PySem.W.km_tabs_of Y
      intro p hp
      simp only [List.mem_cons, List.not_mem_nil, or_false] at hp
      rcases hp with rfl | rfl
      all_goals exact hT8 _ (by decide)
    case nolk =>
      intro p hp
      simp only [List.mem_cons, List.not_mem_nil, or_false] at hp
      rcases hp with rfl | rfl
      all_goals kernel_rfl
    case codes =>
      intro p hp
      simp only [List.mem_cons, List.not_mem_nil, or_false] at hp
      rcases hp with rfl | rfl
      all_goals exact PySem.W.codeHd_of_K KX (by kernel_rfl)
