import PyProof.Rows.All
import Wide.All
import OpenK.AllK
import Wide.FinOn
import HandS.ForMost
import HandS.TryOnly
import HandS.IsInst
import HandS.Deep
import HandS.Steps
import HandS.Flow
import HandS.Style
import HandS.Zip
import HandS.TupAny
import HandS.More
import HandS.Walk
import HandS.Evl
import HandS.ForExc
import PySem.Challenge.RW_textwhole_k11_records
set_option Elab.async false
set_option linter.all false
set_option maxRecDepth 100000
set_option maxHeartbeats 4000000

/-! Zl: a small layer over HandS: what is owned (Own), data (Dp) over what stays, readings with names and their steps. -/
namespace Zl
open PySem PySem.Spec PyProof.Rows L2

/-! ### what is owned: cells cs apart from the frame B -/
structure Own (B : Hp) (cs : List (Addr × HO)) (H : Hp) : Prop where
  fr : Same B H
  out : ∀ c ∈ cs, B c.1 = none
  have_ : ∀ c ∈ cs, H c.1 = some c.2
  nd : (cs.map (·.1)).Nodup
theorem Own.start (H : Hp) : Own H [] H := ⟨Same.refl H, fun _ h => (nomatch h), fun _ h => (nomatch h), List.nodup_nil⟩
section
variable {B B' H H' : Hp} {cs cs' : List (Addr × HO)} {a p : Addr} {o o' : HO} {j : Nat} {K : PySem.W.Frag}
theorem Own.get (O : Own B cs H) (j : Nat) (h : cs[j]? = some (a, o) := by rfl) : H a = some o := O.have_ (a, o) (List.mem_of_getElem? h)
theorem Own.lst {xs : List V} (O : Own B cs H) (j : Nat) (h : cs[j]? = some (a, .lst xs) := by rfl) : SqL K H a xs := .inl (.inl (O.get j h))
theorem Own.tup {xs : List V} (O : Own B cs H) (j : Nat) (h : cs[j]? = some (a, .tup xs) := by rfl) : SqT K H a xs := .inl (.inl (O.get j h))
theorem Own.ex (O : Own B cs H) (e : Same H H') : Own B cs H' := ⟨O.fr.trans e, O.out, fun c hc => e _ _ (O.have_ c hc), O.nd⟩
theorem Own.fresh (O : Own B cs H) (np : H p = none) : B p = none ∧ ∀ c ∈ cs, c.1 ≠ p := by
  refine ⟨O.fr.free np, fun c hc e => ?_⟩
  have h := O.have_ c hc
  rw [e, np] at h
  cases h
theorem Own.new (O : Own B cs H) (e : Same H H') (np : H p = none) (hp : H' p = some o) : Own B ((p, o) :: cs) H' := by
  obtain ⟨h1, h2⟩ := O.fresh np
  refine ⟨O.fr.trans e, fun c hc => ?_, fun c hc => ?_, ?_⟩
  · rcases List.mem_cons.mp hc with rfl | hc
    · exact h1
    · exact O.out c hc
  · rcases List.mem_cons.mp hc with rfl | hc
    · exact hp
    · exact e _ _ (O.have_ c hc)
  · refine List.nodup_cons.mpr ⟨fun hm => ?_, O.nd⟩
    obtain ⟨c, hc, e'⟩ := List.mem_map.mp hm
    exact h2 c hc e'
theorem Same.upd (np : H p = none) : Same H (upd H p o) := fun b x e => by
  rw [upd_ne (ne_of_none e np)]
  exact e
theorem Own.alloc (O : Own B cs H) (np : H p = none) : Own B ((p, o) :: cs) (upd H p o) := O.new (Same.upd np) np upd_same
theorem mem_set {α : Type} {l : List α} {j : Nat} {x y : α} (h : y ∈ l.set j x) : y = x ∨ ∃ i, i ≠ j ∧ l[i]? = some y := by
  obtain ⟨i, hi, e⟩ := List.mem_iff_getElem.mp h
  rw [List.getElem_set] at e
  split at e
  · exact .inl e.symm
  · rename_i hne
    refine .inr ⟨i, fun q => hne q.symm, ?_⟩
    rw [List.length_set] at hi
    rw [List.getElem?_eq_getElem hi, e]
theorem Own.mut (O : Own B cs H) (j : Nat) (h : cs[j]? = some (a, o)) (e : ∀ b u, b ≠ a → H b = some u → H' b = some u) (ha : H' a = some o') : Own B (cs.set j (a, o')) H' := by
  have hm : (a, o) ∈ cs := List.mem_of_getElem? h
  have hB : B a = none := O.out _ hm
  have key : (cs.set j (a, o')).map (·.1) = cs.map (·.1) := by
    rw [List.map_set]
    apply List.ext_getElem?
    intro i
    rw [List.getElem?_set]
    split
    · rename_i hij
      subst hij
      rw [List.getElem?_map, h]
      split
      · rfl
      · rename_i hl
        have := (List.getElem?_eq_some_iff.mp h).1
        rw [List.length_map] at hl
        exact absurd this hl
    · rfl
  have apart : ∀ i c, i ≠ j → cs[i]? = some c → c.1 ≠ a := by
    intro i c hij hc e'
    have h1 : (cs.map (·.1))[i]? = some a := by rw [List.getElem?_map, hc, ← e'] <;> rfl
    have h2 : (cs.map (·.1))[j]? = some a := by rw [List.getElem?_map, h] <;> rfl
    exact hij (nd_ix O.nd h1 h2)
  refine ⟨fun b x hb => ?_, fun c hc => ?_, fun c hc => ?_, by rw [key]; exact O.nd⟩
  · refine e b x (fun q => ?_) (O.fr b x hb)
    rw [q, hB] at hb
    cases hb
  · rcases mem_set hc with rfl | ⟨i, hi, hg⟩
    · exact hB
    · exact O.out c (List.mem_of_getElem? hg)
  · rcases mem_set hc with rfl | ⟨i, hi, hg⟩
    · exact ha
    · exact e _ _ (apart i c hi hg) (O.have_ c (List.mem_of_getElem? hg))
theorem Own.ne {b : Addr} {o2 : HO} (O : Own B cs H) (i j : Nat) (hi : cs[i]? = some (a, o)) (hj : cs[j]? = some (b, o2)) (hij : i ≠ j) : a ≠ b := by
  intro e
  subst e
  have h1 : (cs.map (·.1))[i]? = some a := by rw [List.getElem?_map, hi] <;> rfl
  have h2 : (cs.map (·.1))[j]? = some a := by rw [List.getElem?_map, hj] <;> rfl
  exact hij (nd_ix O.nd h1 h2)
theorem Own.neB {b : Addr} {o2 : HO} (O : Own B cs H) (i : Nat) (hi : cs[i]? = some (a, o)) (hb : B b = some o2) : b ≠ a := by
  intro e
  subst e
  rw [O.out _ (List.mem_of_getElem? hi)] at hb
  cases hb
theorem Own.set (O : Own B cs H) (j : Nat) (h : cs[j]? = some (a, o)) : Own B (cs.set j (a, o')) (upd H a o') :=
  O.mut j h (fun b u hb hu => by rw [upd_ne hb]; exact hu) upd_same
theorem Own.sub (O : Own B cs H) (s : cs'.Sublist cs) : Own B cs' H :=
  ⟨O.fr, fun c hc => O.out c (s.subset hc), fun c hc => O.have_ c (s.subset hc), O.nd.sublist (s.map _)⟩
theorem Own.tail {c : Addr × HO} (O : Own B (c :: cs) H) : Own B cs H := O.sub (List.sublist_cons_self _ _)
theorem Own.swap {c d : Addr × HO} (O : Own B (c :: d :: cs) H) : Own B (d :: c :: cs) H :=
  ⟨O.fr, fun x hx => O.out x (by simp only [List.mem_cons] at hx ⊢; rcases hx with h | h | h <;> simp [h]), fun x hx => O.have_ x (by simp only [List.mem_cons] at hx ⊢; rcases hx with h | h | h <;> simp [h]), by
    have h := O.nd
    simp only [List.map_cons, List.nodup_cons, List.mem_cons, not_or] at h ⊢
    exact ⟨⟨fun e => h.1.1 e.symm, h.2.1⟩, h.1.2, h.2.2⟩⟩
/-- the cells that are kept, in any order -/
theorem Own.sel (O : Own B cs H) (h : ∀ c ∈ cs', c ∈ cs) (nd : (cs'.map (·.1)).Nodup) : Own B cs' H := ⟨O.fr, fun c hc => O.out c (h c hc), fun c hc => O.have_ c (h c hc), nd⟩
theorem Own.perm (O : Own B cs H) (s : cs'.Perm cs) : Own B cs' H :=
  ⟨O.fr, fun c hc => O.out c (s.subset hc), fun c hc => O.have_ c (s.subset hc), (s.map _).nodup_iff.mpr O.nd⟩
theorem Own.rot (O : Own B cs H) (k : Nat) : Own B (cs.drop k ++ cs.take k) H := O.perm (by
  have h := List.perm_append_comm (l₁ := cs.drop k) (l₂ := cs.take k)
  rwa [List.take_append_drop] at h)
theorem Own.rotT {c : Addr × HO} (O : Own B (c :: cs) H) (k : Nat) : Own B (c :: (cs.drop k ++ cs.take k)) H := O.perm ((by
  have h := List.perm_append_comm (l₁ := cs.drop k) (l₂ := cs.take k)
  rwa [List.take_append_drop] at h : (cs.drop k ++ cs.take k).Perm cs).cons c)
/-- the first cell stays from now on -/
theorem Own.freeze (O : Own B ((p, o) :: cs) H) : Own (L2.upd B p o) cs H := by
  have hnd := List.nodup_cons.mp (show (p :: cs.map (·.1)).Nodup from O.nd)
  refine ⟨fun b x hb => ?_, fun c hc => ?_, fun c hc => O.have_ c (.tail _ hc), hnd.2⟩
  · by_cases hbp : b = p
    · subst hbp
      rw [upd_same] at hb
      cases hb
      exact O.have_ _ (.head _)
    · rw [upd_ne hbp] at hb
      exact O.fr b x hb
  · rw [upd_ne (fun q => hnd.1 (by rw [← q]; exact List.mem_map.mpr ⟨c, hc, rfl⟩))]
    exact O.out c (.tail _ hc)
theorem Own.freezeB (O : Own B ((p, o) :: cs) H) : Same B (L2.upd B p o) := Same.upd (O.out _ (.head _))
/-- a callee's result: what stood stands, and is it a new thing -/
theorem Own.back (O : Own B cs H) (e : ∀ b u, B b = some u → H' b = some u) (k : ∀ c ∈ cs, H' c.1 = some c.2) : Own B cs H' := ⟨e, O.out, k, O.nd⟩
theorem own_new {Q : VK} (O : Own B cs H) (k : ∀ p H', H p = none → Own B ((p, o) :: cs) H' → Q (.ref p) H') : ∀ p, H p = none → Q (.ref p) (L2.upd H p o) :=
  fun p np => k p _ np (O.alloc np)
end

/-- the heap without some of its things: what a def may not touch -/
def dels (H : Hp) (as : List Addr) : Hp := fun b => if b ∈ as then none else H b
theorem dels_in {H : Hp} {as : List Addr} {b : Addr} (h : b ∈ as) : dels H as b = none := by unfold dels; rw [if_pos h]
theorem dels_out {H : Hp} {as : List Addr} {b : Addr} (h : b ∉ as) : dels H as b = H b := by unfold dels; rw [if_neg h]
theorem dels_same (H : Hp) (as : List Addr) : Same (dels H as) H := fun b o h => by
  unfold dels at h
  split at h
  · cases h
  · exact h
theorem Own.args {H : Hp} (cs : List (Addr × HO)) (h : ∀ c ∈ cs, H c.1 = some c.2) (nd : (cs.map (·.1)).Nodup) : Own (dels H (cs.map (·.1))) cs H :=
  ⟨dels_same _ _, fun c hc => dels_in (List.mem_map.mpr ⟨c, hc, rfl⟩), h, nd⟩
theorem Own.arg1 {H : Hp} {a : Addr} {o : HO} (h : H a = some o) : Own (dels H [a]) [(a, o)] H :=
  Own.args [(a, o)] (fun c hc => by rw [List.mem_singleton.mp hc]; exact h) (by simp)
/-- what a def that was handed some things leaves -/
theorem Own.give {H H' : Hp} {as : List Addr} {cs : List (Addr × HO)} (O : Own (dels H as) cs H') : ∀ b u, b ∉ as → H b = some u → H' b = some u :=
  fun b u hb h => O.fr b u (by rw [dels_out hb]; exact h)
theorem Own.give1 {H H' : Hp} {a : Addr} {cs : List (Addr × HO)} (O : Own (dels H [a]) cs H') : ∀ b u, b ≠ a → H b = some u → H' b = some u :=
  fun b u hb h => O.give b u (fun q => hb (List.mem_singleton.mp q)) h
theorem sq_dels {K : PySem.W.Frag} {H : Hp} {as : List Addr} {a : Addr} {xs : List V} (n : a ∉ as) (h : SqL K H a xs) : SqL K (dels H as) a xs := by
  rcases h with (h | ⟨o, h⟩) | h
  · exact .inl (.inl (by rw [dels_out n]; exact h))
  · exact .inl (.inr ⟨o, by rw [dels_out n]; exact h⟩)
  · exact .inr h

/-! ### data stays -/
theorem sq_t {K : PySem.W.Frag} {H H' : Hp} {a : Addr} {xs : List V} (e : Same H H') (h : SqT K H a xs) : SqT K H' a xs := by
  rcases h with (h | ⟨o, h⟩) | h
  · exact .inl (.inl (e _ _ h))
  · exact .inl (.inr ⟨o, e _ _ h⟩)
  · exact .inr h
mutual
theorem dp_ex {K : PySem.W.Frag} {H H' : Hp} (e : Same H H') : ∀ {v : V} {d : PyData}, Dp K H v d → Dp K H' v d
  | _, _, .non => .non
  | _, _, .bl b => .bl b
  | _, _, .int i => .int i
  | _, _, .str x => .str x
  | _, _, .lst h a => .lst (e.seq h) (dps_ex e a)
  | _, _, .tup h a => .tup (sq_t e h) (dps_ex e a)
theorem dps_ex {K : PySem.W.Frag} {H H' : Hp} (e : Same H H') : ∀ {vs : List V} {ds : List PyData}, DpAll K H vs ds → DpAll K H' vs ds
  | _, _, .nil => .nil
  | _, _, .cons h a => .cons (dp_ex e h) (dps_ex e a)
end
theorem dps_len {K : PySem.W.Frag} {H : Hp} : ∀ {vs : List V} {ds : List PyData}, DpAll K H vs ds → vs.length = ds.length
  | _, _, .nil => rfl
  | _, _, .cons _ a => congrArg (· + 1) (dps_len a)
theorem dps_get {K : PySem.W.Frag} {H : Hp} : ∀ {vs : List V} {ds : List PyData} {i : Nat} {v : V}, DpAll K H vs ds → vs[i]? = some v → ∃ d, ds[i]? = some d ∧ Dp K H v d
  | _, _, _, _, .nil, h => by simp at h
  | _, _, 0, _, .cons h _, e => by
    cases (show some _ = some _ from e)
    exact ⟨_, rfl, h⟩
  | _, _, i + 1, _, .cons _ a, e => dps_get (i := i) a (by simpa using e)
theorem dps_getD {K : PySem.W.Frag} {H : Hp} : ∀ {vs : List V} {ds : List PyData} {i : Nat} {d : PyData}, DpAll K H vs ds → ds[i]? = some d → ∃ v, vs[i]? = some v ∧ Dp K H v d
  | _, _, _, _, .nil, h => by simp at h
  | _, _, 0, _, .cons h _, e => by
    cases (show some _ = some _ from e)
    exact ⟨_, rfl, h⟩
  | _, _, i + 1, _, .cons _ a, e => dps_getD (i := i) a (by simpa using e)
theorem dps_app {K : PySem.W.Frag} {H : Hp} : ∀ {vs vs' : List V} {ds ds' : List PyData}, DpAll K H vs ds → DpAll K H vs' ds' → DpAll K H (vs ++ vs') (ds ++ ds')
  | _, _, _, _, .nil, b => b
  | _, _, _, _, .cons h a, b => .cons h (dps_app a b)
theorem dps_snoc {K : PySem.W.Frag} {H : Hp} {vs : List V} {ds : List PyData} {v : V} {d : PyData} (a : DpAll K H vs ds) (h : Dp K H v d) : DpAll K H (vs ++ [v]) (ds ++ [d]) := dps_app a (.cons h .nil)
theorem dps_take {K : PySem.W.Frag} {H : Hp} : ∀ {vs : List V} {ds : List PyData} (n : Nat), DpAll K H vs ds → DpAll K H (vs.take n) (ds.take n)
  | _, _, 0, _ => .nil
  | _, _, _ + 1, .nil => .nil
  | _, _, n + 1, .cons h a => .cons h (dps_take n a)
theorem dps_drop {K : PySem.W.Frag} {H : Hp} : ∀ {vs : List V} {ds : List PyData} (n : Nat), DpAll K H vs ds → DpAll K H (vs.drop n) (ds.drop n)
  | _, _, 0, a => a
  | _, _, _ + 1, .nil => .nil
  | _, _, n + 1, .cons _ a => dps_drop n a
theorem dps_int {K : PySem.W.Frag} {H : Hp} : ∀ ns : List Int, DpAll K H (ns.map V.int) (ns.map PyData.int)
  | [] => .nil
  | n :: ns => .cons (.int n) (dps_int ns)

/-! ### rules with names -/
section
variable {X : Cx}
def rAddU (K : PySem.W.Frag) : R2 := fun x y H Q => rI0 (fun i j => .int (i + j)) x y H Q ∨ ((∃ i j, x = .str i ∧ y = .str j ∧ i.length + j.length ≤ sizeLine ∧ Q (.str (i ++ j)) H) ∨ (rCat x y H Q ∨ rCatA K x y H Q))
theorem op_addU : OpR X (binaryOp .Add) (rAddU X.K) := OpR.or op_add (OpR.or op_add_str (OpR.or op_cat op_catA))
def rMulU : R2 := fun x y H Q => rI CMul (fun i j => .int (i * j)) x y H Q ∨ rRep x y H Q
theorem op_mulU : OpR X (binaryOp .Mult) rMulU := OpR.or op_mul op_rep
def rEqU (K : PySem.W.Frag) : R2 := fun x y H Q => rEq x y H Q ∨ rEqD K x y H Q
def rNeU (K : PySem.W.Frag) : R2 := fun x y H Q => rNe x y H Q ∨ rNeD K x y H Q
theorem op_eqU (hu : X.A.units + 64 < cLine) : OpR X (compareOp .Eq) (rEqU X.K) := OpR.or op_eq (op_eqD hu)
theorem op_neU (hu : X.A.units + 64 < cLine) : OpR X (compareOp .NotEq) (rNeU X.K) := OpR.or op_ne (op_neD hu)
def rInS : R2 := fun x y H Q => ∃ (c : Nat) (z : Str), x = .str ⟨#[c]⟩ ∧ y = .str z ∧ Q (.bl (decide (c ∈ z.cps.toList))) H
def rNotInS : R2 := fun x y H Q => ∃ (c : Nat) (z : Str), x = .str ⟨#[c]⟩ ∧ y = .str z ∧ Q (.bl (!decide (c ∈ z.cps.toList))) H
def rInU (K : PySem.W.Frag) : R2 := fun x y H Q => rIn K false x y H Q ∨ (rInS x y H Q ∨ rInD K x y H Q)
def rNotInU (K : PySem.W.Frag) : R2 := fun x y H Q => rIn K true x y H Q ∨ (rNotInS x y H Q ∨ rNotInD K x y H Q)
theorem op_inU (hu : X.A.units + 65 < cLine) : OpR X (compareOp .In) (rInU X.K) := OpR.or op_in_seq (OpR.or op_in_sign (op_inD hu))
theorem op_notInU (hu : X.A.units + 65 < cLine) : OpR X (compareOp .NotIn) (rNotInU X.K) := OpR.or op_notIn_seq (OpR.or op_notIn_sign (op_notInD hu))
def rIsN : R2 := fun x y H Q => y = .non ∧ Q (.bl (decide (x = .non))) H
def rNotN : R2 := fun x y H Q => y = .non ∧ Q (.bl (!decide (x = .non))) H
theorem op_isNU : OpR X (compareOp .Is) rIsN := op_isN
theorem op_notNU : OpR X (compareOp .IsNot) rNotN := op_notN
def rLenU (K : PySem.W.Frag) : List V → Hp → VK → Prop := fun xs H Q => ∃ x n, xs = [x] ∧ LenV K x H n ∧ Q (.int n) H
theorem call_lenU : CallR X (.builtin "len") (rLenU X.K) := call_len
def rLenDK : List V → Hp → VK → Prop := fun xs H Q => ∃ a kvs, xs = [V.ref a] ∧ H a = some (.dK kvs) ∧ Q (.int kvs.length) H
theorem call_lenDK : CallR X (.builtin "len") rLenDK := call_lenD
def rIntU : List V → Hp → VK → Prop := fun xs H Q => (∃ i, xs = [.int i] ∧ Q (.int i) H) ∨ ∃ k, xs = [.bl k] ∧ Q (.int (if k then 1 else 0)) H
theorem call_intU : CallR X (.type "int") rIntU := call_int1
def rMin2 : List V → Hp → VK → Prop := fun xs H Q => ∃ i j, xs = [.int i, .int j] ∧ Q (.int (if j < i then j else i)) H
theorem call_min2U (hc : X.calm = true) : CallR X (.builtin "min") rMin2 := call_min2 hc
def rMax2 : List V → Hp → VK → Prop := fun xs H Q => ∃ i j, xs = [.int i, .int j] ∧ Q (.int (if j > i then j else i)) H
theorem call_max2U (hc : X.calm = true) : CallR X (.builtin "max") rMax2 := call_max2 hc
def rListU (K : PySem.W.Frag) : List V → Hp → VK → Prop := fun xs H Q => ∃ p ys, xs = [.ref p] ∧ (SqL K H p ys ∨ SqT K H p ys) ∧ ∀ l, H l = none → Q (.ref l) (upd H l (.lst ys))
theorem call_listU : CallR X (.type "list") (rListU X.K) := call_list_of
def rTupleU (K : PySem.W.Frag) : List V → Hp → VK → Prop := fun xs H Q => ∃ p ys, xs = [.ref p] ∧ ((SqL K H p ys ∧ ∀ l, H l = none → Q (.ref l) (upd H l (.tup ys))) ∨ (SqT K H p ys ∧ Q (.ref p) H))
theorem call_tupleU : CallR X (.type "tuple") (rTupleU X.K) := call_tuple_of
def rIsiU (K : PySem.W.Frag) : List V → Hp → VK → Prop := fun xs H Q => rIsi K xs H Q ∨ rIsiT K xs H Q
theorem call_isiU : CallR X (.builtin "isinstance") (rIsiU X.K) := CallR.or call_isi call_isiT
def rInsert : V → List V → Hp → VK → Prop := fun x vs H Q => ∃ (l : Addr) (xs : List V) (i : Int) (y : V), x = .ref l ∧ vs = [.int i, y] ∧ H l = some (.lst xs) ∧ xs.length < sizeLine ∧ 0 ≤ i ∧ i < 2 ^ 63 ∧ Q .non (upd H l (.lst (xs.take i.toNat ++ [y] ++ xs.drop i.toNat)))
theorem mt_insertU : MtR X "list.insert" rInsert := mt_insert
def rSlU (K : PySem.W.Frag) : V → Option Int → Option Int → Hp → VK → Prop := fun x lo hi H Q => rSlL K x lo hi H Q ∨ (rSlS x lo hi H Q ∨ rSlA K x lo hi H Q)
theorem sl_U : SlR X (rSlU X.K) := SlR.or sl_list (SlR.or sl_str sl_tupA)
theorem PI.or {tg l : Expr} {w1 w2 : TI} (h1 : PI X tg l w1) (h2 : PI X tg l w2) : PI X tg l (fun σ H R => w1 σ H R ∨ w2 σ H R) := by
  refine ⟨fun pins s σ H R I h => ?_⟩
  rcases h with h | h
  · exact h1.run pins s σ H R I h
  · exact h2.run pins s σ H R I h
theorem get_list : PGet X (rIxL X.K) := by
  intro pins s σ H o i ov iv Q I ro ri h
  obtain ⟨p, xs, k, v, rfl, rfl, hq, he, q⟩ := h
  cases ro
  obtain ⟨t, rfl⟩ := ri
  obtain ⟨its, r, pl, hz⟩ := I.list hq
  obtain ⟨j, h1, h2, h3, h4, h5⟩ := atI_get he
  obtain ⟨w, ew, rw'⟩ := r.get h2
  have hl := r.length
  have hn := line63
  have fin : EP X pins σ Q w s := ⟨v, H, I, rw', q⟩
  by_cases h0 : 0 ≤ k
  · have hj : k.toNat = j := by
      rw [seqIndex_of h0 h5] at h1
      exact Option.some.inj h1
    exact wpAny_getItem_list pl.isList h0 (by omega) (by rw [hj]; simpa using ew) fin
  · have hj : (k + (its.toArray.size : Int)).toNat = j := by
      rw [seqIndex_neg (by omega) h4] at h1
      rw [List.size_toArray, ← hl]
      exact Option.some.inj h1
    exact wpAny_getItem_list_neg (Q := fun r s' => EP X pins σ Q r s') pl.isList (by omega) (by rw [List.size_toArray] <;> omega) (by omega) (by rw [hj]; simpa using ew) fin
end
end Zl

/-! Zg: the readings, step by step (what is to be shown of the values as they stand) -/
namespace Zl
open PySem PySem.Spec PyProof.Rows L2
section
variable {K : PySem.W.Frag} {σ : L2.St} {H : Hp} {Q : VK} {i : Nat} {v x y : V} {ta tb te tv : TE} {tt t u : TT} {as tr : TA} {D : Ends} {s1 s2 : TS} {g : TG} {tget : V → V → Hp → VK → Prop} {tip : TIp} {tset : TSet}
/-- a new thing -/
def newQ (o : HO) (Q : VK) (H : Hp) : Prop := ∀ p, H p = none → Q (.ref p) (upd H p o)
def newK (o : HO) (n : Nat) (Q : VK) (H : Hp) : Prop := n ≤ sizeLine ∧ newQ o Q H
def blK (Q : Bool → Hp → Prop) (x : V) (H : Hp) : Prop := ∃ k, x = .bl k ∧ Q k H
def andK (tb : TE) (σ : L2.St) (Q : VK) (x : V) (H1 : Hp) : Prop := ∃ c, x = .bl c ∧ if c = true then tb σ H1 Q else Q (.bl false) H1
def orK (tb : TE) (σ : L2.St) (Q : VK) (x : V) (H1 : Hp) : Prop := ∃ c, x = .bl c ∧ if c = true then Q (.bl true) H1 else tb σ H1 Q
def notK (Q : VK) (x : V) (H1 : Hp) : Prop := ∃ c, x = .bl c ∧ Q (.bl (!c)) H1
def partK (Q : Option Int → Hp → Prop) (x : V) (H1 : Hp) : Prop := ∃ i, x = .int i ∧ Q (some i) H1
def fldK (K : PySem.W.Frag) (f : Str) (Q : VK) (x : V) (H1 : Hp) : Prop := ∃ a C dx fs v, x = .ref a ∧ H1 a = some (.ins C dx fs) ∧ Cls K C ∧ NoAttr K C f ∧ fs.lookup f = some v ∧ Q v H1
def methK (m : Str) (C : Addr) (sp : Sp) (dvs : List V) (E : XK) (as : TA) (σ : L2.St) (Q : VK) (x : V) (H1 : Hp) : Prop := ∃ a dx fs, x = .ref a ∧ H1 a = some (.ins C dx fs) ∧ fs.lookup m = none ∧ as σ H1 fun vs H2 => sp (x :: (vs ++ dvs)) H2 Q E
def bmK (K : PySem.W.Frag) (T : String) (r : V → List V → Hp → VK → Prop) (as : TA) (σ : L2.St) (Q : VK) (x : V) (H1 : Hp) : Prop := tyV K T x H1 ∧ as σ H1 fun xs H2 => r x xs H2 Q
def bm0K (K : PySem.W.Frag) (T : String) (r : V → List V → Hp → VK → Prop) (Q : VK) (x : V) (H1 : Hp) : Prop := tyV K T x H1 ∧ r x [] H1 Q
theorem g_var (h : σ[i]? = some (some v)) (k : Q v H) : tVar i σ H Q := ⟨v, h, k⟩
theorem g_c (k : Q v H) : tC v σ H Q := k
theorem g_op {r : R2} (k : ta σ H fun x H1 => tb σ H1 fun y H2 => r x y H2 Q) : tOp r ta tb σ H Q := k
theorem g_un {r : V → Hp → VK → Prop} (k : ta σ H fun x H1 => r x H1 Q) : tUn r ta σ H Q := k
theorem g_test {Q : Bool → Hp → Prop} (k : te σ H (blK Q)) : tTest te σ H Q := k
theorem g_B {Q : Bool → Hp → Prop} (k : te σ H (blK Q)) : tB te σ H Q := k
theorem g_and {Q : Bool → Hp → Prop} (k : t σ H fun c H1 => if c = true then u σ H1 Q else Q false H1) : tAnd t u σ H Q := k
theorem g_or {Q : Bool → Hp → Prop} (k : t σ H fun c H1 => if c = true then Q true H1 else u σ H1 Q) : tOr t u σ H Q := k
theorem g_not {Q : Bool → Hp → Prop} (k : t σ H fun c H1 => Q (!c) H1) : tNot t σ H Q := k
theorem g_andV (k : ta σ H (andK tb σ Q)) : tAndV ta tb σ H Q := k
theorem g_orV (k : ta σ H (orK tb σ Q)) : tOrV ta tb σ H Q := k
theorem g_notV (k : ta σ H (notK Q)) : tNotV ta σ H Q := k
theorem g_if (k : t σ H fun c H1 => if c = true then ta σ H1 Q else tb σ H1 Q) : tIf t ta tb σ H Q := k
theorem g_nil {Q : List V → Hp → Prop} (k : Q [] H) : tNil σ H Q := k
theorem g_cons {Q : List V → Hp → Prop} (k : te σ H fun x H1 => tr σ H1 fun xs H2 => Q (x :: xs) H2) : tCons te tr σ H Q := k
theorem g_call {sp : Sp} {dvs : List V} {E : XK} (k : as σ H fun vs H1 => sp (vs ++ dvs) H1 Q E) : tCall sp dvs E as σ H Q := k
theorem g_cb {r : List V → Hp → VK → Prop} (k : as σ H fun vs H1 => r vs H1 Q) : tCB r as σ H Q := k
theorem g_tup (k : as σ H fun xs H1 => newK (.tup xs) xs.length Q H1) : tTup as σ H Q := k
theorem g_lst (k : as σ H fun xs H1 => newK (.lst xs) xs.length Q H1) : tLst as σ H Q := k
theorem g_sl {r : V → Option Int → Option Int → Hp → VK → Prop} {tl th : TO} (k : te σ H fun x H1 => tl σ H1 fun l H2 => th σ H2 fun u H3 => r x l u H3 Q) : tSl r te tl th σ H Q := k
theorem g_nopart {Q : Option Int → Hp → Prop} (k : Q none H) : tNoPart σ H Q := k
theorem g_part {Q : Option Int → Hp → Prop} (k : te σ H (partK Q)) : tPart te σ H Q := k
theorem g_bm {T : String} {r : V → List V → Hp → VK → Prop} (k : te σ H (bmK K T r as σ Q)) : tBM K T r te as σ H Q := k
theorem g_bm0 {T : String} {r : V → List V → Hp → VK → Prop} (k : te σ H (bm0K K T r Q)) : tBM0 K T r te σ H Q := k
theorem g_fld {f : Str} (k : te σ H (fldK K f Q)) : tFld K te f σ H Q := k
theorem g_meth {C : Addr} {m : Str} {sp : Sp} {dvs : List V} {E : XK} (k : te σ H (methK m C sp dvs E as σ Q)) : tMeth C m sp dvs E te as σ H Q := k
/-! statements -/
theorem g_seq (k : s1 { D with nx := s2 D } σ H) : tSeq s1 s2 D σ H := k
theorem g_next (k : D.nx σ H) : tNext D σ H := k
theorem g_brk (k : D.bk σ H) : tBreak D σ H := k
theorem g_cont (k : D.ct σ H) : tCont D σ H := k
theorem g_drop (k : te σ H fun _ H1 => D.nx σ H1) : tDrop te D σ H := k
theorem g_ret (k : te σ H D.rt) : tRet te D σ H := k
theorem g_retN (k : D.rt .non H) : tRetN D σ H := k
theorem g_asg (k : te σ H fun x H1 => g x σ H1 D.nx) : tAsg te g D σ H := k
theorem g_name {Q : L2.St → Hp → Prop} (k : Q (σ.set i (some v)) H) : gName i v σ H Q := k
theorem g_ifS (k : tt σ H fun b H1 => if b = true then s1 D σ H1 else s2 D σ H1) : tIfS tt s1 s2 D σ H := k
theorem g_aug (h : σ[i]? = some (some x)) (k : te σ H fun y H1 => tip x y H1 fun z H2 => D.nx (σ.set i (some z)) H2) : tAug i te tip D σ H := ⟨x, h, k⟩
theorem g_augS (k : ta σ H fun o H1 => tb σ H1 fun i H2 => tget o i H2 fun x H3 => te σ H3 fun y H4 => tip x y H4 fun z H5 => tset o i z H5 fun H6 => D.nx σ H6) : tAugS ta tb te tget tip tset D σ H := k
theorem g_gsub {Q : L2.St → Hp → Prop} (k : ta σ H fun o H1 => tb σ H1 fun i H2 => tset o i v H2 fun H3 => Q σ H3) : gSub ta tb tset v σ H Q := k
theorem g_gtup {n : Nat} {tg : TGs} {Q : L2.St → Hp → Prop} {a : Addr} {xs : List V} (h : SqT K H a xs) (hl : xs.length = n) (k : tg xs σ H Q) : gTup K n tg (.ref a) σ H Q := ⟨a, xs, rfl, h, hl, k⟩
theorem g_glst {n : Nat} {tg : TGs} {Q : L2.St → Hp → Prop} {a : Addr} {xs : List V} (h : SqL K H a xs) (hl : xs.length = n) (k : tg xs σ H Q) : gLst K n tg (.ref a) σ H Q := ⟨a, xs, rfl, h, hl, k⟩
theorem g_gcons {tg : TGs} {vs : List V} {Q : L2.St → Hp → Prop} (k : g v σ H fun σ' H' => tg vs σ' H' Q) : gCons g tg (v :: vs) σ H Q := ⟨v, vs, rfl, k⟩
theorem g_gnil {Q : L2.St → Hp → Prop} (k : Q σ H) : gNil [] σ H Q := ⟨rfl, k⟩
/-! values -/
theorem g_bl {b : Bool} {Q : Bool → Hp → Prop} (k : Q b H) : blK Q (.bl b) H := ⟨b, rfl, k⟩
theorem g_int {n : Int} {Q : Option Int → Hp → Prop} (k : Q (some n) H) : partK Q (.int n) H := ⟨n, rfl, k⟩
theorem g_andK {b : Bool} (k : if b = true then tb σ H Q else Q (.bl false) H) : andK tb σ Q (.bl b) H := ⟨b, rfl, k⟩
theorem g_orK {b : Bool} (k : if b = true then Q (.bl true) H else tb σ H Q) : orK tb σ Q (.bl b) H := ⟨b, rfl, k⟩
theorem g_notK {b : Bool} (k : Q (.bl (!b)) H) : notK Q (.bl b) H := ⟨b, rfl, k⟩
theorem g_fldK {a C dx : Addr} {fs : List (Str × V)} {f : Str} (h : H a = some (.ins C dx fs)) (cl : Cls K C) (na : NoAttr K C f) (hl : fs.lookup f = some v) (k : Q v H) : fldK K f Q (.ref a) H := ⟨a, C, dx, fs, v, rfl, h, cl, na, hl, k⟩
theorem g_methK {a C dx : Addr} {fs : List (Str × V)} {m : Str} {sp : Sp} {dvs : List V} {E : XK} (h : H a = some (.ins C dx fs)) (hl : fs.lookup m = none) (k : as σ H fun vs H2 => sp (.ref a :: (vs ++ dvs)) H2 Q E) : methK m C sp dvs E as σ Q (.ref a) H := ⟨a, dx, fs, rfl, h, hl, k⟩
variable {m n : Int} {z w : Str}
theorem g_addI (k : Q (.int (m + n)) H) : rAddU K (.int m) (.int n) H Q := .inl ⟨m, n, rfl, rfl, k⟩
theorem g_addS (h : z.length + w.length ≤ sizeLine) (k : Q (.str (z ++ w)) H) : rAddU K (.str z) (.str w) H Q := .inr (.inl ⟨z, w, rfl, rfl, h, k⟩)
theorem g_addL {a b : Addr} {xs ys : List V} (h1 : H a = some (.lst xs)) (h2 : H b = some (.lst ys)) (h : xs.length + ys.length ≤ sizeLine) (k : newQ (.lst (xs ++ ys)) Q H) : rAddU K (.ref a) (.ref b) H Q :=
  .inr (.inr (.inl ⟨a, b, xs, ys, rfl, rfl, h1, h2, h, k⟩))
theorem g_subI (k : Q (.int (m - n)) H) : rI0 (fun i j => .int (i - j)) (.int m) (.int n) H Q := ⟨m, n, rfl, rfl, k⟩
theorem g_mulI (h : CMul m n) (k : Q (.int (m * n)) H) : rMulU (.int m) (.int n) H Q := .inl ⟨m, n, rfl, rfl, h, k⟩
theorem g_modI (h : 0 < n) (k : Q (.int (m % n)) H) : rI (fun _ j => 0 < j) (fun i j => .int (i % j)) (.int m) (.int n) H Q := ⟨m, n, rfl, rfl, h, k⟩
theorem g_divI (h : CDiv m n) (k : Q (.int (m / n)) H) : rI CDiv (fun i j => .int (i / j)) (.int m) (.int n) H Q := ⟨m, n, rfl, rfl, h, k⟩
theorem g_powI (h : CPow m n) (k : Q (.int (m ^ n.toNat)) H) : rI CPow (fun i j => .int (i ^ j.toNat)) (.int m) (.int n) H Q := ⟨m, n, rfl, rfl, h, k⟩
theorem g_ltI (k : Q (.bl (decide (m < n))) H) : rI0 (fun i j => .bl (decide (i < j))) (.int m) (.int n) H Q := ⟨m, n, rfl, rfl, k⟩
theorem g_leI (k : Q (.bl (decide (m ≤ n))) H) : rI0 (fun i j => .bl (decide (i ≤ j))) (.int m) (.int n) H Q := ⟨m, n, rfl, rfl, k⟩
theorem g_gtI (k : Q (.bl (decide (n < m))) H) : rI0 (fun i j => .bl (decide (j < i))) (.int m) (.int n) H Q := ⟨m, n, rfl, rfl, k⟩
theorem g_geI (k : Q (.bl (decide (n ≤ m))) H) : rI0 (fun i j => .bl (decide (j ≤ i))) (.int m) (.int n) H Q := ⟨m, n, rfl, rfl, k⟩
theorem g_neg (k : Q (.int (-m)) H) : rU (fun i => .int (-i)) (.int m) H Q := ⟨m, rfl, k⟩
theorem g_ipadd (k : Q (.int (m + n)) H) : ipI (fun i j => i + j) (.int m) (.int n) H Q := ⟨m, n, rfl, rfl, k⟩
theorem g_ipsub (k : Q (.int (m - n)) H) : ipI (fun i j => i - j) (.int m) (.int n) H Q := ⟨m, n, rfl, rfl, k⟩
/-- equal, by the values themselves -/
theorem g_eqI (k : Q (.bl (decide (m = n))) H) : rEqU K (.int m) (.int n) H Q := .inl ⟨rfl, by
  have e : decide (V.int m = V.int n) = decide (m = n) := by
    by_cases h : m = n
    · rw [h]; simp
    · rw [decide_eq_false h, decide_eq_false fun q => h (V.int.inj q)]
  rw [e]; exact k⟩
theorem g_neI (k : Q (.bl (!decide (m = n))) H) : rNeU K (.int m) (.int n) H Q := .inl ⟨rfl, by
  have e : decide (V.int m = V.int n) = decide (m = n) := by
    by_cases h : m = n
    · rw [h]; simp
    · rw [decide_eq_false h, decide_eq_false fun q => h (V.int.inj q)]
  rw [e]; exact k⟩
theorem g_eqS (k : Q (.bl (decide (z = w))) H) : rEqU K (.str z) (.str w) H Q := .inl ⟨rfl, by
  have e : decide (V.str z = V.str w) = decide (z = w) := by
    by_cases h : z = w
    · rw [h]; simp
    · rw [decide_eq_false h, decide_eq_false fun q => h (V.str.inj q)]
  rw [e]; exact k⟩
theorem g_neS (k : Q (.bl (!decide (z = w))) H) : rNeU K (.str z) (.str w) H Q := .inl ⟨rfl, by
  have e : decide (V.str z = V.str w) = decide (z = w) := by
    by_cases h : z = w
    · rw [h]; simp
    · rw [decide_eq_false h, decide_eq_false fun q => h (V.str.inj q)]
  rw [e]; exact k⟩
theorem g_eqB {a b : Bool} (k : Q (.bl (a == b)) H) : rEqU K (.bl a) (.bl b) H Q := .inl ⟨rfl, by
  have e : decide (V.bl a = V.bl b) = (a == b) := by cases a <;> cases b <;> rfl
  rw [e]; exact k⟩
theorem g_neB {a b : Bool} (k : Q (.bl (a != b)) H) : rNeU K (.bl a) (.bl b) H Q := .inl ⟨rfl, by
  have e : (!decide (V.bl a = V.bl b)) = (a != b) := by cases a <;> cases b <;> rfl
  rw [e]; exact k⟩
theorem g_eqD {d e : PyData} (h1 : Dp K H x d) (h2 : Dp K H y e) (s1 : SeqAt.shaped d = true) (s2 : SeqAt.shaped e = true) (k : Q (.bl (PyData.eqv d e)) H) : rEqU K x y H Q := .inr ⟨d, e, h1, h2, s1, s2, k⟩
theorem g_neD {d e : PyData} (h1 : Dp K H x d) (h2 : Dp K H y e) (s1 : SeqAt.shaped d = true) (s2 : SeqAt.shaped e = true) (k : Q (.bl (!PyData.eqv d e)) H) : rNeU K x y H Q := .inr ⟨d, e, h1, h2, s1, s2, k⟩
theorem g_isN (k : Q (.bl (decide (x = .non))) H) : rIsN x .non H Q := ⟨rfl, k⟩
theorem g_notN (k : Q (.bl (!decide (x = .non))) H) : rNotN x .non H Q := ⟨rfl, k⟩
theorem g_lenL {a : Addr} {xs : List V} (h : SqL K H a xs) (k : Q (.int xs.length) H) : rLenU K [.ref a] H Q := ⟨.ref a, xs.length, rfl, .inl ⟨xs, h, rfl⟩, k⟩
theorem g_lenT {a : Addr} {xs : List V} (h : SqT K H a xs) (k : Q (.int xs.length) H) : rLenU K [.ref a] H Q := ⟨.ref a, xs.length, rfl, .inr ⟨xs, h, rfl⟩, k⟩
theorem g_lenS (h : z.length ≤ sizeLine) (k : Q (.int z.length) H) : rLenU K [.str z] H Q := ⟨.str z, z.length, rfl, ⟨h, rfl⟩, k⟩
theorem g_intI (k : Q (.int m) H) : rIntU [.int m] H Q := .inl ⟨m, rfl, k⟩
theorem g_intB {b : Bool} (k : Q (.int (if b then 1 else 0)) H) : rIntU [.bl b] H Q := .inr ⟨b, rfl, k⟩
theorem g_min2 (k : Q (.int (min m n)) H) : rMin2 [.int m, .int n] H Q := ⟨m, n, rfl, by
  have e : (if n < m then n else m) = min m n := by
    rw [Int.min_def]; split <;> split <;> omega
  rw [e]; exact k⟩
theorem g_max2 (k : Q (.int (max m n)) H) : rMax2 [.int m, .int n] H Q := ⟨m, n, rfl, by
  have e : (if n > m then n else m) = max m n := by
    rw [Int.max_def]; split <;> split <;> omega
  rw [e]; exact k⟩
theorem g_listL {a : Addr} {xs : List V} (h : SqL K H a xs) (k : newQ (.lst xs) Q H) : rListU K [.ref a] H Q := ⟨a, xs, rfl, .inl h, k⟩
theorem g_listT {a : Addr} {xs : List V} (h : SqT K H a xs) (k : newQ (.lst xs) Q H) : rListU K [.ref a] H Q := ⟨a, xs, rfl, .inr h, k⟩
theorem g_tupleL {a : Addr} {xs : List V} (h : SqL K H a xs) (k : newQ (.tup xs) Q H) : rTupleU K [.ref a] H Q := ⟨a, xs, rfl, .inl ⟨h, k⟩⟩
theorem g_ixL {a : Addr} {xs : List V} (h : SqL K H a xs) (hi : atI xs m = some v) (k : Q v H) : rIx K (.ref a) (.int m) H Q := .inl ⟨a, xs, m, v, rfl, rfl, h, hi, k⟩
theorem g_ixT {a : Addr} {xs : List V} (h : SqT K H a xs) (hi : atI xs m = some v) (k : Q v H) : rIx K (.ref a) (.int m) H Q := .inr (.inl ⟨a, xs, m, v, rfl, rfl, h, hi, k⟩)
theorem g_ixS {c : Nat} (h : z.length ≤ sizeLine) (hi : atI z.cps.toList m = some c) (k : Q (.str ⟨#[c]⟩) H) : rIx K (.str z) (.int m) H Q := .inr (.inr ⟨z, m, c, rfl, rfl, h, hi, k⟩)
theorem g_ixLL {a : Addr} {xs : List V} (h : SqL K H a xs) (hi : atI xs m = some v) (k : Q v H) : rIxL K (.ref a) (.int m) H Q := ⟨a, xs, m, v, rfl, rfl, h, hi, k⟩
theorem g_slL {a : Addr} {xs : List V} {lo hi : Option Int} (h : SqL K H a xs) (k : newQ (.lst (cutV xs lo hi)) Q H) : rSlU K (.ref a) lo hi H Q := .inl ⟨a, xs, rfl, h, k⟩
theorem g_slS {lo hi : Option Int} (h : z.length ≤ sizeLine) (k : Q (.str (cutS z lo hi)) H) : rSlU K (.str z) lo hi H Q := .inr (.inl ⟨z, rfl, h, k⟩)
end
/-! tests whose outcome is open -/
theorem ite_d {p A B : Prop} {_ : Decidable p} (h1 : p → A) (h2 : ¬ p → B) : if decide p = true then A else B := by
  by_cases h : p
  · rw [decide_eq_true h, if_pos rfl]; exact h1 h
  · rw [decide_eq_false h, if_neg Bool.false_ne_true]; exact h2 h
theorem ite_nd {p A B : Prop} {_ : Decidable p} (h1 : ¬ p → A) (h2 : p → B) : if (!decide p) = true then A else B := by
  by_cases h : p
  · rw [decide_eq_true h]; exact h2 h
  · rw [decide_eq_false h]; exact h1 h
theorem ite_b {b : Bool} {A B : Prop} (h1 : b = true → A) (h2 : b = false → B) : if b = true then A else B := by
  cases b
  · exact h2 rfl
  · exact h1 rfl
theorem ite_nb {b : Bool} {A B : Prop} (h1 : b = false → A) (h2 : b = true → B) : if (!b) = true then A else B := by
  cases b
  · exact h1 rfl
  · exact h2 rfl
theorem atI_of {α : Type} {xs : List α} {m : Int} {v : α} (h0 : 0 ≤ m) (h : xs[m.toNat]? = some v) : atI xs m = some v := by
  have e : ((m.toNat : Nat) : Int) = m := Int.toNat_of_nonneg h0
  have q := atI_nat h
  rw [e] at q
  exact q
theorem atI_int {ns : List Int} {m : Int} (h0 : 0 ≤ m) (h : m < ns.length) : atI (ns.map V.int) m = some (.int (ns.getD m.toNat 0)) := by
  refine atI_of h0 ?_
  have hl : m.toNat < ns.length := by omega
  rw [List.getElem?_map, List.getElem?_eq_getElem hl, List.getD_eq_getElem?_getD, List.getElem?_eq_getElem hl] <;> rfl
end Zl

/-! Zd: data of tuples, what is an instance of what, room -/
namespace Zl
open PySem PySem.Spec PyProof.Rows L2

theorem small_of {n : Nat} (h : n < 16777216) : n < sizeLine := by rw [sizeLine_eq]; exact h
theorem small_le {n : Nat} (h : n ≤ 16777216) : n ≤ sizeLine := by rw [sizeLine_eq]; exact h
theorem hu64 {A : Around} {k : Nat} (hr : Room k A) : A.units + 64 < cLine := hr.units
theorem hu65 {A : Around} {k : Nat} (hr : Room k A) : A.units + 65 < cLine := by have := hr.un; omega
def tTr (K : PySem.W.Frag) (ta : TE) : TT := fun σ H Q => ta σ H fun x H' => ∃ k, TruV K x H' k ∧ Q k H'
theorem pt_tr {X : Cx} {a : Expr} {ta : TE} (he : ∀ whole, isTrue a X.env whole = (do let v ← whole; standAt a.pos; holding [v] (truthy v))) (h : PE X a ta) : PT X a (tTr X.K ta) := pt_truth h he
def trK (K : PySem.W.Frag) (Q : Bool → Hp → Prop) (x : V) (H : Hp) : Prop := ∃ k, TruV K x H k ∧ Q k H
theorem g_tr {K : PySem.W.Frag} {ta : TE} {σ : L2.St} {H : Hp} {Q : Bool → Hp → Prop} (k : ta σ H (trK K Q)) : tTr K ta σ H Q := k
theorem g_trB {K : PySem.W.Frag} {H : Hp} {b : Bool} {Q : Bool → Hp → Prop} (k : Q b H) : trK K Q (.bl b) H := ⟨b, rfl, k⟩

/-! ### data that is made of tuples alone: it stays whatever is written -/
mutual
inductive Td (H : Hp) : V → PyData → Prop
  | non : Td H .non .none
  | bl (b : Bool) : Td H (.bl b) (.bool b)
  | int (i : Int) : Td H (.int i) (.int i)
  | str (x : Str) : Td H (.str x) (.str x)
  | tup {a : Addr} {xs : List V} {ds : List PyData} : H a = some (.tup xs) → TdAll H xs ds → Td H (.ref a) (.tuple ds)
inductive TdAll (H : Hp) : List V → List PyData → Prop
  | nil : TdAll H [] []
  | cons {v : V} {vs : List V} {d : PyData} {ds : List PyData} : Td H v d → TdAll H vs ds → TdAll H (v :: vs) (d :: ds)
end
/-- the tuples stay -/
def Tup (H H' : Hp) : Prop := ∀ a xs, H a = some (.tup xs) → H' a = some (.tup xs)
theorem Tup.refl (H : Hp) : Tup H H := fun _ _ h => h
theorem Tup.trans {H H1 H2 : Hp} (a : Tup H H1) (b : Tup H1 H2) : Tup H H2 := fun x o h => b x o (a x o h)
theorem Tup.of {H H' : Hp} (e : Same H H') : Tup H H' := fun a xs h => e a _ h
theorem Tup.mut {H H' : Hp} {l : Addr} (hl : ∀ xs, H l ≠ some (.tup xs)) (e : ∀ b u, b ≠ l → H b = some u → H' b = some u) : Tup H H' := fun a xs h => e a _ (fun q => hl xs (by rw [← q]; exact h)) h
mutual
theorem td_tup {H H' : Hp} (e : Tup H H') : ∀ {v : V} {d : PyData}, Td H v d → Td H' v d
  | _, _, .non => .non
  | _, _, .bl b => .bl b
  | _, _, .int i => .int i
  | _, _, .str x => .str x
  | _, _, .tup h a => .tup (e _ _ h) (tds_tup e a)
theorem tds_tup {H H' : Hp} (e : Tup H H') : ∀ {vs : List V} {ds : List PyData}, TdAll H vs ds → TdAll H' vs ds
  | _, _, .nil => .nil
  | _, _, .cons h a => .cons (td_tup e h) (tds_tup e a)
end
mutual
theorem td_dp {K : PySem.W.Frag} {H : Hp} : ∀ {v : V} {d : PyData}, Td H v d → Dp K H v d
  | _, _, .non => .non
  | _, _, .bl b => .bl b
  | _, _, .int i => .int i
  | _, _, .str x => .str x
  | _, _, .tup h a => .tup (.inl (.inl h)) (tds_dp a)
theorem tds_dp {K : PySem.W.Frag} {H : Hp} : ∀ {vs : List V} {ds : List PyData}, TdAll H vs ds → DpAll K H vs ds
  | _, _, .nil => .nil
  | _, _, .cons h a => .cons (td_dp h) (tds_dp a)
end
theorem td_ex {H H' : Hp} (e : Same H H') {v : V} {d : PyData} (h : Td H v d) : Td H' v d := td_tup (Tup.of e) h
theorem tds_ex {H H' : Hp} (e : Same H H') {vs : List V} {ds : List PyData} (h : TdAll H vs ds) : TdAll H' vs ds := tds_tup (Tup.of e) h
theorem tds_len {H : Hp} : ∀ {vs : List V} {ds : List PyData}, TdAll H vs ds → vs.length = ds.length
  | _, _, .nil => rfl
  | _, _, .cons _ a => congrArg (· + 1) (tds_len a)
theorem tds_get {H : Hp} : ∀ {vs : List V} {ds : List PyData} {i : Nat} {v : V}, TdAll H vs ds → vs[i]? = some v → ∃ d, ds[i]? = some d ∧ Td H v d
  | _, _, _, _, .nil, h => by simp at h
  | _, _, 0, _, .cons h _, e => by
    cases (show some _ = some _ from e)
    exact ⟨_, rfl, h⟩
  | _, _, i + 1, _, .cons _ a, e => tds_get (i := i) a (by simpa using e)
theorem tds_getD {H : Hp} : ∀ {vs : List V} {ds : List PyData} {i : Nat} {d : PyData}, TdAll H vs ds → ds[i]? = some d → ∃ v, vs[i]? = some v ∧ Td H v d
  | _, _, _, _, .nil, h => by simp at h
  | _, _, 0, _, .cons h _, e => by
    cases (show some _ = some _ from e)
    exact ⟨_, rfl, h⟩
  | _, _, i + 1, _, .cons _ a, e => tds_getD (i := i) a (by simpa using e)
theorem tds_app {H : Hp} : ∀ {vs vs' : List V} {ds ds' : List PyData}, TdAll H vs ds → TdAll H vs' ds' → TdAll H (vs ++ vs') (ds ++ ds')
  | _, _, _, _, .nil, b => b
  | _, _, _, _, .cons h a, b => .cons h (tds_app a b)
theorem tds_snoc {H : Hp} {vs : List V} {ds : List PyData} {v : V} {d : PyData} (a : TdAll H vs ds) (h : Td H v d) : TdAll H (vs ++ [v]) (ds ++ [d]) := tds_app a (.cons h .nil)
theorem tds_take {H : Hp} : ∀ {vs : List V} {ds : List PyData} (n : Nat), TdAll H vs ds → TdAll H (vs.take n) (ds.take n)
  | _, _, 0, _ => .nil
  | _, _, _ + 1, .nil => .nil
  | _, _, n + 1, .cons h a => .cons h (tds_take n a)
theorem tds_drop {H : Hp} : ∀ {vs : List V} {ds : List PyData} (n : Nat), TdAll H vs ds → TdAll H (vs.drop n) (ds.drop n)
  | _, _, 0, a => a
  | _, _, _ + 1, .nil => .nil
  | _, _, n + 1, .cons _ a => tds_drop n a
theorem tds_int {H : Hp} : ∀ ns : List Int, TdAll H (ns.map V.int) (ns.map PyData.int)
  | [] => .nil
  | n :: ns => .cons (.int n) (tds_int ns)
/-- the frame with all tuples of the heap -/
def tupsOf (H B : Hp) : Hp := fun a => match H a with
  | some (.tup xs) => some (.tup xs)
  | _ => B a
theorem tupsOf_same {B H : Hp} (e : Same B H) : Same B (tupsOf H B) := fun a o h => by
  have h' := e a o h
  unfold tupsOf
  rw [h']
  cases o <;> first | rfl | exact h
theorem tupsOf_tup {B H : Hp} : Tup H (tupsOf H B) := fun a xs h => by
  unfold tupsOf
  rw [h]
theorem tupsOf_sub {B H : Hp} (e : Same B H) : Same (tupsOf H B) H := fun a o h => by
  unfold tupsOf at h
  split at h
  · rename_i xs hx
    rw [hx]
    exact h
  · exact e a o h
theorem Own.tups {B H : Hp} {cs : List (Addr × HO)} (O : Own B cs H) (h : ∀ c ∈ cs, ∀ xs, c.2 ≠ .tup xs) : Own (tupsOf H B) cs H := by
  refine ⟨tupsOf_sub O.fr, fun c hc => ?_, O.have_, O.nd⟩
  have h1 := O.have_ c hc
  have h2 := h c hc
  unfold tupsOf
  rw [h1]
  split
  · rename_i xs hx
    exact absurd (Option.some.inj hx) (h2 xs)
  · exact O.out c hc

/-! ### loops, lists that are owned -/
section
variable {K : PySem.W.Frag} {B : Hp} {cs : List (Addr × HO)} {σ : L2.St} {H : Hp} {a : Addr} {xs : List V} {v : V} {Q : VK} {D : Ends} {tb : TS} {g : TG} {ta : TA} {te : TE}
theorem g_tyL {r : V → List V → Hp → VK → Prop} {as : TA} (h : SqL K H a xs) (k : as σ H fun xs H2 => r (.ref a) xs H2 Q) : bmK K "list" r as σ Q (.ref a) H := ⟨.inl ⟨rfl, xs, h⟩, k⟩
theorem g_tyL0 {r : V → List V → Hp → VK → Prop} (h : SqL K H a xs) (k : r (.ref a) [] H Q) : bm0K K "list" r Q (.ref a) H := ⟨.inl ⟨rfl, xs, h⟩, k⟩
theorem g_append (O : Own B cs H) (j : Nat) (h : cs[j]? = some (a, .lst xs)) (hz : xs.length < sizeLine) (k : ∀ H', Own B (cs.set j (a, .lst (xs ++ [v]))) H' → Q .non H') : rAppend (.ref a) [v] H Q :=
  ⟨a, xs, v, rfl, rfl, O.get j h, hz, k _ (O.set j h)⟩
theorem g_extend {b : Addr} {zs : List V} (O : Own B cs H) (j : Nat) (h : cs[j]? = some (a, .lst xs)) (hb : H b = some (.lst zs)) (hz : xs.length + zs.length ≤ sizeLine) (k : ∀ H', Own B (cs.set j (a, .lst (xs ++ zs))) H' → Q .non H') : rExtend (.ref a) [.ref b] H Q :=
  ⟨a, b, xs, zs, rfl, rfl, O.get j h, hb, hz, k _ (O.set j h)⟩
theorem g_insert {i : Int} (O : Own B cs H) (j : Nat) (h : cs[j]? = some (a, .lst xs)) (hz : xs.length < sizeLine) (h0 : 0 ≤ i) (h1 : i < 2 ^ 63) (k : ∀ H', Own B (cs.set j (a, .lst (xs.take i.toNat ++ [v] ++ xs.drop i.toNat))) H' → Q .non H') : rInsert (.ref a) [.int i, v] H Q :=
  ⟨a, xs, i, v, rfl, rfl, O.get j h, hz, h0, h1, k _ (O.set j h)⟩
theorem ixN_nat {n : Nat} {i : Int} (h0 : 0 ≤ i) (h : i < n) : ixN n i = some i.toNat := by
  unfold ixN
  rw [if_pos h0, if_pos h]
theorem g_setL {i : Int} {Q : Hp → Prop} (O : Own B cs H) (j : Nat) (h : cs[j]? = some (a, .lst xs)) (h0 : 0 ≤ i) (h1 : i < xs.length) (k : ∀ H', Own B (cs.set j (a, .lst (xs.set i.toNat v))) H' → Q H') : rSetL (.ref a) (.int i) v H Q :=
  ⟨a, xs, i, i.toNat, rfl, rfl, O.get j h, ixN_nat h0 h1, k _ (O.set j h)⟩
theorem g_new {n : Nat} {o : HO} (hz : n ≤ sizeLine) (O : Own B cs H) (k : ∀ p H', H p = none → Own B ((p, o) :: cs) H' → Q (.ref p) H') : newK o n Q H := ⟨hz, own_new O k⟩
theorem g_newQ {o : HO} (O : Own B cs H) (k : ∀ p H', H p = none → Own B ((p, o) :: cs) H' → Q (.ref p) H') : newQ o Q H := own_new O k
/-- what a for is to keep, whatever it walks -/
def forB (g : TG) (tb : TS) (D : Ends) (σ : L2.St) (J : It) (H1 : Hp) : Prop := ∃ W : Nat → Nat → L2.St → Hp → Prop, (∃ m, W 0 m σ H1) ∧ ∀ i m σ H, W i m σ H →
  (J.stop i H ∧ D.nx σ H) ∨ (J.go i H ∧ ∃ N : L2.St → Hp → Prop, (∀ σ' H', N σ' H' → ∃ m', m' < m ∧ W (i + 1) m' σ' H') ∧ ∀ x H', J.yld i H x H' → g x σ H' fun σ2 H2 => tb { D with nx := N, ct := N, bk := D.nx } σ2 H2)
theorem g_for {wi : TI} (k : wi σ H (forB g tb D σ)) : tFor wi g tb D σ H := k
def rng1K (R : It → Hp → Prop) (vs : List V) (H1 : Hp) : Prop := ∃ j : Int, vs = [.int j] ∧ -(2 ^ 62) ≤ j ∧ j < 2 ^ 62 ∧ R (Itr 0 j.toNat) H1
def rng2K (R : It → Hp → Prop) (vs : List V) (H1 : Hp) : Prop := ∃ i j : Int, vs = [.int i, .int j] ∧ (-(2 ^ 62) ≤ i ∧ i < 2 ^ 62 ∧ -(2 ^ 62) ≤ j ∧ j < 2 ^ 62) ∧ R (Itr i (j - i).toNat) H1
def rng3K (R : It → Hp → Prop) (vs : List V) (H1 : Hp) : Prop := ∃ (i j c : Int) (n : Nat), vs = [.int i, .int j, .int c] ∧ RgC i j c n ∧ R (Itc i c n) H1
def iLK (K : PySem.W.Frag) (R : It → Hp → Prop) (x : V) (H1 : Hp) : Prop := ∃ a, x = .ref a ∧ (∃ xs, SqL K H1 a xs) ∧ R (Itl K a) H1
def iTK (K : PySem.W.Frag) (R : It → Hp → Prop) (x : V) (H1 : Hp) : Prop := ∃ a, x = .ref a ∧ (∃ xs, SqT K H1 a xs) ∧ R (Itt K a) H1
def iSK (R : It → Hp → Prop) (v : V) (H1 : Hp) : Prop := ∃ x, v = .str x ∧ R (Its x) H1
def iZK (K : PySem.W.Frag) (R : It → Hp → Prop) (vs : List V) (H1 : Hp) : Prop := ∃ a b xs ys, vs = [.ref a, .ref b] ∧ SqL K H1 a xs ∧ SqL K H1 b ys ∧ R (Itz K a b) H1
def iEK (K : PySem.W.Frag) (R : It → Hp → Prop) (vs : List V) (H1 : Hp) : Prop := ∃ a xs, vs = [.ref a] ∧ SqL K H1 a xs ∧ R (Ite K a) H1
theorem g_rng1 {R : It → Hp → Prop} (k : ta σ H (rng1K R)) : iRng1 ta σ H R := k
theorem g_rng2 {R : It → Hp → Prop} (k : ta σ H (rng2K R)) : iRng2 ta σ H R := k
theorem g_rng3 {R : It → Hp → Prop} (k : ta σ H (rng3K R)) : iRng3 ta σ H R := k
theorem g_iList {R : It → Hp → Prop} (k : te σ H (iLK K R)) : iList K te σ H R := k
theorem g_iTup {R : It → Hp → Prop} (k : te σ H (iTK K R)) : iTup K te σ H R := k
theorem g_iStr {R : It → Hp → Prop} (k : te σ H (iSK R)) : iStr te σ H R := k
theorem g_iZip {R : It → Hp → Prop} (k : ta σ H (iZK K R)) : iZip K ta σ H R := k
theorem g_iEnum {R : It → Hp → Prop} (k : ta σ H (iEK K R)) : iEnum K ta σ H R := k
theorem g_rng1v {n : Int} {R : It → Hp → Prop} (h : -(2 ^ 62) ≤ n ∧ n < 2 ^ 62) (k : R (Itr 0 n.toNat) H) : rng1K R [V.int n] H := ⟨n, rfl, h.1, h.2, k⟩
theorem g_rng2v {m n : Int} {R : It → Hp → Prop} (h : -(2 ^ 62) ≤ m ∧ m < 2 ^ 62 ∧ -(2 ^ 62) ≤ n ∧ n < 2 ^ 62) (k : R (Itr m (n - m).toNat) H) : rng2K R [V.int m, V.int n] H := ⟨m, n, rfl, h, k⟩
theorem g_rng3v {m n c : Int} {N : Nat} {R : It → Hp → Prop} (h : RgC m n c N) (k : R (Itc m c N) H) : rng3K R [V.int m, V.int n, V.int c] H := ⟨m, n, c, N, rfl, h, k⟩
theorem g_iListv {R : It → Hp → Prop} (h : SqL K H a xs) (k : R (Itl K a) H) : iLK K R (.ref a) H := ⟨a, rfl, ⟨xs, h⟩, k⟩
theorem g_iTupv {R : It → Hp → Prop} (h : SqT K H a xs) (k : R (Itt K a) H) : iTK K R (.ref a) H := ⟨a, rfl, ⟨xs, h⟩, k⟩
theorem g_iStrv {z : Str} {R : It → Hp → Prop} (k : R (Its z) H) : iSK R (.str z) H := ⟨z, rfl, k⟩
theorem g_iZipv {b : Addr} {ys : List V} {R : It → Hp → Prop} (h : SqL K H a xs) (h2 : SqL K H b ys) (k : R (Itz K a b) H) : iZK K R [.ref a, .ref b] H := ⟨a, b, xs, ys, rfl, h, h2, k⟩
theorem g_iEnumv {R : It → Hp → Prop} (h : SqL K H a xs) (k : R (Ite K a) H) : iEK K R [.ref a] H := ⟨a, xs, rfl, h, k⟩
theorem forB_rng {lo : Int} {n : Nat} (Pv : Nat → L2.St → Hp → Prop) (h0 : Pv 0 σ H) (hs : ∀ (i : Nat) σ' H', i < n → Pv i σ' H' → g (.int (lo + (i : Int))) σ' H' fun σ2 H2 => tb { D with nx := Pv (i + 1), ct := Pv (i + 1), bk := D.nx } σ2 H2) (hd : ∀ σ' H', Pv n σ' H' → D.nx σ' H') : forB g tb D σ (Itr lo n) H :=
  for_it walk_range Pv h0 (fun _ _ _ _ _ => trivial) (fun i x σ' H1 H' hi p y => by obtain ⟨rfl, rfl⟩ := y; exact hs i σ' _ hi p) hd
theorem forB_rng0 {n : Int} (Pv : Nat → L2.St → Hp → Prop) (h0 : Pv 0 σ H) (hs : ∀ (i : Nat) σ' H', (i : Int) < n → Pv i σ' H' → g (.int (i : Int)) σ' H' fun σ2 H2 => tb { D with nx := Pv (i + 1), ct := Pv (i + 1), bk := D.nx } σ2 H2) (hd : ∀ σ' H', Pv n.toNat σ' H' → D.nx σ' H') : forB g tb D σ (Itr 0 n.toNat) H :=
  forB_rng Pv h0 (fun i σ' H' hi p => by rw [Int.zero_add]; exact hs i σ' H' (by omega) p) hd
theorem forB_list (xs : List V) (Pv : Nat → L2.St → Hp → Prop) (h0 : Pv 0 σ H) (hl : ∀ i σ' H', i ≤ xs.length → Pv i σ' H' → SqL K H' a xs) (hs : ∀ i x σ' H', xs[i]? = some x → Pv i σ' H' → g x σ' H' fun σ2 H2 => tb { D with nx := Pv (i + 1), ct := Pv (i + 1), bk := D.nx } σ2 H2) (hd : ∀ σ' H', Pv xs.length σ' H' → D.nx σ' H') : forB g tb D σ (Itl K a) H :=
  for_it walk_list Pv h0 hl (fun i x σ' H1 H' hi p y => by obtain ⟨rfl, e⟩ := y; exact hs i x σ' _ e p) hd
theorem forB_tup (xs : List V) (Pv : Nat → L2.St → Hp → Prop) (h0 : Pv 0 σ H) (hl : ∀ i σ' H', i ≤ xs.length → Pv i σ' H' → SqT K H' a xs) (hs : ∀ i x σ' H', xs[i]? = some x → Pv i σ' H' → g x σ' H' fun σ2 H2 => tb { D with nx := Pv (i + 1), ct := Pv (i + 1), bk := D.nx } σ2 H2) (hd : ∀ σ' H', Pv xs.length σ' H' → D.nx σ' H') : forB g tb D σ (Itt K a) H :=
  for_it walk_tup Pv h0 hl (fun i x σ' H1 H' hi p y => by obtain ⟨rfl, e⟩ := y; exact hs i x σ' _ e p) hd
theorem forB_str {z : Str} (Pv : Nat → L2.St → Hp → Prop) (h0 : Pv 0 σ H) (hs : ∀ i c σ' H', z.cps[i]? = some c → Pv i σ' H' → g (.str ⟨#[c]⟩) σ' H' fun σ2 H2 => tb { D with nx := Pv (i + 1), ct := Pv (i + 1), bk := D.nx } σ2 H2) (hd : ∀ σ' H', Pv z.cps.size σ' H' → D.nx σ' H') : forB g tb D σ (Its z) H :=
  for_it walk_str Pv h0 (fun _ _ _ _ _ => trivial) (fun i x σ' H1 H' hi p y => by obtain ⟨rfl, c, e, rfl⟩ := y; exact hs i c σ' _ e p) hd
/-- a comprehension, whatever it walks -/
def lcB (g : TG) (tt : TT) (te : TE) (vs : List Nat) (σ : L2.St) (Q : VK) (J : It) (H1 : Hp) : Prop := ∀ D, H1 D = none → ∃ W : Nat → Nat → Hp → Prop, (∃ m, W 0 m (upd H1 D (.lst []))) ∧ ∀ i m H, W i m H →
  (J.stop i H ∧ Q (.ref D) H) ∨ (J.go i H ∧ ∃ Nx : Hp → Prop, (∀ H', Nx H' → ∃ m', m' < m ∧ W (i + 1) m' H') ∧ ∀ x H', J.yld i H x H' → g x (wipe σ vs) H' fun σ2 H2 => wipe σ2 vs = wipe σ vs ∧ tt σ2 H2 fun b H3 =>
    if b = true then te σ2 H3 fun y H4 => ∃ acc, H4 D = some (.lst acc) ∧ acc.length < sizeLine ∧ Nx (upd H4 D (.lst (acc ++ [y]))) else Nx H3)
theorem g_lc {wi : TI} {tt : TT} {vs : List Nat} (k : wi σ H (lcB g tt te vs σ Q)) : tLc wi g tt te vs σ H Q := k
/-- the turn's end of a comprehension -/
def lcPut (D : Addr) (P : Hp → Prop) (y : V) (H4 : Hp) : Prop := ∃ acc, H4 D = some (.lst acc) ∧ acc.length < sizeLine ∧ P (upd H4 D (.lst (acc ++ [y])))
def lcT (D : Addr) (tt : TT) (te : TE) (vs : List Nat) (σ : L2.St) (P : Hp → Prop) (σ2 : L2.St) (H2 : Hp) : Prop := wipe σ2 vs = wipe σ vs ∧ tt σ2 H2 fun b H3 =>
    if b = true then te σ2 H3 (lcPut D P) else P H3
theorem lcB_rng {lo : Int} {n : Nat} {tt : TT} {vs : List Nat} (Pv : Addr → Nat → Hp → Prop) (h0 : ∀ D, H D = none → Pv D 0 (upd H D (.lst []))) (hs : ∀ D (i : Nat) H', i < n → Pv D i H' → g (.int (lo + (i : Int))) (wipe σ vs) H' (lcT D tt te vs σ (Pv D (i + 1)))) (hd : ∀ D H', H D = none → Pv D n H' → Q (.ref D) H') : lcB g tt te vs σ Q (Itr lo n) H :=
  fun D hD => lc_it walk_range (Pv D) (h0 D hD) (fun _ _ _ _ => trivial) (fun i x H1 H' hi p y => by obtain ⟨rfl, rfl⟩ := y; exact hs D i _ hi p) (fun H' p => hd D H' hD p)
theorem lcB_rng0 {n : Int} {tt : TT} {vs : List Nat} (Pv : Addr → Nat → Hp → Prop) (h0 : ∀ D, H D = none → Pv D 0 (upd H D (.lst []))) (hs : ∀ D (i : Nat) H', (i : Int) < n → Pv D i H' → g (.int (i : Int)) (wipe σ vs) H' (lcT D tt te vs σ (Pv D (i + 1)))) (hd : ∀ D H', H D = none → Pv D n.toNat H' → Q (.ref D) H') : lcB g tt te vs σ Q (Itr 0 n.toNat) H :=
  lcB_rng Pv h0 (fun D i H' hi p => by rw [Int.zero_add]; exact hs D i H' (by omega) p) hd
theorem lcB_list (xs : List V) {tt : TT} {vs : List Nat} (Pv : Addr → Nat → Hp → Prop) (h0 : ∀ D, H D = none → Pv D 0 (upd H D (.lst []))) (hl : ∀ D i H', i ≤ xs.length → Pv D i H' → SqL K H' a xs) (hs : ∀ D (i : Nat) x H', xs[i]? = some x → Pv D i H' → g x (wipe σ vs) H' (lcT D tt te vs σ (Pv D (i + 1)))) (hd : ∀ D H', H D = none → Pv D xs.length H' → Q (.ref D) H') : lcB g tt te vs σ Q (Itl K a) H :=
  fun D hD => lc_it walk_list (Pv D) (h0 D hD) (hl D) (fun i x H1 H' hi p y => by obtain ⟨rfl, e⟩ := y; exact hs D i x _ e p) (fun H' p => hd D H' hD p)
theorem lcB_tup (xs : List V) {tt : TT} {vs : List Nat} (Pv : Addr → Nat → Hp → Prop) (h0 : ∀ D, H D = none → Pv D 0 (upd H D (.lst []))) (hl : ∀ D i H', i ≤ xs.length → Pv D i H' → SqT K H' a xs) (hs : ∀ D (i : Nat) x H', xs[i]? = some x → Pv D i H' → g x (wipe σ vs) H' (lcT D tt te vs σ (Pv D (i + 1)))) (hd : ∀ D H', H D = none → Pv D xs.length H' → Q (.ref D) H') : lcB g tt te vs σ Q (Itt K a) H :=
  fun D hD => lc_it walk_tup (Pv D) (h0 D hD) (hl D) (fun i x H1 H' hi p y => by obtain ⟨rfl, e⟩ := y; exact hs D i x _ e p) (fun H' p => hd D H' hD p)
theorem forB_zip {b : Addr} (xs ys : List V) (hl : xs.length ≤ ys.length) (Pv : Nat → L2.St → Hp → Prop) (h0 : Pv 0 σ H) (hL : ∀ i σ' H', Pv i σ' H' → SqL K H' a xs ∧ SqL K H' b ys)
    (hs : ∀ i x y T σ' H', xs[i]? = some x → ys[i]? = some y → H' T = none → Pv i σ' H' → g (.ref T) σ' (upd H' T (.tup [x, y])) fun σ2 H2 => tb { D with nx := Pv (i + 1), ct := Pv (i + 1), bk := D.nx } σ2 H2) (hd : ∀ σ' H', Pv xs.length σ' H' → D.nx σ' H') : forB g tb D σ (Itz K a b) H :=
  for_it (walk_zip (xs := xs) (ys := ys) (n := xs.length) (by omega)) Pv h0 (fun i σ' H' _ p => hL i σ' H' p) (fun i v σ' H1 H' hi p y => by obtain ⟨T, x, z, rfl, hT, rfl, e1, e2⟩ := y; exact hs i x z T σ' H1 e1 e2 hT p) hd
theorem lcB_zip {b : Addr} (xs ys : List V) (hl : xs.length ≤ ys.length) {tt : TT} {vs : List Nat} (Pv : Addr → Nat → Hp → Prop) (h0 : ∀ D, H D = none → Pv D 0 (upd H D (.lst []))) (hL : ∀ D i H', Pv D i H' → SqL K H' a xs ∧ SqL K H' b ys)
    (hs : ∀ D (i : Nat) x y T H', xs[i]? = some x → ys[i]? = some y → H' T = none → Pv D i H' → g (.ref T) (wipe σ vs) (upd H' T (.tup [x, y])) (lcT D tt te vs σ (Pv D (i + 1)))) (hd : ∀ D H', H D = none → Pv D xs.length H' → Q (.ref D) H') : lcB g tt te vs σ Q (Itz K a b) H :=
  fun D hD => lc_it (walk_zip (xs := xs) (ys := ys) (n := xs.length) (by omega)) (Pv D) (h0 D hD) (fun i H' _ p => hL D i H' p) (fun i v H1 H' hi p y => by obtain ⟨T, x, z, rfl, hT, rfl, e1, e2⟩ := y; exact hs D i x z T H1 e1 e2 hT p) (fun H' p => hd D H' hD p)
theorem forB_enum (xs : List V) (Pv : Nat → L2.St → Hp → Prop) (h0 : Pv 0 σ H) (hL : ∀ i σ' H', Pv i σ' H' → SqL K H' a xs)
    (hs : ∀ (i : Nat) x T σ' H', xs[i]? = some x → H' T = none → Pv i σ' H' → g (.ref T) σ' (upd H' T (.tup [.int (i : Nat), x])) fun σ2 H2 => tb { D with nx := Pv (i + 1), ct := Pv (i + 1), bk := D.nx } σ2 H2) (hd : ∀ σ' H', Pv xs.length σ' H' → D.nx σ' H') : forB g tb D σ (Ite K a) H :=
  for_it walk_enum Pv h0 (fun i σ' H' _ p => hL i σ' H' p) (fun i v σ' H1 H' hi p y => by obtain ⟨T, x, z, rfl, hT, rfl, e1, e2⟩ := y; cases e1; exact hs i z T σ' H1 e2 hT p) hd
theorem g_lcT {Dl : Addr} {tt : TT} {vs : List Nat} {σ2 : L2.St} {P : Hp → Prop} (hw : wipe σ2 vs = wipe σ vs) (k : tt σ2 H fun b H3 => if b = true then te σ2 H3 (lcPut Dl P) else P H3) : lcT Dl tt te vs σ P σ2 H := ⟨hw, k⟩
theorem g_yes {Q : Bool → Hp → Prop} (k : Q true H) : tYes σ H Q := k
/-- the item goes onto the list at D, which is the first cell -/
theorem g_lcPut {Dl : Addr} {acc : List V} {P : Hp → Prop} (O : Own B cs H) (j : Nat) (h : cs[j]? = some (Dl, .lst acc)) (hz : acc.length < sizeLine) (k : ∀ H', Own B (cs.set j (Dl, .lst (acc ++ [v]))) H' → P H') : lcPut Dl P v H :=
  ⟨acc, O.get j h, hz, k _ (O.set j h)⟩
end
/-! ### texts as lists of codes -/
def S (l : List Nat) : Str := ⟨l.toArray⟩
theorem S_tl (l : List Nat) : (S l).cps.toList = l := by unfold S; simp
theorem S_len (l : List Nat) : (S l).length = l.length := by show (S l).cps.size = _; unfold S; simp
theorem S_app (a b : List Nat) : S a ++ S b = S (a ++ b) := by
  show Str.append (S a) (S b) = _
  unfold Str.append S
  simp
theorem S_of (z : Str) : S z.cps.toList = z := by cases z; unfold S; simp
theorem S_inj {a b : List Nat} (h : S a = S b) : a = b := by
  have := congrArg (fun z : Str => z.cps.toList) h
  simpa [S_tl] using this
theorem cutS_SS (l : List Nat) (a b : Nat) : cutS (S l) (some (a : Int)) (some (b : Int)) = S ((l.drop a).take (b - a)) := by
  unfold cutS
  rw [S_tl, S_len, HT.sIx_nat, HT.sIx_nat]
  show S _ = S _
  congr 1
  by_cases ha : a ≤ l.length
  · rw [Nat.min_eq_left ha]
    by_cases hb : b ≤ l.length
    · rw [Nat.min_eq_left hb]
    · rw [Nat.min_eq_right (by omega), List.take_of_length_le (by rw [List.length_drop]; omega), List.take_of_length_le (by rw [List.length_drop]; omega)]
  · rw [List.drop_of_length_le (by omega), List.drop_of_length_le (by omega)]
    simp
theorem cutS_take (l : List Nat) (b : Nat) : cutS (S l) none (some (b : Int)) = S (l.take b) := by
  have h := cutS_SS l 0 b
  rw [List.drop_zero, Nat.sub_zero] at h
  rw [← h]
  rfl
theorem cutS_drop (l : List Nat) (a : Nat) : cutS (S l) (some (a : Int)) none = S (l.drop a) := by
  unfold cutS
  rw [S_tl, S_len, HT.sIx_nat, HT.sIx_none]
  show S _ = S _
  congr 1
  by_cases ha : a ≤ l.length
  · rw [Nat.min_eq_left ha, List.take_of_length_le (by rw [List.length_drop]; omega)]
  · rw [List.drop_of_length_le (by omega), List.drop_of_length_le (by omega)]
    simp
section
variable {K : PySem.W.Frag} {H : Hp} {x : V} {Q : VK} {p : Addr} {xs : List V}
theorem g_addSS {a b : List Nat} (h : a.length + b.length ≤ 16777216) (k : Q (.str (S (a ++ b))) H) : rAddU K (.str (S a)) (.str (S b)) H Q :=
  g_addS (by rw [S_len, S_len]; exact small_le h) (by rw [S_app]; exact k)
theorem g_lenSS {a : List Nat} (h : a.length ≤ 16777216) (k : Q (.int (a.length : Nat)) H) : rLenU K [.str (S a)] H Q :=
  g_lenS (by rw [S_len]; exact small_le h) (by rw [S_len]; exact k)
theorem g_ixSS {a : List Nat} {i : Int} {c : Nat} (h : a.length ≤ 16777216) (h0 : 0 ≤ i) (hc : a[i.toNat]? = some c) (k : Q (.str (S [c])) H) : rIx K (.str (S a)) (.int i) H Q :=
  g_ixS (by rw [S_len]; exact small_le h) (by rw [S_tl]; exact atI_of h0 hc) k
theorem g_eqSS {a b : List Nat} (k : Q (.bl (decide (a = b))) H) : rEqU K (.str (S a)) (.str (S b)) H Q := g_eqS (by
  have e : decide (S a = S b) = decide (a = b) := by
    by_cases h : a = b
    · rw [h]; simp
    · rw [decide_eq_false h, decide_eq_false fun q => h (S_inj q)]
  rw [e]; exact k)
theorem g_inT (h : SqT K H p xs) (hx : flatV x = true) (hs : xs.all flatV = true) (k : Q (.bl (inV x xs)) H) : rInU K x (.ref p) H Q := .inl ⟨p, xs, rfl, .inr h, hx, hs, k⟩
theorem g_notInT (h : SqT K H p xs) (hx : flatV x = true) (hs : xs.all flatV = true) (k : Q (.bl (!inV x xs)) H) : rNotInU K x (.ref p) H Q := .inl ⟨p, xs, rfl, .inr h, hx, hs, k⟩
theorem g_inL (h : SqL K H p xs) (hx : flatV x = true) (hs : xs.all flatV = true) (k : Q (.bl (inV x xs)) H) : rInU K x (.ref p) H Q := .inl ⟨p, xs, rfl, .inl h, hx, hs, k⟩
theorem g_notInL (h : SqL K H p xs) (hx : flatV x = true) (hs : xs.all flatV = true) (k : Q (.bl (!inV x xs)) H) : rNotInU K x (.ref p) H Q := .inl ⟨p, xs, rfl, .inl h, hx, hs, k⟩
end
/-! ### join -/
def rJoin (K : PySem.W.Frag) : V → List V → Hp → VK → Prop := fun x xs H Q => ∃ a p, ∃ ys : List Str, x = .str a ∧ xs = [.ref p] ∧ (SqL K H p (ys.map V.str) ∨ SqT K H p (ys.map V.str)) ∧ (ys.map (·.length)).sum + ys.length * a.length ≤ 16777216 ∧ Q (.str (Txt.join a ys)) H
theorem pe_joinU {X : Cx} {o e : Expr} {to te : TE} {apos pos : Pos} (ho : PE X o to) (he : PE X e te) (hs : starEach [e] X.env = [(false, eval e X.env)] := by rfl) (hbase : attributeBase o "join" X.env (eval o X.env) = eval o X.env := by rfl) (hline : (apos.endLine == pos.line) = true := by rfl) :
    PE X (.Call (.Attribute o "join" apos) [e] [] pos) (tM1 (rJoin X.K) to te) := pe_join ho he hs hbase hline
def m1K (r : V → List V → Hp → VK → Prop) (te : TE) (σ : L2.St) (Q : VK) (x : V) (H1 : Hp) : Prop := (∃ a, x = .str a) ∧ te σ H1 fun y H2 => r x [y] H2 Q
section
variable {K : PySem.W.Frag} {H : Hp} {Q : VK} {p : Addr} {σ : L2.St} {to te : TE}
theorem g_M1 {r : V → List V → Hp → VK → Prop} (k : to σ H (m1K r te σ Q)) : tM1 r to te σ H Q := k
theorem g_m1K {r : V → List V → Hp → VK → Prop} {z : Str} (k : te σ H fun y H2 => r (.str z) [y] H2 Q) : m1K r te σ Q (.str z) H := ⟨⟨z, rfl⟩, k⟩
theorem g_joinL {a : Str} {ys : List Str} (h : SqL K H p (ys.map V.str)) (hz : (ys.map (·.length)).sum + ys.length * a.length ≤ 16777216) (k : Q (.str (Txt.join a ys)) H) : rJoin K (.str a) [.ref p] H Q := ⟨a, p, ys, rfl, rfl, .inl h, hz, k⟩
end
theorem join_SS : ∀ cs : List (List Nat), Txt.join (S []) (cs.map S) = S cs.flatten := by
  intro cs
  rw [TL.join_eq]
  induction cs with
  | nil => rfl
  | cons c r ih =>
    cases r with
    | nil =>
      show S c = S ([c].flatten)
      rw [List.flatten_cons, List.flatten_nil, List.append_nil]
    | cons c2 r =>
      show S c ++ S [] ++ Str.join (S []) ((c2 :: r).map S) = _
      rw [ih, S_app, S_app, List.append_nil]
      rfl
theorem sum_SS (cs : List (List Nat)) : ((cs.map S).map (·.length)).sum = cs.flatten.length := by
  induction cs with
  | nil => rfl
  | cons c r ih =>
    rw [List.map_cons, List.map_cons, List.sum_cons, ih, List.flatten_cons, List.length_append]
    show (S c).length + _ = _
    rw [S_len]

/-! ### objects -/
section
variable {K : PySem.W.Frag} {B : Hp} {cs : List (Addr × HO)} {σ : L2.St} {H : Hp} {a C dx : Addr} {fs : List (Str × V)} {f : Str} {v x : V} {Q : VK} {D : Ends} {ta tv : TE} {as : TA}
def sFldK (K : PySem.W.Frag) (y : V) (f : Str) (D : Ends) (σ : L2.St) (x : V) (H2 : Hp) : Prop := ∃ a C dx fs, x = .ref a ∧ H2 a = some (.ins C dx fs) ∧ Cls K C ∧ NoAttr K C f ∧ fs.length < 1000 ∧ D.nx σ (upd H2 a (.ins C dx (putF f y fs)))
theorem g_sFld (k : tv σ H fun y H1 => ta σ H1 (sFldK K y f D σ)) : sFld K ta tv f D σ H := k
theorem g_sFldK (O : Own B cs H) (j : Nat) (h : cs[j]? = some (a, .ins C dx fs)) (cl : Cls K C) (na : NoAttr K C f) (hl : fs.length < 1000) (k : ∀ H', Own B (cs.set j (a, .ins C dx (putF f v fs))) H' → D.nx σ H') : sFldK K v f D σ (.ref a) H :=
  ⟨a, C, dx, fs, rfl, O.get j h, cl, na, hl, k _ (O.set j h)⟩
def makeK (C : Addr) (sp : Sp) (dvs : List V) (E : XK) (Q : VK) (vs : List V) (H1 : Hp) : Prop := ∀ x dx, H1 x = none → H1 dx = none → dx ≠ x → sp (.ref x :: (vs ++ dvs)) (upd (upd H1 dx (.own x)) x (.ins C dx [])) (fun v H2 => v = .non ∧ Q (.ref x) H2) E
theorem g_make {sp : Sp} {dvs : List V} {E : XK} (k : as σ H (makeK C sp dvs E Q)) : tMake C sp dvs E as σ H Q := k
theorem g_makeK {sp : Sp} {dvs vs : List V} {E : XK} (O : Own B cs H) (k : ∀ x dx H', H x = none → Own B ((x, .ins C dx []) :: cs) H' → sp (.ref x :: (vs ++ dvs)) H' (fun v H2 => v = .non ∧ Q (.ref x) H2) E) : makeK C sp dvs E Q vs H := by
  intro x dx hx hdx hne
  have O1 : Own B ((dx, .own x) :: cs) (upd H dx (.own x)) := O.alloc hdx
  have hx1 : (upd H dx (.own x)) x = none := by rw [upd_ne hne.symm]; exact hx
  have O2 : Own B ((x, .ins C dx []) :: (dx, .own x) :: cs) (upd (upd H dx (.own x)) x (.ins C dx [])) := O1.alloc hx1
  exact k x dx _ hx (O2.sub ((List.sublist_cons_self _ _).cons_cons _))
theorem g_eqNon {n : Int} (k : Q (.bl false) H) : rEqU K .non (.int n) H Q := .inl ⟨rfl, k⟩
/-- a call that changes one cell, and makes tuples -/
theorem Own.mutT {H' : Hp} {o o' : HO} (O : Own B cs H) (j : Nat) (h : cs[j]? = some (a, o)) (e : ∀ b u, b ≠ a → H b = some u → H' b = some u) (ha : H' a = some o') (nt : ∀ c ∈ cs.set j (a, o'), ∀ xs, c.2 ≠ .tup xs) :
    ∃ B', Same B B' ∧ Own B' (cs.set j (a, o')) H' ∧ Tup H' B' := by
  have O' := O.mut j h e ha
  exact ⟨tupsOf H' B, tupsOf_same O'.fr, O'.tups nt, tupsOf_tup⟩
/-- a call that makes tuples -/
theorem Own.exT {H' : Hp} (O : Own B cs H) (e : Same H H') (nt : ∀ c ∈ cs, ∀ xs, c.2 ≠ .tup xs) : ∃ B', Same B B' ∧ Own B' cs H' ∧ Tup H' B' := by
  have O' := O.ex e
  exact ⟨tupsOf H' B, tupsOf_same O'.fr, O'.tups nt, tupsOf_tup⟩
end
theorem canLay_ints : ∀ ns : List Int, PyData.canLayAll0 (ns.map PyData.int) = true
  | [] => rfl
  | n :: ns => by
    show (PyData.canLay0 (.int n) && PyData.canLayAll0 (ns.map PyData.int)) = true
    rw [canLay_ints ns]
    rfl
theorem depth_ints : ∀ ns : List Int, PyData.depthAll (ns.map PyData.int) ≤ 1
  | [] => by simp [PyData.depthAll]
  | n :: ns => by
    have h := depth_ints ns
    simp only [List.map_cons, PyData.depthAll, PyData.depth]
    omega
theorem shaped_ints (ns : List Int) : SeqAt.shaped (.list (ns.map PyData.int)) = true := by
  have h := depth_ints ns
  have h2 := canLay_ints ns
  show (PyData.canLay0 (.list (ns.map PyData.int)) && decide (PyData.depth (.list (ns.map PyData.int)) ≤ 64)) = true
  rw [show PyData.canLay0 (.list (ns.map PyData.int)) = true from by simp only [PyData.canLay0]; exact h2, Bool.true_and]
  refine decide_eq_true ?_
  simp only [PyData.depth]
  omega
theorem lay_ints (ns : List Int) : PyData.canLay0 (.list (ns.map PyData.int)) = true := by simp only [PyData.canLay0]; exact canLay_ints ns
theorem eqv_ints (ns : List Int) : PyData.eqv (.list (ns.map PyData.int)) (.list (ns.map PyData.int)) = true := by
  rw [SeqAt.eqv_refl]
  exact lay_ints ns
theorem cut_take {xs : List V} {n : Int} (h : 0 ≤ n) : cutV xs none (some n) = xs.take n.toNat := by
  unfold cutV
  have e : ((n.toNat : Nat) : Int) = n := Int.toNat_of_nonneg h
  rw [← e, HT.sIx_nat, HT.sIx_none, List.drop_zero, Nat.sub_zero, Int.toNat_natCast]
  by_cases hl : n.toNat ≤ xs.length
  · rw [Nat.min_eq_left hl]
  · rw [Nat.min_eq_right (by omega), List.take_of_length_le (Nat.le_refl _), List.take_of_length_le (by omega)]
theorem cut_drop {xs : List V} {n : Int} (h : 0 ≤ n) : cutV xs (some n) none = xs.drop n.toNat := by
  unfold cutV
  have e : ((n.toNat : Nat) : Int) = n := Int.toNat_of_nonneg h
  rw [← e, HT.sIx_nat, HT.sIx_none, Int.toNat_natCast]
  by_cases hl : n.toNat ≤ xs.length
  · rw [Nat.min_eq_left hl, List.take_of_length_le (by rw [List.length_drop]; exact Nat.le_refl _)]
  · rw [Nat.min_eq_right (by omega), List.drop_length, List.drop_of_length_le (by omega)] <;> simp
/-! ### isinstance -/
def tyName : PyData → String
  | .none => "NoneType"
  | .bool _ => "bool"
  | .int _ => "int"
  | .str _ => "str"
  | .list _ => "list"
  | .tuple _ => "tuple"
  | .dict _ => "dict"
theorem tyx_dp {K : PySem.W.Frag} {H : Hp} {x : V} {d : PyData} (h : Dp K H x d) : TyX K H x (.type (tyName d)) := by
  cases h with
  | non => exact .base .non
  | bl b => exact .base (.bl b)
  | int i => exact .base (.int i)
  | str s => exact .base (.str s)
  | lst h _ =>
    rcases h with (h | ⟨o, h⟩) | ⟨o, its, n, h, hc, _⟩
    · exact .base (.lst h)
    · exact .base (.frz h)
    · exact .kList h hc
  | tup h _ =>
    rcases h with (h | ⟨o, h⟩) | ⟨o, its, n, h, hc, _⟩
    · exact .base (.tup h)
    · exact .fTuple h
    · exact .kTuple h hc
theorem g_isi {K : PySem.W.Frag} {H : Hp} {x : V} {d : PyData} {T : String} {Q : VK} {b : Bool} (h : Dp K H x d) (hb : kitB (tyName d) T = some b) (k : Q (.bl b) H) : rIsiU K [x, .ty T] H Q :=
  .inl ⟨x, .ty T, .type (tyName d), .type T, b, rfl, .ty T, tyx_dp h, kit_ty hb, k⟩
theorem g_isi2 {K : PySem.W.Frag} {H : Hp} {x : V} {d : PyData} {T U : String} {t : Addr} {Q : VK} {b c : Bool} (ht : H t = some (.tup [.ty T, .ty U])) (h : Dp K H x d) (hb : kitB (tyName d) T = some b) (hc : kitB (tyName d) U = some c) (k : Q (.bl (b || c)) H) : rIsiU K [x, .ref t] H Q := by
  refine .inr ⟨x, t, [.ty T, .ty U], .type (tyName d), [.type T, .type U], b || c, rfl, ht, .cons (.ty T) (.cons (.ty U) .nil), tyx_dp h, ?_, k⟩
  refine kitAny_cons (kit_ty hb) (fun e => ?_) (fun e => by rw [e] <;> rfl)
  refine kitAny_cons (kit_ty hc) (fun e2 => ?_) (fun e2 => by rw [e2, e] <;> rfl)
  rw [e, e2]
  exact kitAny_nil
/-- nothing is promised -/
theorem fn_none {P : Program} {w : World} {K : PySem.W.Frag} {mg : Str → Option Value} {base : Heap} {CX : CXT} {k : Nat} {f : Addr} {fd : FuncData} {ps : List Str} {sp : Sp} (h : ∀ vs H Q E, ¬ sp vs H Q E) : FnOk P w K mg base CX k f fd ps sp :=
  ⟨fun vs H Q E q => absurd q (h vs H Q E), fun _ _ _ H _ _ vs Q E _ _ _ _ q => absurd q (h vs H Q E)⟩
/-- not deeper than -/
inductive Dl : Nat → PyData → Prop
  | non {n : Nat} : Dl (n + 1) .none
  | bl {n : Nat} {b : Bool} : Dl (n + 1) (.bool b)
  | int {n : Nat} {i : Int} : Dl (n + 1) (.int i)
  | str {n : Nat} {s : Str} : Dl (n + 1) (.str s)
  | lst {n : Nat} {ds : List PyData} : ds.length ≤ 16777216 → (∀ d ∈ ds, Dl n d) → Dl (n + 1) (.list ds)
  | tup {n : Nat} {ds : List PyData} : ds.length ≤ 16777216 → (∀ d ∈ ds, Dl n d) → Dl (n + 1) (.tuple ds)
theorem dl_ints {n : Nat} (ns : List Int) (h : ns.length ≤ 16777216) : Dl (n + 2) (.list (ns.map PyData.int)) := .lst (by rw [List.length_map]; exact h) (fun d hd => by
  obtain ⟨i, _, rfl⟩ := List.mem_map.mp hd
  exact .int)
theorem iff_false_of {p : Prop} (h : ¬ p) : (false = true ↔ p) := ⟨(fun e => nomatch e), fun e => absurd e h⟩
theorem iff_true_of {p : Prop} (h : p) : (true = true ↔ p) := ⟨fun _ => h, fun _ => rfl⟩
/-- the two answers for the five kinds -/
def isK : PyData → String → Bool
  | .bool _, "int" => true
  | d, T => tyName d == T
end Zl

/-! Ze: calls of methods that may raise; an own error is of its own class -/
namespace Zl
open PySem PySem.Spec PyProof.Rows L2
def tMethX (C : Addr) (m : Str) (sp : Sp) (E : L2.St → XK) (ta : TE) (t : TA) : TE := fun σ H Q => ta σ H fun x H1 => ∃ a dx fs, x = .ref a ∧ H1 a = some (.ins C dx fs) ∧ fs.lookup m = none ∧ t σ H1 fun vs H2 => sp (x :: vs) H2 Q (E σ)
section
variable {X : Cx} {CX : CXT} {k : Nat} {f C : Addr} {fd : FuncData} {ps : List Str} {sp : Sp} {E : L2.St → XK} {x m : Str} {p pos apos : Pos} {e o : Expr} {es : List Expr} {ta : TE} {t : TA}
/-- o.m(e, ..), m may raise -/
theorem pe_methX {pl : Sem Bool} (he : PE X o ta) (c : Cls X.K C) (hm : Meth X.K C m f) (F : FnOk X.prog X.w X.K X.mg X.base CX k f fd ps sp) (hr : Room k X.A) (hb : Binds X.K fd ps []) (hx : ∀ σ, PassesAt CX X σ (E σ)) (ha : PA X (e :: es) t)
    (hst : starEach (e :: es) X.env = (false, eval e X.env) :: starEach es X.env := by rfl) (hpl : (backTo pos (starEach es X.env)).any (·.1) = false := by rfl)
    (ht : eval (.Call (.Attribute o m apos) (e :: es) [] pos) X.env = (do
      let ov ← eval o X.env
      standAt apos.atName
      let (f, first) ← holding [ov] (getMethod ov m pl)
      callWith pos f first (backTo pos (starEach (e :: es) X.env)) (backToKw pos (keywordEach [] X.env))) := by rfl) :
    PE X (.Call (.Attribute o m apos) (e :: es) [] pos) (tMethX C m sp E ta t) := by
  refine ⟨fun pins s σ H Q I h => ?_⟩
  refine PySem.W.methodCall_KW (pl := pl) (thn (he.run pins s σ H _ I h) fun u s1 ⟨x, H1, I1, rx, a, dx, fs, ex, ea, l, q⟩ => ?_) ht
  subst ex
  obtain rfl : u = Value.ref a := rx
  refine getmeth_ok I1 ea c hm l ?_
  refine PySem.W.callWith_K (first := [.ref a]) (h₀ := X.base) I.ok.mod.kin hm.kp (thn (ha.run pos pins s1 σ H1 _ I1 q) fun us s2 ⟨vs, H2, I2, r, q2⟩ => ⟨I2.kIn, ?_⟩) hst hpl
  exact run_fnS (us := .ref a :: us) (vs := .ref a :: vs) F hr hb (hx σ) I2 (.cons rfl r) q2
/-- o.m(), m may raise -/
theorem pe_methX0 {pl : Sem Bool} (he : PE X o ta) (c : Cls X.K C) (hm : Meth X.K C m f) (F : FnOk X.prog X.w X.K X.mg X.base CX k f fd ps sp) (hr : Room k X.A) (hb : Binds X.K fd ps []) (hx : ∀ σ, PassesAt CX X σ (E σ))
    (ht : eval (.Call (.Attribute o m apos) [] [] pos) X.env = (do
      let ov ← eval o X.env
      standAt apos.atName
      let (f, first) ← holding [ov] (getMethod ov m pl)
      callWith pos f first (backTo pos (starEach [] X.env)) (backToKw pos (keywordEach [] X.env))) := by rfl) :
    PE X (.Call (.Attribute o m apos) [] [] pos) (tMethX C m sp E ta tNil) := by
  refine ⟨fun pins s σ H Q I h => ?_⟩
  refine PySem.W.methodCall_KW (pl := pl) (thn (he.run pins s σ H _ I h) fun u s1 ⟨x, H1, I1, rx, a, dx, fs, ex, ea, l, q⟩ => ?_) ht
  subst ex
  obtain rfl : u = Value.ref a := rx
  refine getmeth_ok I1 ea c hm l ?_
  exact PySem.W.callWith_K0 (first := [.ref a]) I1.kIn hm.kp (run_fnS (us := [.ref a]) (vs := [.ref a]) F hr hb (hx σ) I1 (.cons rfl .nil) q)
end
/-- an error of the class at S is what «except S» names -/
theorem exm_self {K : PySem.W.Frag} {S : Addr} (h1 : PySem.W.subIn K (.ref S) (.type "BaseException") = some true) (h2 : PySem.W.isClsIn K S = true) (h3 : PySem.W.typeIn K (.ref S) = some (.type "type")) (h4 : PySem.W.subIn K (.ref S) (.ref S) = some true) :
    PySem.W.exmOne K (.ref S) (.ref S) = some true := by
  have e1 : (PySem.W.subIn K (.ref S) (.type "BaseException") == some true) = true := by rw [h1] <;> rfl
  have e2 : ((PySem.W.clsIn K S).isSome && PySem.W.typeIn K (.ref S) == some (.type "type")) = true := by
    have h2' : (PySem.W.clsIn K S).isSome = true := h2
    rw [h2', h3] <;> rfl
  show (if (PySem.W.subIn K (.ref S) (.type "BaseException") == some true) = true then (if ((PySem.W.clsIn K S).isSome && PySem.W.typeIn K (.ref S) == some (.type "type")) = true then PySem.W.subIn K (.ref S) (.ref S) else none) else none) = some true
  rw [if_pos e1, if_pos e2]
  exact h4
/-- what a text has of an own error class without __init__, over ValueError -/
structure Err (K : PySem.W.Frag) (mg : Str → Option Value) (x : Str) (C : Addr) : Prop where
  xP : PySem.W.excIn K C [.type "ValueError", .type "Exception", .type "BaseException", .type "object"] "ValueError.__new__" = true
  gP : mg x = some (.ref C)
  kP : PySem.W.keepIn K (.ref C) = true
  bP : PySem.W.subIn K (.ref C) (.type "BaseException") = some true
  tP : PySem.W.typeIn K (.ref C) = some (.type "type")
  eP : PySem.W.exmOne K (.ref C) (.ref C) = some true
def methXK (m : Str) (C : Addr) (sp : Sp) (E : L2.St → XK) (as : TA) (σ : L2.St) (Q : VK) (x : V) (H1 : Hp) : Prop := ∃ a dx fs, x = .ref a ∧ H1 a = some (.ins C dx fs) ∧ fs.lookup m = none ∧ as σ H1 fun vs H2 => sp (x :: vs) H2 Q (E σ)
section
variable {σ : L2.St} {H : Hp} {Q : VK} {ta te : TE} {as : TA} {m : Str} {C : Addr} {sp : Sp} {E : L2.St → XK}
theorem g_methX (k : ta σ H (methXK m C sp E as σ Q)) : tMethX C m sp E ta as σ H Q := k
theorem g_methXK {a dx : Addr} {fs : List (Str × V)} (h : H a = some (.ins C dx fs)) (l : fs.lookup m = none) (k : as σ H fun vs H2 => sp (.ref a :: vs) H2 Q (E σ)) : methXK m C sp E as σ Q (.ref a) H := ⟨a, dx, fs, rfl, h, l, k⟩
/-- raise -/
def tRaise (W : WX) (C : Addr) : TS := fun _ σ H => W (.ref C) none σ H
theorem ps_raiseE {X : Cx} {W : WX} {x t : Str} {C : Addr} {j : Nat} {p p2 pos pos2 : Pos} (hc : X.calm = true) (tk : Takes X W) (T : Err X.K X.mg x C) (hg : Gl X x) (hd : (x == ("__debug__" : Str)) = false := by decide) : PS X (.Raise (some (.Call (.Name x p) [.Constant (.str t) j p2] [] pos)) none pos2) (tRaise W C) :=
  ps_raise hc tk (pmk_own PySem.F.excBase_ValueError T.xP T.gP T.kP (raises_own T.bP T.tP) hg hd)
theorem g_raise {W : WX} {D : Ends} (k : W (.ref C) none σ H) : tRaise W C D σ H := k
end
/-! ### a while loop, by a word and a measure -/
def whB (Pv : Nat → L2.St → Hp → Prop) (n : Nat) (tb : TS) (D : Ends) (σ : L2.St) (H : Hp) : Prop := ∃ N : L2.St → Hp → Prop, (∀ σ' H', N σ' H' → ∃ m', m' < n ∧ Pv m' σ' H') ∧ tb { D with nx := N, ct := N, bk := D.nx } σ H
section
variable {c : TT} {tb : TS} {D : Ends} {σ : L2.St} {H : Hp}
theorem g_while (Pv : Nat → L2.St → Hp → Prop) (n : Nat) (h0 : Pv n σ H) (hs : ∀ n σ H, Pv n σ H → c σ H fun b H1 => if b = true then whB Pv n tb D σ H1 else D.nx σ H1) : tWhile c tb D σ H := ⟨Pv, ⟨n, h0⟩, hs⟩
theorem g_whB {Pv : Nat → L2.St → Hp → Prop} {n : Nat} (k : tb { D with nx := fun σ' H' => ∃ m, m < n ∧ Pv m σ' H', ct := fun σ' H' => ∃ m, m < n ∧ Pv m σ' H', bk := D.nx } σ H) : whB Pv n tb D σ H := ⟨_, fun _ _ h => h, k⟩
end
/-! ### o.f += e -/
def fldAugP (C : Addr) (f : Str) (D : Ends) (σ : L2.St) (a : Addr) (z : V) (H3 : Hp) : Prop := ∃ dx' fs', H3 a = some (.ins C dx' fs') ∧ fs'.length < 1000 ∧ D.nx σ (upd H3 a (.ins C dx' (putF f z fs')))
def fldAugK (K : PySem.W.Frag) (tv : TE) (rd : V → V → Hp → VK → Prop) (f : Str) (D : Ends) (σ : L2.St) (x : V) (H1 : Hp) : Prop := ∃ a C dx fs v, x = .ref a ∧ H1 a = some (.ins C dx fs) ∧ Cls K C ∧ NoAttr K C f ∧ fs.lookup f = some v ∧ tv σ H1 fun y H2 => rd v y H2 (fldAugP C f D σ a)
section
variable {K : PySem.W.Frag} {ta tv : TE} {rd : V → V → Hp → VK → Prop} {f : Str} {D : Ends} {σ : L2.St} {H B : Hp} {cs : List (Addr × HO)} {a C dx : Addr} {fs : List (Str × V)} {v z : V}
theorem g_sFldAug (k : ta σ H (fldAugK K tv rd f D σ)) : sFldAug K ta tv rd f D σ H := k
theorem g_fldAugK (h : H a = some (.ins C dx fs)) (cl : Cls K C) (na : NoAttr K C f) (l : fs.lookup f = some v) (k : tv σ H fun y H2 => rd v y H2 (fldAugP C f D σ a)) : fldAugK K tv rd f D σ (.ref a) H := ⟨a, C, dx, fs, v, rfl, h, cl, na, l, k⟩
theorem g_fldAugP (O : Own B cs H) (j : Nat) (h : cs[j]? = some (a, .ins C dx fs)) (hl : fs.length < 1000) (k : ∀ H', Own B (cs.set j (a, .ins C dx (putF f z fs))) H' → D.nx σ H') : fldAugP C f D σ a z H := ⟨dx, fs, O.get j h, hl, k _ (O.set j h)⟩
theorem g_rAdd {m n : Int} {Q : VK} (k : Q (.int (m + n)) H) : rAdd (.int m) (.int n) H Q := ⟨m, n, rfl, rfl, k⟩
end
/-! ### slices, comparisons -/
theorem cut_mid (xs : List V) (a b : Nat) : cutV xs (some (a : Int)) (some (b : Int)) = (xs.drop a).take (b - a) := by
  unfold cutV
  rw [HT.sIx_nat, HT.sIx_nat]
  by_cases ha : a ≤ xs.length
  · rw [Nat.min_eq_left ha]
    by_cases hb : b ≤ xs.length
    · rw [Nat.min_eq_left hb]
    · rw [Nat.min_eq_right (by omega), List.take_of_length_le (by rw [List.length_drop]; omega), List.take_of_length_le (by rw [List.length_drop]; omega)]
  · rw [List.drop_of_length_le (by omega), List.drop_of_length_le (by omega)]
    simp
theorem eqvAll_intsD : ∀ a b : List Int, PyData.eqvAll (a.map PyData.int) (b.map PyData.int) = decide (a = b)
  | [], [] => rfl
  | [], _ :: _ => rfl
  | _ :: _, [] => rfl
  | x :: a, y :: b => by
    show (PyData.eqv (.int x) (.int y) && PyData.eqvAll (a.map PyData.int) (b.map PyData.int)) = _
    rw [eqvAll_intsD a b]
    have e : PyData.eqv (.int x) (.int y) = decide (x = y) := by
      show (x == y) = _
      by_cases h : x = y
      · rw [h]; simp
      · rw [decide_eq_false h, beq_eq_false_iff_ne.mpr h]
    rw [e]
    by_cases h1 : x = y
    · by_cases h2 : a = b
      · rw [h1, h2]; simp
      · rw [decide_eq_false h2, decide_eq_false (fun q => h2 (List.cons.inj q).2)]; simp
    · rw [decide_eq_false h1, decide_eq_false (fun q => h1 (List.cons.inj q).1)]; rfl
theorem eqv_intsD (a b : List Int) : PyData.eqv (.list (a.map PyData.int)) (.list (b.map PyData.int)) = decide (a = b) := eqvAll_intsD a b
end Zl

open Zl in
local macro_rules | `(tactic| walk_at "zb") => `(tactic| (first | decide | omega | exact .inr ⟨by decide, by decide⟩ | exact .inl ⟨by decide, by decide⟩ | exact .inl ⟨by omega, by omega⟩ | exact .inr ⟨by omega, by omega⟩ | exact ⟨by omega, by omega⟩ | exact ⟨by decide, by decide, by decide⟩))
open Zl in
local macro_rules | `(tactic| walk_at "z1") => `(tactic| (first
  | with_reducible refine g_seq ?_ | with_reducible refine g_asg ?_ | with_reducible refine g_var rfl ?_ | with_reducible refine g_c ?_ | with_reducible refine g_name ?_
  | with_reducible refine g_op ?_ | with_reducible refine g_addI ?_ | with_reducible refine g_subI ?_ | with_reducible refine g_cons ?_ | with_reducible refine g_nil ?_
  | with_reducible refine g_cb ?_ | with_reducible refine g_call ?_ | with_reducible refine g_intI ?_ | with_reducible refine g_ret ?_ | with_reducible refine g_drop ?_ | with_reducible refine g_ifS ?_
  | with_reducible refine g_test ?_ | with_reducible refine g_B ?_ | with_reducible refine g_bl ?_ | with_reducible refine g_andK ?_ | with_reducible refine g_orK ?_ | with_reducible refine g_notK ?_ | with_reducible refine g_next ?_ | with_reducible refine g_ltI ?_ | with_reducible refine g_leI ?_
  | with_reducible refine g_gtI ?_ | with_reducible refine g_geI ?_ | with_reducible refine g_eqI ?_ | with_reducible refine g_neI ?_ | with_reducible refine g_isN ?_ | with_reducible refine g_notN ?_
  | with_reducible refine g_and ?_ | with_reducible refine g_or ?_ | with_reducible refine g_not ?_ | with_reducible refine g_andV ?_ | with_reducible refine g_orV ?_ | with_reducible refine g_notV ?_
  | with_reducible refine g_if ?_ | with_reducible refine g_min2 ?_ | with_reducible refine g_max2 ?_ | with_reducible refine g_un ?_ | with_reducible refine g_neg ?_
  | with_reducible refine g_tup ?_ | with_reducible refine g_lst ?_ | with_reducible refine g_sl ?_ | with_reducible refine g_nopart ?_ | with_reducible refine g_part ?_ | with_reducible refine g_int ?_
  | with_reducible refine g_bm ?_ | with_reducible refine g_bm0 ?_ | with_reducible refine g_fld ?_ | with_reducible refine g_sFld ?_ | with_reducible refine g_make ?_ | with_reducible refine g_eqNon ?_ | with_reducible refine g_meth ?_ | with_reducible refine g_brk ?_ | with_reducible refine g_cont ?_
  | with_reducible refine g_retN ?_ | with_reducible refine g_aug rfl ?_ | with_reducible refine g_augS ?_ | with_reducible refine g_gsub ?_ | with_reducible refine g_ipadd ?_ | with_reducible refine g_ipsub ?_
  | with_reducible refine g_gcons ?_ | with_reducible refine g_gnil ?_
  | with_reducible refine g_for ?_ | with_reducible refine g_rng1 ?_ | with_reducible refine g_rng2 ?_ | with_reducible refine g_rng3 ?_ | with_reducible refine g_iList ?_ | with_reducible refine g_iTup ?_ | with_reducible refine g_iStr ?_ | with_reducible refine g_iZip ?_ | with_reducible refine g_iEnum ?_
  | with_reducible refine g_lc ?_ | with_reducible refine g_M1 ?_ | with_reducible refine g_m1K ?_ | with_reducible refine g_lcT rfl ?_ | with_reducible refine g_yes ?_ | with_reducible refine g_iStrv ?_ | with_reducible refine g_tr ?_ | with_reducible refine g_trB ?_
  | ((with_reducible refine g_rng1v ?_ ?_); · walk_at "zb") | ((with_reducible refine g_rng2v ?_ ?_); · walk_at "zb")
  | ((with_reducible refine g_mulI ?_ ?_); · walk_at "zb") | ((with_reducible refine g_modI ?_ ?_); · walk_at "zb") | ((with_reducible refine g_divI ?_ ?_); · walk_at "zb") | ((with_reducible refine g_powI ?_ ?_); · walk_at "zb")))
local macro_rules | `(tactic| walk_at "z") => `(tactic| (repeat walk_at "z1"))
open Zl in
local macro_rules | `(tactic| walk_at "z1") => `(tactic| (first | with_reducible refine g_methX ?_ | with_reducible refine g_raise ?_ | with_reducible refine g_sFldAug ?_ | with_reducible refine g_rAdd ?_))

namespace K11
open PySem PySem.Spec PyProof.Rows L2 Zl

def topS (i : Nat) : Stmt := PySem.Challenge.pw_textwhole_k11_records.main.body.getD i (.Pass ⟨0, 0, 0, 0⟩)
abbrev s__wall : Stmt := (topS 0)
abbrev N__wall : List Str := ["k"]
abbrev P__wall : List Str := ["k"]
theorem sc__wall : FnScope N__wall P__wall (defScope s__wall) := ⟨rfl, rfl, rfl, by decide +kernel, rfl, by decide +kernel, by decide +kernel⟩
abbrev s_Reader___init__ : Stmt := (inClass (topS 6) 0)
abbrev N_Reader___init__ : List Str := ["self", "data"]
abbrev P_Reader___init__ : List Str := ["self", "data"]
theorem sc_Reader___init__ : FnScope N_Reader___init__ P_Reader___init__ (defScope s_Reader___init__) := ⟨rfl, rfl, rfl, by decide +kernel, rfl, by decide +kernel, by decide +kernel⟩
abbrev s_Reader_read_byte : Stmt := (inClass (topS 6) 1)
abbrev N_Reader_read_byte : List Str := ["self"]
abbrev P_Reader_read_byte : List Str := ["self"]
theorem sc_Reader_read_byte : FnScope N_Reader_read_byte P_Reader_read_byte (defScope s_Reader_read_byte) := ⟨rfl, rfl, rfl, by decide +kernel, rfl, by decide +kernel, by decide +kernel⟩
abbrev s_Reader_read_choice : Stmt := (inClass (topS 6) 2)
abbrev N_Reader_read_choice : List Str := ["self", "count"]
abbrev P_Reader_read_choice : List Str := ["self", "count"]
theorem sc_Reader_read_choice : FnScope N_Reader_read_choice P_Reader_read_choice (defScope s_Reader_read_choice) := ⟨rfl, rfl, rfl, by decide +kernel, rfl, by decide +kernel, by decide +kernel⟩
abbrev s_Reader_end : Stmt := (inClass (topS 6) 3)
abbrev N_Reader_end : List Str := ["self"]
abbrev P_Reader_end : List Str := ["self"]
theorem sc_Reader_end : FnScope N_Reader_end P_Reader_end (defScope s_Reader_end) := ⟨rfl, rfl, rfl, by decide +kernel, rfl, by decide +kernel, by decide +kernel⟩
abbrev s_Reader_read_number : Stmt := (inClass (topS 6) 4)
abbrev N_Reader_read_number : List Str := ["self", "total", "factor", "index", "byte"]
abbrev P_Reader_read_number : List Str := ["self"]
theorem sc_Reader_read_number : FnScope N_Reader_read_number P_Reader_read_number (defScope s_Reader_read_number) := ⟨rfl, rfl, rfl, by decide +kernel, rfl, by decide +kernel, by decide +kernel⟩
abbrev s_Reader_read_count : Stmt := (inClass (topS 6) 5)
abbrev N_Reader_read_count : List Str := ["self"]
abbrev P_Reader_read_count : List Str := ["self"]
theorem sc_Reader_read_count : FnScope N_Reader_read_count P_Reader_read_count (defScope s_Reader_read_count) := ⟨rfl, rfl, rfl, by decide +kernel, rfl, by decide +kernel, by decide +kernel⟩
abbrev s_Reader_read_character : Stmt := (inClass (topS 6) 6)
abbrev N_Reader_read_character : List Str := ["self"]
abbrev P_Reader_read_character : List Str := ["self"]
theorem sc_Reader_read_character : FnScope N_Reader_read_character P_Reader_read_character (defScope s_Reader_read_character) := ⟨rfl, rfl, rfl, by decide +kernel, rfl, by decide +kernel, by decide +kernel⟩
abbrev s_Reader_read_string : Stmt := (inClass (topS 6) 7)
abbrev N_Reader_read_string : List Str := ["self"]
abbrev P_Reader_read_string : List Str := ["self"]
theorem sc_Reader_read_string : FnScope N_Reader_read_string P_Reader_read_string (defScope s_Reader_read_string) := ⟨rfl, rfl, rfl, by decide +kernel, rfl, by decide +kernel, by decide +kernel⟩
abbrev s_Reader_read_mark : Stmt := (inClass (topS 6) 8)
abbrev N_Reader_read_mark : List Str := ["self"]
abbrev P_Reader_read_mark : List Str := ["self"]
theorem sc_Reader_read_mark : FnScope N_Reader_read_mark P_Reader_read_mark (defScope s_Reader_read_mark) := ⟨rfl, rfl, rfl, by decide +kernel, rfl, by decide +kernel, by decide +kernel⟩
abbrev s_Reader_read_deed : Stmt := (inClass (topS 6) 9)
abbrev N_Reader_read_deed : List Str := ["self"]
abbrev P_Reader_read_deed : List Str := ["self"]
theorem sc_Reader_read_deed : FnScope N_Reader_read_deed P_Reader_read_deed (defScope s_Reader_read_deed) := ⟨rfl, rfl, rfl, by decide +kernel, rfl, by decide +kernel, by decide +kernel⟩
abbrev s_Reader_read_deeds : Stmt := (inClass (topS 6) 10)
abbrev N_Reader_read_deeds : List Str := ["self"]
abbrev P_Reader_read_deeds : List Str := ["self"]
theorem sc_Reader_read_deeds : FnScope N_Reader_read_deeds P_Reader_read_deeds (defScope s_Reader_read_deeds) := ⟨rfl, rfl, rfl, by decide +kernel, rfl, by decide +kernel, by decide +kernel⟩
abbrev s_Reader_read_triple : Stmt := (inClass (topS 6) 11)
abbrev N_Reader_read_triple : List Str := ["self"]
abbrev P_Reader_read_triple : List Str := ["self"]
theorem sc_Reader_read_triple : FnScope N_Reader_read_triple P_Reader_read_triple (defScope s_Reader_read_triple) := ⟨rfl, rfl, rfl, by decide +kernel, rfl, by decide +kernel, by decide +kernel⟩
abbrev s_Reader_read_triples : Stmt := (inClass (topS 6) 12)
abbrev N_Reader_read_triples : List Str := ["self"]
abbrev P_Reader_read_triples : List Str := ["self"]
theorem sc_Reader_read_triples : FnScope N_Reader_read_triples P_Reader_read_triples (defScope s_Reader_read_triples) := ⟨rfl, rfl, rfl, by decide +kernel, rfl, by decide +kernel, by decide +kernel⟩
abbrev s_Reader_read_packet : Stmt := (inClass (topS 6) 13)
abbrev N_Reader_read_packet : List Str := ["self"]
abbrev P_Reader_read_packet : List Str := ["self"]
theorem sc_Reader_read_packet : FnScope N_Reader_read_packet P_Reader_read_packet (defScope s_Reader_read_packet) := ⟨rfl, rfl, rfl, by decide +kernel, rfl, by decide +kernel, by decide +kernel⟩
abbrev s_write_number : Stmt := (topS 8)
abbrev N_write_number : List Str := ["number", "data"]
abbrev P_write_number : List Str := ["number"]
theorem sc_write_number : FnScope N_write_number P_write_number (defScope s_write_number) := ⟨rfl, rfl, rfl, by decide +kernel, rfl, by decide +kernel, by decide +kernel⟩
abbrev s_checksum : Stmt := (topS 11)
abbrev N_checksum : List Str := ["data", "total", "byte"]
abbrev P_checksum : List Str := ["data"]
theorem sc_checksum : FnScope N_checksum P_checksum (defScope s_checksum) := ⟨rfl, rfl, rfl, by decide +kernel, rfl, by decide +kernel, by decide +kernel⟩
abbrev s_write_record : Stmt := (topS 12)
abbrev N_write_record : List Str := ["data", "total", "tail"]
abbrev P_write_record : List Str := ["data"]
theorem sc_write_record : FnScope N_write_record P_write_record (defScope s_write_record) := ⟨rfl, rfl, rfl, by decide +kernel, rfl, by decide +kernel, by decide +kernel⟩
abbrev s__read_size : Stmt := (topS 13)
abbrev N__read_size : List Str := ["data", "start", "reader", "size"]
abbrev P__read_size : List Str := ["data", "start"]
theorem sc__read_size : FnScope N__read_size P__read_size (defScope s__read_size) := ⟨rfl, rfl, rfl, by decide +kernel, rfl, by decide +kernel, by decide +kernel⟩
abbrev s_read_records : Stmt := (topS 14)
abbrev N_read_records : List Str := ["data", "records", "start", "found", "begin", "size", "record", "end"]
abbrev P_read_records : List Str := ["data"]
theorem sc_read_records : FnScope N_read_records P_read_records (defScope s_read_records) := ⟨rfl, rfl, rfl, by decide +kernel, rfl, by decide +kernel, by decide +kernel⟩
abbrev s__law_mix : Stmt := (topS 16)
abbrev N__law_mix : List Str := ["cell", "k", "value"]
abbrev P__law_mix : List Str := ["cell", "k"]
theorem sc__law_mix : FnScope N__law_mix P__law_mix (defScope s__law_mix) := ⟨rfl, rfl, rfl, by decide +kernel, rfl, by decide +kernel, by decide +kernel⟩
abbrev s__law_draws : Stmt := (topS 17)
abbrev N__law_draws : List Str := ["script", "draws", "k", "cell", "place"]
abbrev P__law_draws : List Str := ["script"]
theorem sc__law_draws : FnScope N__law_draws P__law_draws (defScope s__law_draws) := ⟨rfl, rfl, rfl, by decide +kernel, rfl, by decide +kernel, by decide +kernel⟩
abbrev s__law_at : Stmt := (topS 18)
abbrev N__law_at : List Str := ["draws", "index"]
abbrev P__law_at : List Str := ["draws", "index"]
theorem sc__law_at : FnScope N__law_at P__law_at (defScope s__law_at) := ⟨rfl, rfl, rfl, by decide +kernel, rfl, by decide +kernel, by decide +kernel⟩
abbrev s__law_is_integer : Stmt := (topS 19)
abbrev N__law_is_integer : List Str := ["actual"]
abbrev P__law_is_integer : List Str := ["actual"]
theorem sc__law_is_integer : FnScope N__law_is_integer P__law_is_integer (defScope s__law_is_integer) := ⟨rfl, rfl, rfl, by decide +kernel, rfl, by decide +kernel, by decide +kernel⟩
abbrev s__law_same : Stmt := (topS 20)
abbrev N__law_same : List Str := ["actual", "expected", "k"]
abbrev P__law_same : List Str := ["actual", "expected"]
theorem sc__law_same : FnScope N__law_same P__law_same (defScope s__law_same) := ⟨rfl, rfl, rfl, by decide +kernel, rfl, by decide +kernel, by decide +kernel⟩
abbrev s__law_next : Stmt := (topS 21)
abbrev N__law_next : List Str := ["state", "limit"]
abbrev P__law_next : List Str := ["state", "limit"]
theorem sc__law_next : FnScope N__law_next P__law_next (defScope s__law_next) := ⟨rfl, rfl, rfl, by decide +kernel, rfl, by decide +kernel, by decide +kernel⟩
abbrev s__law_number : Stmt := (topS 22)
abbrev N__law_number : List Str := ["number", "data"]
abbrev P__law_number : List Str := ["number"]
theorem sc__law_number : FnScope N__law_number P__law_number (defScope s__law_number) := ⟨rfl, rfl, rfl, by decide +kernel, rfl, by decide +kernel, by decide +kernel⟩
abbrev s__law_checksum : Stmt := (topS 23)
abbrev N__law_checksum : List Str := ["data", "total", "byte"]
abbrev P__law_checksum : List Str := ["data"]
theorem sc__law_checksum : FnScope N__law_checksum P__law_checksum (defScope s__law_checksum) := ⟨rfl, rfl, rfl, by decide +kernel, rfl, by decide +kernel, by decide +kernel⟩
abbrev s__law_record : Stmt := (topS 24)
abbrev N__law_record : List Str := ["data", "total"]
abbrev P__law_record : List Str := ["data"]
theorem sc__law_record : FnScope N__law_record P__law_record (defScope s__law_record) := ⟨rfl, rfl, rfl, by decide +kernel, rfl, by decide +kernel, by decide +kernel⟩
abbrev s__law_bytes : Stmt := (topS 25)
abbrev N__law_bytes : List Str := ["state", "count", "pick", "start", "k"]
abbrev P__law_bytes : List Str := ["state"]
theorem sc__law_bytes : FnScope N__law_bytes P__law_bytes (defScope s__law_bytes) := ⟨rfl, rfl, rfl, by decide +kernel, rfl, by decide +kernel, by decide +kernel⟩
abbrev s__law_behind : Stmt := (topS 26)
abbrev N__law_behind : List Str := ["state", "data", "record", "further", "pick", "at", "size", "needless"]
abbrev P__law_behind : List Str := ["state"]
theorem sc__law_behind : FnScope N__law_behind P__law_behind (defScope s__law_behind) := ⟨rfl, rfl, rfl, by decide +kernel, rfl, by decide +kernel, by decide +kernel⟩
abbrev s_law : Stmt := (topS 27)
abbrev N_law : List Str := ["script", "state", "k", "records", "data", "sizes", "record", "passed", "whole", "end", "count", "size"]
abbrev P_law : List Str := ["script"]
theorem sc_law : FnScope N_law P_law (defScope s_law) := ⟨rfl, rfl, rfl, by decide +kernel, rfl, by decide +kernel, by decide +kernel⟩
structure Txt (K : PySem.W.Frag) (mg : Str → Option Value) where
  a_DamagedPacket : Addr
  e_DamagedPacket : Err K mg "DamagedPacket" a_DamagedPacket
  a_Reader : Addr
  cl_Reader : Cls K a_Reader
  g_Reader : mg "Reader" = some (.ref a_Reader)
  n_Reader_data : NoAttr K a_Reader "data"
  n_Reader_at : NoAttr K a_Reader "at"
  a__wall : Addr
  d__wall : FuncData
  F__wall : Fun K "_wall" "_wall" s__wall a__wall d__wall
  b__wall : Binds K d__wall P__wall []
  g__wall : mg "_wall" = some (.ref a__wall)
  a_Reader___init__ : Addr
  d_Reader___init__ : FuncData
  F_Reader___init__ : Fun K "__init__" "Reader.__init__" s_Reader___init__ a_Reader___init__ d_Reader___init__
  b_Reader___init__ : Binds K d_Reader___init__ P_Reader___init__ []
  M_Reader : Mk K a_Reader a_Reader___init__
  a_Reader_read_byte : Addr
  d_Reader_read_byte : FuncData
  F_Reader_read_byte : Fun K "read_byte" "Reader.read_byte" s_Reader_read_byte a_Reader_read_byte d_Reader_read_byte
  b_Reader_read_byte : Binds K d_Reader_read_byte P_Reader_read_byte []
  m_Reader_read_byte : Meth K a_Reader "read_byte" a_Reader_read_byte
  a_Reader_read_choice : Addr
  d_Reader_read_choice : FuncData
  F_Reader_read_choice : Fun K "read_choice" "Reader.read_choice" s_Reader_read_choice a_Reader_read_choice d_Reader_read_choice
  b_Reader_read_choice : Binds K d_Reader_read_choice P_Reader_read_choice []
  m_Reader_read_choice : Meth K a_Reader "read_choice" a_Reader_read_choice
  a_Reader_end : Addr
  d_Reader_end : FuncData
  F_Reader_end : Fun K "end" "Reader.end" s_Reader_end a_Reader_end d_Reader_end
  b_Reader_end : Binds K d_Reader_end P_Reader_end []
  m_Reader_end : Meth K a_Reader "end" a_Reader_end
  a_Reader_read_number : Addr
  d_Reader_read_number : FuncData
  F_Reader_read_number : Fun K "read_number" "Reader.read_number" s_Reader_read_number a_Reader_read_number d_Reader_read_number
  b_Reader_read_number : Binds K d_Reader_read_number P_Reader_read_number []
  m_Reader_read_number : Meth K a_Reader "read_number" a_Reader_read_number
  a_Reader_read_count : Addr
  d_Reader_read_count : FuncData
  F_Reader_read_count : Fun K "read_count" "Reader.read_count" s_Reader_read_count a_Reader_read_count d_Reader_read_count
  b_Reader_read_count : Binds K d_Reader_read_count P_Reader_read_count []
  m_Reader_read_count : Meth K a_Reader "read_count" a_Reader_read_count
  a_Reader_read_character : Addr
  d_Reader_read_character : FuncData
  F_Reader_read_character : Fun K "read_character" "Reader.read_character" s_Reader_read_character a_Reader_read_character d_Reader_read_character
  b_Reader_read_character : Binds K d_Reader_read_character P_Reader_read_character []
  m_Reader_read_character : Meth K a_Reader "read_character" a_Reader_read_character
  a_Reader_read_string : Addr
  d_Reader_read_string : FuncData
  F_Reader_read_string : Fun K "read_string" "Reader.read_string" s_Reader_read_string a_Reader_read_string d_Reader_read_string
  b_Reader_read_string : Binds K d_Reader_read_string P_Reader_read_string []
  m_Reader_read_string : Meth K a_Reader "read_string" a_Reader_read_string
  a_Reader_read_mark : Addr
  d_Reader_read_mark : FuncData
  F_Reader_read_mark : Fun K "read_mark" "Reader.read_mark" s_Reader_read_mark a_Reader_read_mark d_Reader_read_mark
  b_Reader_read_mark : Binds K d_Reader_read_mark P_Reader_read_mark []
  m_Reader_read_mark : Meth K a_Reader "read_mark" a_Reader_read_mark
  a_Reader_read_deed : Addr
  d_Reader_read_deed : FuncData
  F_Reader_read_deed : Fun K "read_deed" "Reader.read_deed" s_Reader_read_deed a_Reader_read_deed d_Reader_read_deed
  b_Reader_read_deed : Binds K d_Reader_read_deed P_Reader_read_deed []
  m_Reader_read_deed : Meth K a_Reader "read_deed" a_Reader_read_deed
  a_Reader_read_deeds : Addr
  d_Reader_read_deeds : FuncData
  F_Reader_read_deeds : Fun K "read_deeds" "Reader.read_deeds" s_Reader_read_deeds a_Reader_read_deeds d_Reader_read_deeds
  b_Reader_read_deeds : Binds K d_Reader_read_deeds P_Reader_read_deeds []
  m_Reader_read_deeds : Meth K a_Reader "read_deeds" a_Reader_read_deeds
  a_Reader_read_triple : Addr
  d_Reader_read_triple : FuncData
  F_Reader_read_triple : Fun K "read_triple" "Reader.read_triple" s_Reader_read_triple a_Reader_read_triple d_Reader_read_triple
  b_Reader_read_triple : Binds K d_Reader_read_triple P_Reader_read_triple []
  m_Reader_read_triple : Meth K a_Reader "read_triple" a_Reader_read_triple
  a_Reader_read_triples : Addr
  d_Reader_read_triples : FuncData
  F_Reader_read_triples : Fun K "read_triples" "Reader.read_triples" s_Reader_read_triples a_Reader_read_triples d_Reader_read_triples
  b_Reader_read_triples : Binds K d_Reader_read_triples P_Reader_read_triples []
  m_Reader_read_triples : Meth K a_Reader "read_triples" a_Reader_read_triples
  a_Reader_read_packet : Addr
  d_Reader_read_packet : FuncData
  F_Reader_read_packet : Fun K "read_packet" "Reader.read_packet" s_Reader_read_packet a_Reader_read_packet d_Reader_read_packet
  b_Reader_read_packet : Binds K d_Reader_read_packet P_Reader_read_packet []
  m_Reader_read_packet : Meth K a_Reader "read_packet" a_Reader_read_packet
  a_write_number : Addr
  d_write_number : FuncData
  F_write_number : Fun K "write_number" "write_number" s_write_number a_write_number d_write_number
  b_write_number : Binds K d_write_number P_write_number []
  g_write_number : mg "write_number" = some (.ref a_write_number)
  a_checksum : Addr
  d_checksum : FuncData
  F_checksum : Fun K "checksum" "checksum" s_checksum a_checksum d_checksum
  b_checksum : Binds K d_checksum P_checksum []
  g_checksum : mg "checksum" = some (.ref a_checksum)
  a_write_record : Addr
  d_write_record : FuncData
  F_write_record : Fun K "write_record" "write_record" s_write_record a_write_record d_write_record
  b_write_record : Binds K d_write_record P_write_record []
  g_write_record : mg "write_record" = some (.ref a_write_record)
  a__read_size : Addr
  d__read_size : FuncData
  F__read_size : Fun K "_read_size" "_read_size" s__read_size a__read_size d__read_size
  b__read_size : Binds K d__read_size P__read_size []
  g__read_size : mg "_read_size" = some (.ref a__read_size)
  a_read_records : Addr
  d_read_records : FuncData
  F_read_records : Fun K "read_records" "read_records" s_read_records a_read_records d_read_records
  b_read_records : Binds K d_read_records P_read_records []
  g_read_records : mg "read_records" = some (.ref a_read_records)
  a__law_mix : Addr
  d__law_mix : FuncData
  F__law_mix : Fun K "_law_mix" "_law_mix" s__law_mix a__law_mix d__law_mix
  b__law_mix : Binds K d__law_mix P__law_mix []
  g__law_mix : mg "_law_mix" = some (.ref a__law_mix)
  a__law_draws : Addr
  d__law_draws : FuncData
  F__law_draws : Fun K "_law_draws" "_law_draws" s__law_draws a__law_draws d__law_draws
  b__law_draws : Binds K d__law_draws P__law_draws []
  g__law_draws : mg "_law_draws" = some (.ref a__law_draws)
  a__law_at : Addr
  d__law_at : FuncData
  F__law_at : Fun K "_law_at" "_law_at" s__law_at a__law_at d__law_at
  b__law_at : Binds K d__law_at P__law_at []
  g__law_at : mg "_law_at" = some (.ref a__law_at)
  a__law_is_integer : Addr
  d__law_is_integer : FuncData
  F__law_is_integer : Fun K "_law_is_integer" "_law_is_integer" s__law_is_integer a__law_is_integer d__law_is_integer
  b__law_is_integer : Binds K d__law_is_integer P__law_is_integer []
  g__law_is_integer : mg "_law_is_integer" = some (.ref a__law_is_integer)
  a__law_same : Addr
  d__law_same : FuncData
  F__law_same : Fun K "_law_same" "_law_same" s__law_same a__law_same d__law_same
  b__law_same : Binds K d__law_same P__law_same []
  g__law_same : mg "_law_same" = some (.ref a__law_same)
  a__law_next : Addr
  d__law_next : FuncData
  F__law_next : Fun K "_law_next" "_law_next" s__law_next a__law_next d__law_next
  b__law_next : Binds K d__law_next P__law_next []
  g__law_next : mg "_law_next" = some (.ref a__law_next)
  a__law_number : Addr
  d__law_number : FuncData
  F__law_number : Fun K "_law_number" "_law_number" s__law_number a__law_number d__law_number
  b__law_number : Binds K d__law_number P__law_number []
  g__law_number : mg "_law_number" = some (.ref a__law_number)
  a__law_checksum : Addr
  d__law_checksum : FuncData
  F__law_checksum : Fun K "_law_checksum" "_law_checksum" s__law_checksum a__law_checksum d__law_checksum
  b__law_checksum : Binds K d__law_checksum P__law_checksum []
  g__law_checksum : mg "_law_checksum" = some (.ref a__law_checksum)
  a__law_record : Addr
  d__law_record : FuncData
  F__law_record : Fun K "_law_record" "_law_record" s__law_record a__law_record d__law_record
  b__law_record : Binds K d__law_record P__law_record []
  g__law_record : mg "_law_record" = some (.ref a__law_record)
  a__law_bytes : Addr
  d__law_bytes : FuncData
  F__law_bytes : Fun K "_law_bytes" "_law_bytes" s__law_bytes a__law_bytes d__law_bytes
  b__law_bytes : Binds K d__law_bytes P__law_bytes []
  g__law_bytes : mg "_law_bytes" = some (.ref a__law_bytes)
  a__law_behind : Addr
  d__law_behind : FuncData
  F__law_behind : Fun K "_law_behind" "_law_behind" s__law_behind a__law_behind d__law_behind
  b__law_behind : Binds K d__law_behind P__law_behind []
  g__law_behind : mg "_law_behind" = some (.ref a__law_behind)
  a_law : Addr
  d_law : FuncData
  F_law : Fun K "law" "law" s_law a_law d_law
  b_law : Binds K d_law P_law []
  g_law : mg "law" = some (.ref a_law)
  z_len : mg "len" = none
  z_min : mg "min" = none
  z_int : mg "int" = none
  z_list : mg "list" = none
  z_range : mg "range" = none
  z_isinstance : mg "isinstance" = none
  z_bool : mg "bool" = none
  z_str : mg "str" = none
  z_tuple : mg "tuple" = none
  u_NUMBER_BYTES : Value
  c_NUMBER_BYTES : mg "NUMBER_BYTES" = some u_NUMBER_BYTES
  r_NUMBER_BYTES : RelV (.int 60) u_NUMBER_BYTES
  u_CHECKSUM_LIMIT : Value
  c_CHECKSUM_LIMIT : mg "CHECKSUM_LIMIT" = some u_CHECKSUM_LIMIT
  r_CHECKSUM_LIMIT : RelV (.int 4294967296) u_CHECKSUM_LIMIT

section
variable {P : Program} {w : World} {K : PySem.W.Frag} {mg : Str → Option Value} {base : Heap}

/-! ### draws -/

def sp__law_mix : Sp := fun vs H Q _ => ∃ c k : Int, vs = [.int c, .int k] ∧ ∀ n, 0 ≤ n → n < 9973 → Q (.int n) H

theorem ok__law_mix (T : Txt K mg) : FnOk P w K mg base CX0 1 T.a__law_mix T.d__law_mix P__law_mix sp__law_mix := by
  refine T.F__law_mix.ok sc__law_mix (fun vs H Q E h => ?_) (fun cdv A outer s H vs Q E hr h => ?_)
  · obtain ⟨c, k, rfl, _⟩ := h
    rfl
  · obtain ⟨c, k, rfl, q⟩ := h
    refine ⟨_, (pss_cons (ps_set (i := 2) sc__law_mix.nd rfl (Or.inl rfl) (pe_op op_mod (pe_callTy call_intU (by rfl) T.z_int (by decide +kernel) (pa_cons (pe_op op_addU (pe_op op_addU (pe_op op_mulU (pe_callTy call_intU (by rfl) T.z_int (by decide +kernel) (pa_cons (pv 0) pa_nil)) pe_int) (pe_op op_mulU (pv 1) pe_int)) pe_int) pa_nil)) pe_int))
        (pss_cons (ps_set (i := 2) sc__law_mix.nd rfl (Or.inl rfl) (pe_op op_mod (pe_callTy call_intU (by rfl) T.z_int (by decide +kernel) (pa_cons (pe_op op_addU (pe_op op_addU (pe_op op_mulU (pv 2) (pv 2)) (pe_op op_mulU (pv 1) pe_int)) pe_int) pa_nil)) pe_int))
        (pss_one (ps_ret (pe_op op_mod (pe_op op_fdiv (pv 2) pe_int) pe_int))))), ?_⟩
    walk_at "z"
    refine q _ ?_ ?_ <;> omega
def DrawsOk (ds : List Int) : Prop := (∀ d ∈ ds, 0 ≤ d ∧ d < 9973) ∧ ds.length ≤ 3780
def sp__law_draws (K : PySem.W.Frag) : Sp := fun vs H Q _ => ∃ (a : Addr) (ns : List Int), vs = [.ref a] ∧ SqL K H a (ns.map V.int) ∧ ∀ (p : Addr) (H' : Hp) (ds : List Int), Same H H' → H p = none → H' p = some (.lst (ds.map V.int)) → DrawsOk ds → Q (.ref p) H'

theorem ok__law_draws (T : Txt K mg) : FnOk P w K mg base CX0 2 T.a__law_draws T.d__law_draws P__law_draws (sp__law_draws K) := by
  refine T.F__law_draws.ok sc__law_draws (fun vs H Q E h => ?_) (fun cdv A outer s H vs Q E hr h => ?_)
  · obtain ⟨a, ns, rfl, _⟩ := h
    rfl
  · obtain ⟨a, ns, rfl, hS, q⟩ := h
    refine ⟨_, (pss_cons (ps_set (i := 1) sc__law_draws.nd rfl (Or.inl rfl) (pe_lst pa_nil))
        (pss_cons (ps_for PassesOwn.never rfl (pi_range1 (by rfl) T.z_range (pa_cons (pe_callB (call_min2U rfl) (by rfl) T.z_min (by decide +kernel) (pa_cons pe_int (pa_cons (pe_callB call_lenU (by rfl) T.z_len PySem.boot_len (pa_cons (pv 0) pa_nil)) pa_nil))) pa_nil)) (pg_name (i := 2) sc__law_draws.nd rfl (Or.inl rfl))
          (pss_cons (ps_set (i := 3) sc__law_draws.nd rfl (Or.inl rfl) (pe_callTy call_intU (by rfl) T.z_int (by decide +kernel) (pa_cons (pe_ix ix_seq (pv 0) (pv 2) (fun _ _ => rfl)) pa_nil)))
        (pss_one (ps_if (pt_cmpR op_lt (pv 3) (pe_op op_pow pe_int pe_int) (nomark _))
          (pss_one (ps_expr (pe_bm PySem.F.plainAttrs_list PySem.F.slot_list_append PySem.F.type_list_append mt_append (pv 1) (pa_cons (pe_call (ok__law_mix T) (hr.mono (by omega)) (by rfl) T.g__law_mix T.F__law_mix.kp T.b__law_mix .nil pass0 (pa_cons (pv 3) (pa_cons (pv 2) pa_nil))) pa_nil))))
          (pss_one (ps_for PassesOwn.never rfl (pi_range1 (by rfl) T.z_range (pa_cons pe_int pa_nil)) (pg_name (i := 4) sc__law_draws.nd rfl (Or.inl rfl))
          (pss_one (ps_if (pt_cmpR op_gt (pv 3) pe_int (nomark _))
          (pss_cons (ps_expr (pe_bm PySem.F.plainAttrs_list PySem.F.slot_list_append PySem.F.type_list_append mt_append (pv 1) (pa_cons (pe_op op_mod (pe_callTy call_intU (by rfl) T.z_int (by decide +kernel) (pa_cons (pv 3) pa_nil)) pe_int) pa_nil)))
        (pss_one (ps_set (i := 3) sc__law_draws.nd rfl (Or.inl rfl) (pe_op op_fdiv (pv 3) pe_int))))
          pss_nil))))))))
        (pss_one (ps_ret (pv 1))))), ?_⟩
    walk_at "z"
    refine g_new (Nat.zero_le _) (Own.start H) fun p H1 np O => ?_
    walk_at "z"
    refine g_lenL (O.fr.seq hS) ?_
    walk_at "z"
    have hlm : (List.map V.int ns).length = ns.length := List.length_map ..
    refine forB_rng0 (fun i σ H' => ∃ (ds : List Int) (x2 x3 x4 : Option V), σ = [some (.ref a), some (.ref p), x2, x3, x4] ∧ (∀ d ∈ ds, 0 ≤ d ∧ d < 9973) ∧ ds.length ≤ 60 * i ∧ Own H [(p, .lst (ds.map V.int))] H') ?_ ?_ ?_
    · exact ⟨[], none, none, none, rfl, by simp, by simp, O⟩
    · rintro i σ H2 hi ⟨ds, x2, x3, x4, rfl, hd, hl, O⟩
      walk_at "z"
      refine g_ixL (O.fr.seq hS) (atI_int (by omega) (by omega)) ?_
      walk_at "z"
      refine ite_d (fun hc => ?_) (fun hc => ?_)
      · walk_at "z"
        refine g_tyL (O.lst 0) ?_
        walk_at "z"
        refine ⟨_, _, rfl, fun n h0 h1 => ?_⟩
        walk_at "z"
        refine g_append O 0 rfl (small_of (by rw [List.length_map]; omega)) fun H3 O => ?_
        refine ⟨ds ++ [n], _, _, _, rfl, ?_, by rw [List.length_append]; show ds.length + 1 ≤ _; omega, by rw [List.map_append]; exact O⟩
        intro d hm
        rcases List.mem_append.mp hm with hm | hm
        · exact hd d hm
        · rw [List.mem_singleton.mp hm]; exact ⟨h0, h1⟩
      · walk_at "z"
        refine forB_rng0 (fun j σ H' => ∃ (ds : List Int) (c : Int) (x4 : Option V), σ = [some (.ref a), some (.ref p), some (.int (i : Int)), some (.int c), x4] ∧ (∀ d ∈ ds, 0 ≤ d ∧ d < 9973) ∧ ds.length ≤ 60 * i + j ∧ Own H [(p, .lst (ds.map V.int))] H') ?_ ?_ ?_
        · exact ⟨ds, _, x4, rfl, hd, hl, O⟩
        · rintro j σ H3 hj ⟨ds, c, x4, rfl, hd, hl, O⟩
          walk_at "z"
          refine ite_d (fun hc => ?_) (fun hc => ?_)
          · walk_at "z"
            refine g_tyL (O.lst 0) ?_
            walk_at "z"
            refine g_append O 0 rfl (small_of (by rw [List.length_map]; omega)) fun H3 O => ?_
            walk_at "z"
            refine ⟨ds ++ [_], _, _, rfl, ?_, by rw [List.length_append]; show ds.length + 1 ≤ _; omega, by rw [List.map_append]; exact O⟩
            intro d hm
            rcases List.mem_append.mp hm with hm | hm
            · exact hd d hm
            · rw [List.mem_singleton.mp hm]; exact ⟨by omega, by omega⟩
          · exact ⟨ds, c, _, rfl, hd, by omega, O⟩
        · rintro σ H3 ⟨ds, c, x4, rfl, hd, hl, O⟩
          exact ⟨ds, _, _, _, rfl, hd, by omega, O⟩
    · rintro σ H2 ⟨ds, x2, x3, x4, rfl, hd, hl, O⟩
      walk_at "z"
      exact q p H2 ds O.fr np (O.get 0) ⟨hd, by omega⟩
def sp__law_at (K : PySem.W.Frag) : Sp := fun vs H Q _ => ∃ (a : Addr) (ds : List Int) (i : Int), vs = [.ref a, .int i] ∧ SqL K H a (ds.map V.int) ∧ DrawsOk ds ∧ 0 ≤ i ∧ ∀ n, 0 ≤ n → n < 9973 → Q (.int n) H

theorem ok__law_at (T : Txt K mg) : FnOk P w K mg base CX0 2 T.a__law_at T.d__law_at P__law_at (sp__law_at K) := by
  refine T.F__law_at.ok sc__law_at (fun vs H Q E h => ?_) (fun cdv A outer s H vs Q E hr h => ?_)
  · obtain ⟨a, ds, i, rfl, _⟩ := h
    rfl
  · obtain ⟨a, ds, i, rfl, hS, hd, hi, q⟩ := h
    refine ⟨_, (pss_cons (ps_if (pt_cmpR op_lt (pv 1) (pe_callB call_lenU (by rfl) T.z_len PySem.boot_len (pa_cons (pv 0) pa_nil)) (nomark _))
          (pss_one (ps_ret (pe_ix ix_seq (pv 0) (pv 1) (fun _ _ => rfl))))
          pss_nil)
        (pss_cons (ps_if (pt_cmpR (op_eqU (hu64 hr)) (pe_callB call_lenU (by rfl) T.z_len PySem.boot_len (pa_cons (pv 0) pa_nil)) pe_int (nomark _))
          (pss_one (ps_ret (pe_call (ok__law_mix T) (hr.mono (by omega)) (by rfl) T.g__law_mix T.F__law_mix.kp T.b__law_mix .nil pass0 (pa_cons (pv 1) (pa_cons pe_int pa_nil)))))
          pss_nil)
        (pss_one (ps_ret (pe_call (ok__law_mix T) (hr.mono (by omega)) (by rfl) T.g__law_mix T.F__law_mix.kp T.b__law_mix .nil pass0 (pa_cons (pe_op op_addU (pe_ix ix_seq (pv 0) (pe_op op_mod (pe_callTy call_intU (by rfl) T.z_int (by decide +kernel) (pa_cons (pv 1) pa_nil)) (pe_callB call_lenU (by rfl) T.z_len PySem.boot_len (pa_cons (pv 0) pa_nil))) (fun _ _ => rfl)) (pe_op op_mulU (pv 1) pe_int)) (pa_cons (pv 1) pa_nil))))))), ?_⟩
    have hlm : (List.map V.int ds).length = ds.length := List.length_map ..
    have hb : ∀ j : Nat, 0 ≤ ds.getD j 0 ∧ ds.getD j 0 < 9973 := fun j => by
      rw [List.getD_eq_getElem?_getD]
      cases e : ds[j]? with
      | none => exact ⟨by decide, by decide⟩
      | some x => exact hd.1 x (List.mem_of_getElem? e)
    walk_at "z"
    refine g_lenL hS ?_
    walk_at "z"
    refine ite_d (fun hc => ?_) (fun hc => ?_)
    · walk_at "z"
      refine g_ixL hS (atI_int hi (by omega)) ?_
      exact q _ (hb _).1 (hb _).2
    · walk_at "z"
      refine g_lenL hS ?_
      walk_at "z"
      refine ite_d (fun hc2 => ?_) (fun hc2 => ?_)
      · walk_at "z"
        exact ⟨_, _, rfl, q⟩
      · walk_at "z"
        refine g_lenL hS ?_
        walk_at "z"
        have h1 : 0 ≤ i % (((List.map V.int ds).length : Nat) : Int) := Int.emod_nonneg _ (by omega)
        have h2 : i % (((List.map V.int ds).length : Nat) : Int) < (((List.map V.int ds).length : Nat) : Int) := Int.emod_lt_of_pos _ (by omega)
        refine g_ixL hS (atI_int h1 (by omega)) ?_
        walk_at "z"
        exact ⟨_, _, rfl, q⟩
def isInt : PyData → Bool
  | .int _ => true
  | _ => false
def sp__law_is_integer (K : PySem.W.Frag) : Sp := fun vs H Q _ => ∃ (x : V) (d : PyData), vs = [x] ∧ Dp K H x d ∧ Q (.bl (isInt d)) H

theorem ok__law_is_integer (T : Txt K mg) : FnOk P w K mg base CX0 1 T.a__law_is_integer T.d__law_is_integer P__law_is_integer (sp__law_is_integer K) := by
  refine T.F__law_is_integer.ok sc__law_is_integer (fun vs H Q E h => ?_) (fun cdv A outer s H vs Q E hr h => ?_)
  · obtain ⟨x, d, rfl, _⟩ := h
    rfl
  · obtain ⟨x, d, rfl, hx, q⟩ := h
    refine ⟨_, (pss_one (ps_ret (pe_and (pe_callB call_isiU (by rfl) T.z_isinstance (by decide +kernel) (pa_cons (pv 0) (pa_cons (pe_bltn (v := .ty "int") (by rfl) T.z_int (by decide +kernel) rfl) pa_nil))) (pe_one (pe_not (pe_callB call_isiU (by rfl) T.z_isinstance (by decide +kernel) (pa_cons (pv 0) (pa_cons (pe_bltn (v := .ty "bool") (by rfl) T.z_bool (by decide +kernel) rfl) pa_nil)))))))), ?_⟩
    walk_at "z"
    cases hx with
    | non => exact g_isi (b := false) .non rfl (by walk_at "z"; exact q)
    | bl b => exact g_isi (b := true) (.bl b) rfl (by walk_at "z"; exact iteT (by walk_at "z"; exact g_isi (b := true) (.bl b) rfl (by walk_at "z"; exact q)))
    | int i => exact g_isi (b := true) (.int i) rfl (by walk_at "z"; exact iteT (by walk_at "z"; exact g_isi (b := false) (.int i) rfl (by walk_at "z"; exact q)))
    | str s => exact g_isi (b := false) (.str s) rfl (by walk_at "z"; exact q)
    | lst h1 h2 => exact g_isi (b := false) (.lst h1 h2) rfl (by walk_at "z"; exact q)
    | tup h1 h2 => exact g_isi (b := false) (.tup h1 h2) rfl (by walk_at "z"; exact q)
def sp__law_same (n : Nat) (K : PySem.W.Frag) : Sp := fun vs H Q _ => ∃ (x y : V) (d e : PyData), vs = [x, y] ∧ Dp K H x d ∧ Dp K H y e ∧ Dl n e ∧ ∀ b H', (b = true ↔ d = e) → Same H H' → Q (.bl b) H'

theorem step__law_same (T : Txt K mg) (n : Nat) (ih : FnOk P w K mg base CX0 (n + 1) T.a__law_same T.d__law_same P__law_same (sp__law_same n K)) : FnOk P w K mg base CX0 (n + 2) T.a__law_same T.d__law_same P__law_same (sp__law_same (n + 1) K) := by
  refine T.F__law_same.ok sc__law_same (fun vs H Q E h => ?_) (fun cdv A outer s H vs Q E hr h => ?_)
  · obtain ⟨x, y, d, e, rfl, _⟩ := h
    rfl
  · obtain ⟨x, y, d, e, rfl, hx, hy, he, q⟩ := h
    refine ⟨_, (pss_cons (ps_if (pt_val (pe_callB call_isiU (by rfl) T.z_isinstance (by decide +kernel) (pa_cons (pv 1) (pa_cons (pe_tup (pa_cons (pe_bltn (v := .ty "list") (by rfl) T.z_list (by decide +kernel) rfl) (pa_cons (pe_bltn (v := .ty "tuple") (by rfl) T.z_tuple (by decide +kernel) rfl) pa_nil))) pa_nil))))
          (pss_cons (ps_if (PW.pt (pw_or (pt_cmpR (op_neU (hu64 hr)) (pe_callB call_isiU (by rfl) T.z_isinstance (by decide +kernel) (pa_cons (pv 1) (pa_cons (pe_bltn (v := .ty "list") (by rfl) T.z_list (by decide +kernel) rfl) pa_nil))) (pe_callB call_isiU (by rfl) T.z_isinstance (by decide +kernel) (pa_cons (pv 0) (pa_cons (pe_bltn (v := .ty "list") (by rfl) T.z_list (by decide +kernel) rfl) pa_nil))) (nomark _)) (pw_or1 (pt_cmpR (op_neU (hu64 hr)) (pe_callB call_isiU (by rfl) T.z_isinstance (by decide +kernel) (pa_cons (pv 1) (pa_cons (pe_bltn (v := .ty "tuple") (by rfl) T.z_tuple (by decide +kernel) rfl) pa_nil))) (pe_callB call_isiU (by rfl) T.z_isinstance (by decide +kernel) (pa_cons (pv 0) (pa_cons (pe_bltn (v := .ty "tuple") (by rfl) T.z_tuple (by decide +kernel) rfl) pa_nil))) (nomark _)))))
          (pss_one (ps_ret pe_bl))
          pss_nil)
        (pss_cons (ps_if (pt_cmpR (op_neU (hu64 hr)) (pe_callB call_lenU (by rfl) T.z_len PySem.boot_len (pa_cons (pv 0) pa_nil)) (pe_callB call_lenU (by rfl) T.z_len PySem.boot_len (pa_cons (pv 1) pa_nil)) (nomark _))
          (pss_one (ps_ret pe_bl))
          pss_nil)
        (pss_cons (ps_for PassesOwn.never rfl (pi_range1 (by rfl) T.z_range (pa_cons (pe_callB call_lenU (by rfl) T.z_len PySem.boot_len (pa_cons (pv 1) pa_nil)) pa_nil)) (pg_name (i := 2) sc__law_same.nd rfl (Or.inl rfl))
          (pss_one (ps_if (pt_not (pt_val (pe_call ih (hr.mono (by omega)) (by rfl) T.g__law_same T.F__law_same.kp T.b__law_same .nil pass0 (pa_cons (pe_ix ix_seq (pv 0) (pv 2) (fun _ _ => rfl)) (pa_cons (pe_ix ix_seq (pv 1) (pv 2) (fun _ _ => rfl)) pa_nil)))))
          (pss_one (ps_ret pe_bl))
          pss_nil)))
        (pss_one (ps_ret pe_bl)))))
          pss_nil)
        (pss_cons (ps_if (pt_cmpR op_isNU (pv 1) pe_non (nomark _))
          (pss_one (ps_ret (pe_cmpR op_isNU (pv 0) pe_non (nomark _))))
          pss_nil)
        (pss_cons (ps_if (pt_val (pe_callB call_isiU (by rfl) T.z_isinstance (by decide +kernel) (pa_cons (pv 1) (pa_cons (pe_bltn (v := .ty "bool") (by rfl) T.z_bool (by decide +kernel) rfl) pa_nil))))
          (pss_one (ps_ret (pe_and (pe_callB call_isiU (by rfl) T.z_isinstance (by decide +kernel) (pa_cons (pv 0) (pa_cons (pe_bltn (v := .ty "bool") (by rfl) T.z_bool (by decide +kernel) rfl) pa_nil))) (pe_one (pe_cmpR (op_eqU (hu64 hr)) (pv 0) (pv 1) (nomark _))))))
          pss_nil)
        (pss_cons (ps_if (pt_val (pe_callB call_isiU (by rfl) T.z_isinstance (by decide +kernel) (pa_cons (pv 1) (pa_cons (pe_bltn (v := .ty "int") (by rfl) T.z_int (by decide +kernel) rfl) pa_nil))))
          (pss_one (ps_ret (pe_and (pe_call (ok__law_is_integer T) (hr.mono (by omega)) (by rfl) T.g__law_is_integer T.F__law_is_integer.kp T.b__law_is_integer .nil pass0 (pa_cons (pv 0) pa_nil)) (pe_one (pe_cmpR (op_eqU (hu64 hr)) (pv 0) (pv 1) (nomark _))))))
          pss_nil)
        (pss_one (ps_ret (pe_and (pe_callB call_isiU (by rfl) T.z_isinstance (by decide +kernel) (pa_cons (pv 0) (pa_cons (pe_bltn (v := .ty "str") (by rfl) T.z_str (by decide +kernel) rfl) pa_nil))) (pe_one (pe_cmpR (op_eqU (hu64 hr)) (pv 0) (pv 1) (nomark _)))))))))), ?_⟩
    walk_at "z"
    refine g_new (by decide) (Own.start H) fun t H1 nt O => ?_
    walk_at "z"
    have q : ∀ b H', (b = true ↔ d = e) → Same H1 H' → Q (.bl b) H' := fun b H' hb e => q b H' hb (O.fr.trans e)
    have hx := dp_ex O.fr hx
    have hy := dp_ex O.fr hy
    cases hy with
    | non =>
      refine g_isi2 (O.get 0) .non rfl rfl ?_
      walk_at "z"
      refine iteF ?_
      walk_at "z"
      refine ite_d (fun _ => ?_) (fun h => absurd rfl h)
      walk_at "z"
      refine q _ _ ?_ (Same.refl _)
      cases hx <;> simp
    | bl b =>
      refine g_isi2 (O.get 0) (.bl b) rfl rfl ?_
      walk_at "z"
      refine iteF ?_
      walk_at "z"
      refine ite_d (fun h => nomatch h) (fun _ => ?_)
      walk_at "z"
      refine g_isi (.bl b) rfl ?_
      walk_at "z"
      refine iteT ?_
      walk_at "z"
      cases hx with
      | bl b' =>
        refine g_isi (.bl b') rfl ?_
        walk_at "z"
        refine iteT ?_
        walk_at "z"
        refine g_eqB (q _ _ ?_ (Same.refl _))
        simp
      | non => exact g_isi (b := false) .non rfl (by walk_at "z"; exact iteF (q _ _ (by simp) (Same.refl _)))
      | int i => exact g_isi (b := false) (.int i) rfl (by walk_at "z"; exact iteF (q _ _ (by simp) (Same.refl _)))
      | str s => exact g_isi (b := false) (.str s) rfl (by walk_at "z"; exact iteF (q _ _ (by simp) (Same.refl _)))
      | lst h1 h2 => exact g_isi (b := false) (.lst h1 h2) rfl (by walk_at "z"; exact iteF (q _ _ (by simp) (Same.refl _)))
      | tup h1 h2 => exact g_isi (b := false) (.tup h1 h2) rfl (by walk_at "z"; exact iteF (q _ _ (by simp) (Same.refl _)))
    | int b =>
      refine g_isi2 (O.get 0) (.int b) rfl rfl ?_
      walk_at "z"
      refine iteF ?_
      walk_at "z"
      refine ite_d (fun h => nomatch h) (fun _ => ?_)
      walk_at "z"
      refine g_isi (.int b) rfl ?_
      walk_at "z"
      refine iteF ?_
      walk_at "z"
      refine g_isi (.int b) rfl ?_
      walk_at "z"
      refine iteT ?_
      walk_at "z"
      refine ⟨_, _, rfl, hx, ?_⟩
      walk_at "z"
      cases hx with
      | int i =>
        refine iteT ?_
        walk_at "z"
        refine q _ _ ?_ (Same.refl _)
        simp
      | non => exact iteF (q _ _ (by simp) (Same.refl _))
      | bl i => exact iteF (q _ _ (by simp) (Same.refl _))
      | str s => exact iteF (q _ _ (by simp) (Same.refl _))
      | lst h1 h2 => exact iteF (q _ _ (by simp) (Same.refl _))
      | tup h1 h2 => exact iteF (q _ _ (by simp) (Same.refl _))
    | str b =>
      refine g_isi2 (O.get 0) (.str b) rfl rfl ?_
      walk_at "z"
      refine iteF ?_
      walk_at "z"
      refine ite_d (fun h => nomatch h) (fun _ => ?_)
      walk_at "z"
      refine g_isi (.str b) rfl ?_
      walk_at "z"
      refine iteF ?_
      walk_at "z"
      refine g_isi (.str b) rfl ?_
      walk_at "z"
      refine iteF ?_
      walk_at "z"
      cases hx with
      | str b' =>
        refine g_isi (.str b') rfl ?_
        walk_at "z"
        refine iteT ?_
        walk_at "z"
        refine g_eqS (q _ _ ?_ (Same.refl _))
        simp
      | non => exact g_isi (b := false) .non rfl (by walk_at "z"; exact iteF (q _ _ (by simp) (Same.refl _)))
      | int i => exact g_isi (b := false) (.int i) rfl (by walk_at "z"; exact iteF (q _ _ (by simp) (Same.refl _)))
      | bl s => exact g_isi (b := false) (.bl s) rfl (by walk_at "z"; exact iteF (q _ _ (by simp) (Same.refl _)))
      | lst h1 h2 => exact g_isi (b := false) (.lst h1 h2) rfl (by walk_at "z"; exact iteF (q _ _ (by simp) (Same.refl _)))
      | tup h1 h2 => exact g_isi (b := false) (.tup h1 h2) rfl (by walk_at "z"; exact iteF (q _ _ (by simp) (Same.refl _)))
    | @lst b ys es hS hA =>
      cases he with
      | lst hz he =>
      refine g_isi2 (O.get 0) (.lst hS hA) rfl rfl ?_
      walk_at "z"
      refine iteT ?_
      walk_at "z"
      refine g_isi (.lst hS hA) rfl ?_
      walk_at "z"
      cases hx with
      | non => exact g_isi (b := false) .non rfl (g_neB (by walk_at "z"; exact iteT (by walk_at "z"; exact iteT (by walk_at "z"; exact q _ _ (by simp) (Same.refl _)))))
      | bl i => exact g_isi (b := false) (.bl i) rfl (g_neB (by walk_at "z"; exact iteT (by walk_at "z"; exact iteT (by walk_at "z"; exact q _ _ (by simp) (Same.refl _)))))
      | int i => exact g_isi (b := false) (.int i) rfl (g_neB (by walk_at "z"; exact iteT (by walk_at "z"; exact iteT (by walk_at "z"; exact q _ _ (by simp) (Same.refl _)))))
      | str i => exact g_isi (b := false) (.str i) rfl (g_neB (by walk_at "z"; exact iteT (by walk_at "z"; exact iteT (by walk_at "z"; exact q _ _ (by simp) (Same.refl _)))))
      | tup h1 h2 => exact g_isi (b := false) (.tup h1 h2) rfl (g_neB (by walk_at "z"; exact iteT (by walk_at "z"; exact iteT (by walk_at "z"; exact q _ _ (by simp) (Same.refl _)))))
      | @lst a xs ds h1 h2 =>
        refine g_isi (.lst h1 h2) rfl (g_neB ?_)
        walk_at "z"
        refine iteF ?_
        walk_at "z"
        refine g_isi (.lst hS hA) rfl ?_
        walk_at "z"
        refine g_isi (.lst h1 h2) rfl (g_neB ?_)
        walk_at "z"
        refine iteF ?_
        walk_at "z"
        refine g_lenL h1 ?_
        walk_at "z"
        refine g_lenL hS ?_
        walk_at "z"
        have l1 := dps_len h2
        have l2 := dps_len hA
        refine ite_nd (fun hne => ?_) (fun hlen => ?_)
        · walk_at "z"
          refine q _ _ (iff_false_of fun e => hne ?_) (Same.refl _)
          injection e with e
          rw [l1, l2, e]
        · walk_at "z"
          refine g_lenL hS ?_
          refine g_rng1v ⟨by omega, by omega⟩ ?_
          refine forB_rng0 (fun i σ H' => ∃ x2, σ = [some (.ref a), some (.ref b), x2] ∧ Same H1 H' ∧ ∀ j, j < i → ds[j]? = es[j]?) ?_ ?_ ?_
          · exact ⟨_, rfl, Same.refl _, fun j hj => absurd hj (Nat.not_lt_zero j)⟩
          · rintro i σ H2 hi ⟨x2, rfl, eH, hj⟩
            walk_at "z"
            have hi1 : i < xs.length := by omega
            have hi2 : i < ys.length := by omega
            refine g_ixL (eH.seq h1) (atI_nat (List.getElem?_eq_getElem hi1)) ?_
            walk_at "z"
            refine g_ixL (eH.seq hS) (atI_nat (List.getElem?_eq_getElem hi2)) ?_
            walk_at "z"
            obtain ⟨d, ed, hd⟩ := dps_get h2 (List.getElem?_eq_getElem hi1)
            obtain ⟨e, ee, hee⟩ := dps_get hA (List.getElem?_eq_getElem hi2)
            refine ⟨_, _, d, e, rfl, dp_ex eH hd, dp_ex eH hee, he e (List.mem_of_getElem? ee), fun c H3 hc e3 => ?_⟩
            walk_at "z"
            refine ite_nb (fun hcb => ?_) (fun hcb => ?_)
            · walk_at "z"
              refine q _ _ (iff_false_of fun e' => ?_) (eH.trans e3)
              injection e' with e'
              rw [e', ee] at ed
              rw [hcb] at hc
              exact absurd (hc.mpr (Option.some.inj ed).symm) (by simp)
            · walk_at "z"
              refine ⟨_, rfl, eH.trans e3, fun j hji => ?_⟩
              by_cases hjj : j < i
              · exact hj j hjj
              · have : j = i := by omega
                subst this
                rw [ed, ee, hc.mp hcb]
          · rintro σ H2 ⟨x2, rfl, eH, hj⟩
            walk_at "z"
            refine q _ _ (iff_true_of ?_) eH
            congr 1
            apply List.ext_getElem?
            intro j
            by_cases hjl : j < ys.length
            · exact hj j (by omega)
            · rw [List.getElem?_eq_none (by omega), List.getElem?_eq_none (by omega)]
    | @tup b ys es hS hA =>
      cases he with
      | tup hz he =>
      refine g_isi2 (O.get 0) (.tup hS hA) rfl rfl ?_
      walk_at "z"
      refine iteT ?_
      walk_at "z"
      refine g_isi (.tup hS hA) rfl ?_
      walk_at "z"
      cases hx with
      | non => exact g_isi (b := false) .non rfl (g_neB (by walk_at "z"; exact iteF (by walk_at "z"; exact g_isi (.tup hS hA) rfl (by walk_at "z"; exact g_isi (b := false) .non rfl (g_neB (by walk_at "z"; exact iteT (by walk_at "z"; exact q _ _ (by simp) (Same.refl _))))))))
      | bl i => exact g_isi (b := false) (.bl i) rfl (g_neB (by walk_at "z"; exact iteF (by walk_at "z"; exact g_isi (.tup hS hA) rfl (by walk_at "z"; exact g_isi (b := false) (.bl i) rfl (g_neB (by walk_at "z"; exact iteT (by walk_at "z"; exact q _ _ (by simp) (Same.refl _))))))))
      | int i => exact g_isi (b := false) (.int i) rfl (g_neB (by walk_at "z"; exact iteF (by walk_at "z"; exact g_isi (.tup hS hA) rfl (by walk_at "z"; exact g_isi (b := false) (.int i) rfl (g_neB (by walk_at "z"; exact iteT (by walk_at "z"; exact q _ _ (by simp) (Same.refl _))))))))
      | str i => exact g_isi (b := false) (.str i) rfl (g_neB (by walk_at "z"; exact iteF (by walk_at "z"; exact g_isi (.tup hS hA) rfl (by walk_at "z"; exact g_isi (b := false) (.str i) rfl (g_neB (by walk_at "z"; exact iteT (by walk_at "z"; exact q _ _ (by simp) (Same.refl _))))))))
      | lst h1 h2 => exact g_isi (b := true) (.lst h1 h2) rfl (g_neB (by walk_at "z"; exact iteT (by walk_at "z"; exact iteT (by walk_at "z"; exact q _ _ (by simp) (Same.refl _)))))
      | @tup a xs ds h1 h2 =>
        refine g_isi (.tup h1 h2) rfl (g_neB ?_)
        walk_at "z"
        refine iteF ?_
        walk_at "z"
        refine g_isi (.tup hS hA) rfl ?_
        walk_at "z"
        refine g_isi (.tup h1 h2) rfl (g_neB ?_)
        walk_at "z"
        refine iteF ?_
        walk_at "z"
        refine g_lenT h1 ?_
        walk_at "z"
        refine g_lenT hS ?_
        walk_at "z"
        have l1 := dps_len h2
        have l2 := dps_len hA
        refine ite_nd (fun hne => ?_) (fun hlen => ?_)
        · walk_at "z"
          refine q _ _ (iff_false_of fun e => hne ?_) (Same.refl _)
          injection e with e
          rw [l1, l2, e]
        · walk_at "z"
          refine g_lenT hS ?_
          refine g_rng1v ⟨by omega, by omega⟩ ?_
          refine forB_rng0 (fun i σ H' => ∃ x2, σ = [some (.ref a), some (.ref b), x2] ∧ Same H1 H' ∧ ∀ j, j < i → ds[j]? = es[j]?) ?_ ?_ ?_
          · exact ⟨_, rfl, Same.refl _, fun j hj => absurd hj (Nat.not_lt_zero j)⟩
          · rintro i σ H2 hi ⟨x2, rfl, eH, hj⟩
            walk_at "z"
            have hi1 : i < xs.length := by omega
            have hi2 : i < ys.length := by omega
            refine g_ixT (sq_t eH h1) (atI_nat (List.getElem?_eq_getElem hi1)) ?_
            walk_at "z"
            refine g_ixT (sq_t eH hS) (atI_nat (List.getElem?_eq_getElem hi2)) ?_
            walk_at "z"
            obtain ⟨d, ed, hd⟩ := dps_get h2 (List.getElem?_eq_getElem hi1)
            obtain ⟨e, ee, hee⟩ := dps_get hA (List.getElem?_eq_getElem hi2)
            refine ⟨_, _, d, e, rfl, dp_ex eH hd, dp_ex eH hee, he e (List.mem_of_getElem? ee), fun c H3 hc e3 => ?_⟩
            walk_at "z"
            refine ite_nb (fun hcb => ?_) (fun hcb => ?_)
            · walk_at "z"
              refine q _ _ (iff_false_of fun e' => ?_) (eH.trans e3)
              injection e' with e'
              rw [e', ee] at ed
              rw [hcb] at hc
              exact absurd (hc.mpr (Option.some.inj ed).symm) (by simp)
            · walk_at "z"
              refine ⟨_, rfl, eH.trans e3, fun j hji => ?_⟩
              by_cases hjj : j < i
              · exact hj j hjj
              · have : j = i := by omega
                subst this
                rw [ed, ee, hc.mp hcb]
          · rintro σ H2 ⟨x2, rfl, eH, hj⟩
            walk_at "z"
            refine q _ _ (iff_true_of ?_) eH
            congr 1
            apply List.ext_getElem?
            intro j
            by_cases hjl : j < ys.length
            · exact hj j (by omega)
            · rw [List.getElem?_eq_none (by omega), List.getElem?_eq_none (by omega)]
theorem ok__law_same_n (T : Txt K mg) : ∀ n : Nat, FnOk P w K mg base CX0 (n + 1) T.a__law_same T.d__law_same P__law_same (sp__law_same n K)
  | 0 => fn_none fun vs H Q E h => by
    obtain ⟨x, y, d, e, _, _, _, he, _⟩ := h
    cases he
  | n + 1 => step__law_same T n (ok__law_same_n T n)
theorem ok__law_same (T : Txt K mg) : FnOk P w K mg base CX0 13 T.a__law_same T.d__law_same P__law_same (sp__law_same 12 K) := ok__law_same_n T 12


/-! ### the next draw of a state [draws, index] -/
def sp__law_next (K : PySem.W.Frag) : Sp := fun vs H Q _ => ∃ (s d : Addr) (i lim : Int) (ds : List Int), vs = [.ref s, .int lim] ∧ 0 < lim ∧ H s = some (.lst [.ref d, .int i]) ∧ 0 ≤ i ∧ d ≠ s ∧ SqL K H d (ds.map V.int) ∧ DrawsOk ds ∧
  ∀ n H', 0 ≤ n → n < lim → (∀ b u, b ≠ s → H b = some u → H' b = some u) → H' s = some (.lst [.ref d, .int (i + 1)]) → Q (.int n) H'

theorem ok__law_next (T : Txt K mg) : FnOk P w K mg base CX0 3 T.a__law_next T.d__law_next P__law_next (sp__law_next K) := by
  refine T.F__law_next.ok sc__law_next (fun vs H Q E h => ?_) (fun cdv A outer s H vs Q E hr h => ?_)
  · obtain ⟨s, d, i, lim, ds, rfl, _⟩ := h
    rfl
  · obtain ⟨s, d, i, lim, ds, rfl, hlim, hs, hi, hne, hS, hd, q⟩ := h
    refine ⟨_, (pss_cons (ps_augS (pv 0) pe_int get_list pe_int ip_add set_list)
        (pss_one (ps_ret (pe_op op_mod (pe_call (ok__law_at T) (hr.mono (by omega)) (by rfl) T.g__law_at T.F__law_at.kp T.b__law_at .nil pass0 (pa_cons (pe_ix ix_seq (pv 0) pe_int (fun _ _ => rfl)) (pa_cons (pe_ix ix_seq (pv 0) pe_int (fun _ _ => rfl)) pa_nil))) (pv 1))))), ?_⟩
    have O := Own.arg1 hs
    have hS := sq_dels (as := [s]) (fun h => hne (List.mem_singleton.mp h)) hS
    walk_at "z"
    refine g_ixLL (m := 1) (O.lst 0) (atI_nat (j := 1) rfl) ?_
    walk_at "z"
    refine g_setL (i := 1) O 0 rfl (by decide) (by simp) fun H1 O => ?_
    walk_at "z"
    refine g_ixL (m := 0) (O.lst 0) (atI_nat (j := 0) rfl) ?_
    walk_at "z"
    refine g_ixL (m := 1) (O.lst 0) (atI_nat (j := 1) rfl) ?_
    walk_at "z"
    refine ⟨d, ds, i + 1, rfl, O.fr.seq hS, hd, by omega, fun n h0 h1 => ?_⟩
    walk_at "z"
    exact q _ _ (Int.emod_nonneg _ (by omega)) (Int.emod_lt_of_pos _ hlim) O.give1 (O.get 0)
theorem nxt {B : Hp} {cs : List (Addr × HO)} {H : Hp} {Q : VK} {E : XK} {s d : Addr} {i lim : Int} {ds : List Int} (O : Own B cs H) (j : Nat) (hj : cs[j]? = some (s, .lst [.ref d, .int i])) (hi : 0 ≤ i) (hB : B d = some (.lst (ds.map V.int))) (hd : DrawsOk ds) (hl : 0 < lim)
    (k : ∀ n H', 0 ≤ n → n < lim → Own B (cs.set j (s, .lst [.ref d, .int (i + 1)])) H' → Q (.int n) H') : sp__law_next K [.ref s, .int lim] H Q E :=
  ⟨s, d, i, lim, ds, rfl, hl, O.get j hj, hi, O.neB j hj hB, .inl (.inl (O.fr _ _ hB)), hd, fun n H' h0 h1 e hs => k n H' h0 h1 (O.mut j hj e hs)⟩


/-! ### records: numbers, checksums, what is read -/
def nz (l : List Nat) : List Int := l.map fun n => ((n : Nat) : Int)
theorem nz_len (l : List Nat) : (nz l).length = l.length := List.length_map ..
theorem nz_app (a b : List Nat) : nz (a ++ b) = nz a ++ nz b := List.map_append
theorem nz_take (l : List Nat) (k : Nat) : (nz l).take k = nz (l.take k) := List.map_take.symm
theorem nz_drop (l : List Nat) (k : Nat) : (nz l).drop k = nz (l.drop k) := List.map_drop.symm
theorem nz_inj {a b : List Nat} (h : nz a = nz b) : a = b := by
  induction a generalizing b with
  | nil => cases b with
    | nil => rfl
    | cons y r => cases h
  | cons x l ih => cases b with
    | nil => cases h
    | cons y r =>
      have h1 : ((x : Nat) : Int) = (y : Nat) := List.head_eq_of_cons_eq h
      have h2 : nz l = nz r := List.tail_eq_of_cons_eq h
      rw [ih h2, Int.ofNat.inj h1]
/-- a number as bytes -/
def num (n : Nat) : List Nat := if h : 128 ≤ n then (n % 128 + 128) :: num (n / 128) else [n]
termination_by n
decreasing_by omega
theorem num_big {n : Nat} (h : 128 ≤ n) : num n = (n % 128 + 128) :: num (n / 128) := by rw [num, dif_pos h]
theorem num_small {n : Nat} (h : n < 128) : num n = [n] := by rw [num, dif_neg (by omega)]
theorem num_len (k : Nat) : ∀ n : Nat, n < 128 ^ k → (num n).length ≤ k + 1 := by
  induction k with
  | zero =>
    intro n h
    rw [num_small (by omega)]
    exact Nat.le_refl _
  | succ k ih =>
    intro n h
    by_cases hn : 128 ≤ n
    · rw [num_big hn, List.length_cons]
      have := ih (n / 128) (Nat.div_lt_of_lt_mul (by rw [Nat.pow_succ, Nat.mul_comm] at h; exact h))
      omega
    · rw [num_small (by omega)]
      show 1 ≤ _
      omega
theorem num_ne (n : Nat) : num n ≠ [] := by
  by_cases hn : 128 ≤ n
  · rw [num_big hn]; simp
  · rw [num_small (by omega)]; simp
theorem num_drop : ∀ n : Nat, ∀ b ∈ (num n).dropLast, 128 ≤ b := by
  intro n
  induction n using Nat.strongRecOn with
  | ind n ih =>
    by_cases hn : 128 ≤ n
    · rw [num_big hn, List.dropLast_cons_of_ne_nil (num_ne _)]
      intro b hb
      rcases List.mem_cons.mp hb with rfl | hb
      · omega
      · exact ih (n / 128) (by omega) b hb
    · rw [num_small (by omega)]
      intro b hb
      exact nomatch hb
theorem num_lt : ∀ n : Nat, ∀ b ∈ num n, b < 256 := by
  intro n
  induction n using Nat.strongRecOn with
  | ind n ih =>
    by_cases hn : 128 ≤ n
    · rw [num_big hn]
      intro b hb
      rcases List.mem_cons.mp hb with rfl | hb
      · omega
      · exact ih (n / 128) (by omega) b hb
    · rw [num_small (by omega)]
      intro b hb
      rw [List.mem_singleton.mp hb]
      omega
/-- what read_number reads: the number and how many bytes -/
def rnum : Nat → Nat → Nat → Nat → List Nat → Option (Nat × Nat)
  | 0, _, _, _, _ => none
  | _ + 1, _, _, _, [] => none
  | f + 1, i, t, c, b :: r => if b < 128 then (if b = 0 ∧ 0 < i then none else some (t + b % 128 * c, i + 1)) else rnum f (i + 1) (t + b % 128 * c) (c * 128) r
theorem rnum_num (rest : List Nat) : ∀ (n f i t c : Nat), (num n).length ≤ f → (0 < i → 0 < n) → rnum f i t c (num n ++ rest) = some (t + n * c, i + (num n).length) := by
  intro n
  induction n using Nat.strongRecOn with
  | ind n ih =>
    intro f i t c hf hi
    by_cases hn : 128 ≤ n
    · rw [num_big hn] at hf ⊢
      cases f with
      | zero => exact absurd hf (by simp)
      | succ f =>
        rw [List.cons_append]
        show (if n % 128 + 128 < 128 then _ else rnum f (i + 1) (t + (n % 128 + 128) % 128 * c) (c * 128) (num (n / 128) ++ rest)) = _
        rw [if_neg (by omega), ih (n / 128) (by omega) f _ _ _ (by rw [List.length_cons] at hf; omega) (fun _ => by omega)]
        rw [show (n % 128 + 128) % 128 = n % 128 by omega]
        congr 2
        · have e : n * c = (n % 128) * c + (n / 128) * (c * 128) := by
            have h1 : n = n % 128 + n / 128 * 128 := by omega
            calc n * c = (n % 128 + n / 128 * 128) * c := by rw [← h1]
              _ = _ := by rw [Nat.add_mul, Nat.mul_assoc, Nat.mul_comm 128 c]
          omega
        · rw [List.length_cons]; omega
    · rw [num_small (by omega)] at hf ⊢
      cases f with
      | zero => exact absurd hf (by simp)
      | succ f =>
        show (if n < 128 then (if n = 0 ∧ 0 < i then none else some (t + n % 128 * c, i + 1)) else _) = _
        rw [if_pos (by omega), if_neg (by omega), show n % 128 = n by omega]
        rfl
/-- bytes that all go on: nothing is read -/
theorem rnum_on : ∀ (bs : List Nat) (f i t c : Nat), (∀ b ∈ bs, 128 ≤ b) → rnum f i t c bs = none
  | bs, 0, _, _, _, _ => rfl
  | [], _ + 1, _, _, _, _ => rfl
  | b :: r, f + 1, i, t, c, h => by
    show (if b < 128 then _ else rnum f (i + 1) (t + b % 128 * c) (c * 128) r) = none
    have := h b (.head _)
    rw [if_neg (by omega)]
    exact rnum_on r f _ _ _ fun x hx => h x (.tail _ hx)
/-- .. and a last byte 0 -/
theorem rnum_zero (rest : List Nat) : ∀ (bs : List Nat) (f i t c : Nat), (∀ b ∈ bs, 128 ≤ b) → (bs ≠ [] ∨ 0 < i) → rnum f i t c (bs ++ 0 :: rest) = none
  | bs, 0, _, _, _, _, _ => rfl
  | [], f + 1, i, t, c, _, h => by
    show (if 0 < 128 then (if 0 = 0 ∧ 0 < i then none else some (t + 0 % 128 * c, i + 1)) else rnum f (i + 1) (t + 0 % 128 * c) (c * 128) rest) = none
    rw [if_pos (by decide), if_pos ⟨rfl, h.resolve_left fun n => n rfl⟩]
  | b :: r, f + 1, i, t, c, h, _ => by
    show (if b < 128 then _ else rnum f (i + 1) (t + b % 128 * c) (c * 128) (r ++ 0 :: rest)) = none
    have := h b (.head _)
    rw [if_neg (by omega)]
    exact rnum_zero rest r f _ _ _ (fun x hx => h x (.tail _ hx)) (.inr (by omega))
/-- what stands before the number ends -/
theorem rnum_cut {n m f i t c : Nat} (h : m < (num n).length) : rnum f i t c ((num n).take m) = none := by
  refine rnum_on _ _ _ _ _ fun b hb => num_drop n b ?_
  rw [List.dropLast_eq_take]
  have e : (num n).take m = ((num n).take ((num n).length - 1)).take m := by rw [List.take_take, Nat.min_eq_left (by omega)]
  rw [e] at hb
  exact List.mem_of_mem_take hb
/-- the checksum -/
def ckf (t b : Nat) : Nat := (31 * t + b + 1) % 4294967296
def ckT (t : Nat) (l : List Nat) : Nat := l.foldl ckf t
def ck (l : List Nat) : Nat := ckT 7 l
theorem ckf_lt (t b : Nat) : ckf t b < 4294967296 := Nat.mod_lt _ (by decide)
theorem ckT_lt : ∀ (l : List Nat) (t : Nat), t < 4294967296 → ckT t l < 4294967296
  | [], _, h => h
  | b :: r, t, _ => ckT_lt r (ckf t b) (ckf_lt t b)
theorem ck_lt (l : List Nat) : ck l < 4294967296 := ckT_lt l 7 (by decide)
theorem ckT_ne : ∀ (l : List Nat) (t u : Nat), t < 4294967296 → u < 4294967296 → t ≠ u → ckT t l ≠ ckT u l
  | [], _, _, _, _, h => h
  | b :: r, t, u, ht, hu, h => ckT_ne r (ckf t b) (ckf u b) (ckf_lt t b) (ckf_lt u b) (by unfold ckf; omega)
theorem ckT_app (t : Nat) (a b : List Nat) : ckT t (a ++ b) = ckT (ckT t a) b := List.foldl_append
theorem ck_alt {a c : List Nat} {x y : Nat} (hx : x < 256) (hy : y < 256) (h : x ≠ y) : ck (a ++ x :: c) ≠ ck (a ++ y :: c) := by
  unfold ck
  rw [ckT_app, ckT_app]
  have ha := ckT_lt a 7 (by decide)
  exact ckT_ne c (ckf (ckT 7 a) x) (ckf (ckT 7 a) y) (ckf_lt ..) (ckf_lt ..) (by unfold ckf; omega)
def tail4 (t : Nat) : List Nat := [t / 16777216, t / 65536 % 256, t / 256 % 256, t % 256]
theorem tail4_inj {t u : Nat} (h : tail4 t = tail4 u) : t = u := by
  unfold tail4 at h
  simp only [List.cons.injEq, and_true] at h
  omega
/-- a record -/
def recd (l : List Nat) : List Nat := num l.length ++ l ++ tail4 (ck l)
theorem recd_len (l : List Nat) : (recd l).length = (num l.length).length + l.length + 4 := by
  unfold recd
  rw [List.length_append, List.length_append]
  rfl
/-- one record ahead -/
def stp (l : List Nat) : Option (List Nat × Nat) := match rnum 60 0 0 1 (l.take 60) with
  | none => none
  | some (v, n) => if n + v + 4 ≤ l.length ∧ tail4 (ck ((l.drop n).take v)) = (l.drop (n + v)).take 4 then some ((l.drop n).take v, n + v + 4) else none
theorem stp_at {d t r : List Nat} (hd : d.length ≤ 2000000) (ht : t.length = 4) : stp (num d.length ++ d ++ t ++ r) = if tail4 (ck d) = t then some (d, (num d.length).length + d.length + 4) else none := by
  have hn := num_len 3 d.length (by show _ < 2097152; omega)
  unfold stp
  have e1 : (num d.length ++ d ++ t ++ r).take 60 = num d.length ++ (d ++ t ++ r).take (60 - (num d.length).length) := by
    rw [List.append_assoc, List.append_assoc, List.take_append, List.take_of_length_le (by omega), ← List.append_assoc d]
  rw [e1, rnum_num _ _ _ _ _ _ (by omega) (fun h => absurd h (by omega))]
  dsimp only
  rw [Nat.zero_add, Nat.zero_add, Nat.mul_one]
  have e2 : (num d.length ++ d ++ t ++ r).drop (num d.length).length = d ++ t ++ r := by
    rw [List.append_assoc, List.append_assoc, List.drop_left, ← List.append_assoc]
  have e3 : (num d.length ++ d ++ t ++ r).drop ((num d.length).length + d.length) = t ++ r := by
    rw [← List.drop_drop, e2, List.append_assoc, List.drop_left]
  rw [e2, e3, List.append_assoc d, List.take_left, ← ht, List.take_left, ht]
  have e4 : (num d.length).length + d.length + 4 ≤ (num d.length ++ d ++ t ++ r).length := by
    rw [List.length_append, List.length_append, List.length_append]
    omega
  by_cases h : tail4 (ck d) = t
  · rw [if_pos ⟨e4, h⟩, if_pos h]
  · rw [if_neg (fun q => h q.2), if_neg h]
theorem stp_recd {d r : List Nat} (hd : d.length ≤ 2000000) : stp (recd d ++ r) = some (d, (recd d).length) := by
  unfold recd
  rw [stp_at hd rfl, if_pos rfl]
  have := recd_len d
  unfold recd at this
  rw [this]
theorem stp_bad {d t r : List Nat} (hd : d.length ≤ 2000000) (ht : t.length = 4) (h : tail4 (ck d) ≠ t) : stp (num d.length ++ d ++ t ++ r) = none := by rw [stp_at hd ht, if_neg h]
/-- what is cut short -/
theorem stp_cut {d : List Nat} {m : Nat} (hd : d.length ≤ 2000000) (hm : m < (recd d).length) : stp ((recd d).take m) = none := by
  have hn := num_len 3 d.length (by show _ < 2097152; omega)
  rw [recd_len] at hm
  unfold stp
  by_cases h : m < (num d.length).length
  · have e : ((recd d).take m).take 60 = (num d.length).take m := by
      unfold recd
      rw [List.append_assoc, List.take_append_of_le_length (by omega), List.take_take, Nat.min_eq_right (by omega)]
    rw [e, rnum_cut h]
  · have e : ((recd d).take m).take 60 = num d.length ++ ((d ++ tail4 (ck d)).take (m - (num d.length).length)).take (60 - (num d.length).length) := by
      unfold recd
      rw [List.append_assoc, List.take_append, List.take_of_length_le (l := num d.length) (by omega), List.take_append, List.take_of_length_le (l := num d.length) (by omega)]
    rw [e, rnum_num _ _ _ _ _ _ (by omega) (fun h => absurd h (by omega))]
    dsimp only
    rw [if_neg]
    rintro ⟨h1, _⟩
    rw [Nat.zero_add, Nat.zero_add, Nat.mul_one, List.length_take, recd_len] at h1
    omega
theorem stp_nil : stp [] = none := rfl
/-- a needless byte of the size -/
theorem stp_needless {bs r : List Nat} (h : ∀ b ∈ bs, 128 ≤ b) (hl : bs.length < 60) (hn : bs ≠ []) : stp (bs ++ 0 :: r) = none := by
  unfold stp
  have e : (bs ++ 0 :: r).take 60 = bs ++ 0 :: r.take (60 - bs.length - 1) := by
    rw [List.take_append, List.take_of_length_le (by omega)]
    congr 1
    rw [show 60 - bs.length = (60 - bs.length - 1) + 1 by omega]
    rfl
  rw [e, rnum_zero _ _ _ _ _ _ h (.inl hn)]
/-- records one behind the other -/
inductive Reads : List Nat → List (List Nat) → Nat → Prop
  | stop {l : List Nat} : stp l = none → Reads l [] 0
  | more {l r : List Nat} {k n : Nat} {rs : List (List Nat)} : stp l = some (r, k) → Reads (l.drop k) rs n → Reads l (r :: rs) (k + n)
def recds (rs : List (List Nat)) : List Nat := (rs.map recd).flatten
theorem reads_of {b : List Nat} (hb : stp b = none) : ∀ rs : List (List Nat), (∀ r ∈ rs, r.length ≤ 2000000) → Reads (recds rs ++ b) rs (recds rs).length
  | [], _ => .stop hb
  | r :: rs, h => by
    have ih := reads_of hb rs fun x hx => h x (.tail _ hx)
    have e : recds (r :: rs) = recd r ++ recds rs := rfl
    rw [e, List.length_append, List.append_assoc]
    refine .more (stp_recd (h r (.head _))) ?_
    rw [List.drop_left]
    exact ih
theorem stp_len {l r : List Nat} {k : Nat} (h : stp l = some (r, k)) : k ≤ l.length ∧ 4 ≤ k := by
  unfold stp at h
  cases e : rnum 60 0 0 1 (l.take 60) with
  | none => rw [e] at h; exact nomatch h
  | some p =>
    obtain ⟨v, n⟩ := p
    rw [e] at h
    dsimp only at h
    split at h
    · rename_i hc
      injection h with h
      injection h with h1 h2
      omega
    · exact nomatch h
theorem reads_len {l : List Nat} {rs : List (List Nat)} {n : Nat} (h : Reads l rs n) : n ≤ l.length ∧ rs.length ≤ l.length := by
  induction h with
  | stop _ => exact ⟨Nat.zero_le _, Nat.zero_le _⟩
  | more h1 _ ih =>
    have := stp_len h1
    rw [List.length_drop] at ih
    rw [List.length_cons]
    omega
theorem nzv_get {l : List Nat} {i : Nat} {j : Int} (e : j.toNat = i) (h : i < l.length) : ((nz l).map V.int)[j.toNat]? = some (.int ((l[i] : Nat) : Int)) := by
  unfold nz
  rw [e, List.map_map, List.getElem?_map, List.getElem?_eq_getElem h]
  rfl
theorem none_of {H B : Hp} {p : Addr} (e : Same H B) (h : B p = none) : H p = none := by
  cases q : H p with
  | none => rfl
  | some o => rw [e _ _ q] at h; exact nomatch h
theorem ckT_take {l : List Nat} {i : Nat} (h : i < l.length) : ckT 7 (l.take (i + 1)) = ckf (ckT 7 (l.take i)) l[i] := by
  rw [← List.take_append_getElem h, ckT_app]
  rfl


def rd (d : Addr) (at_ : Int) : List (Str × V) := [("data", .ref d), ("at", .int at_)]
theorem rd_d (d : Addr) (i : Int) : (rd d i).lookup ("data" : Str) = some (.ref d) := by
  unfold rd
  rw [List.lookup_cons, show (("data" : Str) == ("data" : Str)) = true from by decide +kernel]
theorem rd_a (d : Addr) (i : Int) : (rd d i).lookup ("at" : Str) = some (.int i) := by
  unfold rd
  rw [List.lookup_cons, show (("at" : Str) == ("data" : Str)) = false from by decide +kernel, List.lookup_cons, show (("at" : Str) == ("at" : Str)) = true from by decide +kernel]
theorem rd_n (d : Addr) (i : Int) {m : Str} (h1 : (m == ("data" : Str)) = false) (h2 : (m == ("at" : Str)) = false) : (rd d i).lookup m = none := by
  unfold rd
  rw [List.lookup_cons, h1, List.lookup_cons, h2]
  rfl
theorem ne_da : ¬ (("data" : Str) = "at") := by decide +kernel
theorem rd_new (d : Addr) (i : Int) : putF "at" (.int i) (putF "data" (.ref d) []) = rd d i := by
  show (if ("data" : Str) = "at" then _ else _) = _
  rw [if_neg ne_da]
  rfl
theorem rd_put (d : Addr) (i j : Int) : putF "at" (.int j) (rd d i) = rd d j := by
  show (if ("data" : Str) = "at" then _ else (("data" : Str), V.ref d) :: (if ("at" : Str) = "at" then _ else _)) = _
  rw [if_neg ne_da, if_pos rfl]
  rfl
def sp_rd_init (K : PySem.W.Frag) (C : Addr) : Sp := fun vs H Q _ => ∃ (B : Hp) (r a dx : Addr) (xs : List V) (cs : List (Addr × HO)), vs = [.ref r, .ref a] ∧ Own B ((r, .ins C dx []) :: cs) H ∧ SqL K H a xs ∧
  ∀ (d : Addr) H', Own B ((d, .lst xs) :: (r, .ins C dx (rd d 0)) :: cs) H' → Q .non H'

theorem ok_Reader___init__ (T : Txt K mg) : FnOk P w K mg base CX0 1 T.a_Reader___init__ T.d_Reader___init__ P_Reader___init__ (sp_rd_init K T.a_Reader) := by
  refine T.F_Reader___init__.ok sc_Reader___init__ (fun vs H Q E h => ?_) (fun cdv A outer s H vs Q E hr h => ?_)
  · obtain ⟨B, r, a, dx, xs, cs, rfl, _⟩ := h
    rfl
  · obtain ⟨B, r, a, dx, xs, cs, rfl, O, hS, q⟩ := h
    refine ⟨_, (pss_cons (ps_fld (pv 0) (pe_callTy call_listU (by rfl) T.z_list (by decide +kernel) (pa_cons (pv 1) pa_nil)) rfl)
        (pss_one (ps_fld (pv 0) pe_int rfl))), ?_⟩
    walk_at "z"
    refine g_listL hS (g_newQ O fun d H1 nd O => ?_)
    walk_at "z"
    refine g_sFldK O 1 rfl T.cl_Reader T.n_Reader_data (by decide) fun H2 O => ?_
    walk_at "z"
    refine g_sFldK O 1 rfl T.cl_Reader T.n_Reader_at (by show 1 < 1000; decide) fun H3 O => ?_
    have O : Own B ((d, .lst xs) :: (r, .ins T.a_Reader dx (putF "at" (.int 0) (putF "data" (.ref d) []))) :: cs) H3 := O
    rw [rd_new] at O
    exact q d H3 O
def sp_rd_byte (K : PySem.W.Frag) (C X : Addr) : Sp := fun vs H Q E => ∃ (B : Hp) (r d dx : Addr) (l : List Nat) (i : Nat) (cs : List (Addr × HO)), vs = [.ref r] ∧ Own B ((r, .ins C dx (rd d (i : Int))) :: cs) H ∧ B d = some (.lst ((nz l).map V.int)) ∧
  (∀ (h : i < l.length) H', Own B ((r, .ins C dx (rd d ((i + 1 : Nat) : Int))) :: cs) H' → Q (.int ((l[i] : Nat) : Int)) H') ∧ (¬ i < l.length → E (.ref X) none H)

theorem ok_Reader_read_byte (T : Txt K mg) : FnOk P w K mg base (L2.CX P w) 1 T.a_Reader_read_byte T.d_Reader_read_byte P_Reader_read_byte (sp_rd_byte K T.a_Reader T.a_DamagedPacket) := by
  refine T.F_Reader_read_byte.okX sc_Reader_read_byte (fun vs H Q E h => ?_) (fun cdv A outer s H vs Q E hr h => ?_)
  · obtain ⟨B, r, d, dx, l, i, cs, rfl, _⟩ := h
    rfl
  · obtain ⟨B, r, d, dx, l, i, cs, rfl, O, hB, q, e⟩ := h
    refine ⟨_, (pss_cons (ps_if (pt_cmpR op_ge (pe_fld (pv 0) rfl) (pe_callB call_lenU (by rfl) T.z_len PySem.boot_len (pa_cons (pe_fld (pv 0) rfl) pa_nil)) (nomark _))
          (pss_one (ps_raiseE rfl (takes_of rfl rfl rfl rfl) T.e_DamagedPacket (by rfl)))
          pss_nil)
        (pss_cons (ps_fldaug (pv 0) pe_int in_add)
        (pss_one (ps_ret (pe_ix ix_seq (pe_fld (pv 0) rfl) (pe_op op_sub (pe_fld (pv 0) rfl) pe_int) (fun _ _ => rfl)))))), ?_⟩
    walk_at "z"
    refine g_fldK (O.get 0) T.cl_Reader T.n_Reader_at (rd_a d _) ?_
    walk_at "z"
    refine g_fldK (O.get 0) T.cl_Reader T.n_Reader_data (rd_d d _) ?_
    walk_at "z"
    have hd : ∀ H', Own B ((r, .ins T.a_Reader dx (rd d ((i + 1 : Nat) : Int))) :: cs) H' → SqL K H' d ((nz l).map V.int) := fun H' O => .inl (.inl (O.fr _ _ hB))
    refine g_lenL (.inl (.inl (O.fr _ _ hB))) ?_
    walk_at "z"
    have hl : ((nz l).map V.int).length = l.length := by rw [List.length_map, nz_len]
    refine ite_d (fun hc => ?_) (fun hc => ?_)
    · walk_at "z"
      exact e (by omega)
    · walk_at "z"
      refine g_fldAugK (O.get 0) T.cl_Reader T.n_Reader_at (rd_a d _) ?_
      walk_at "z"
      refine g_fldAugP O 0 rfl (by show 2 < 1000; decide) fun H1 O => ?_
      rw [rd_put] at O
      walk_at "z"
      have O : Own B ((r, .ins T.a_Reader dx (rd d ((i + 1 : Nat) : Int))) :: cs) H1 := O
      refine g_fldK (O.get 0) T.cl_Reader T.n_Reader_data (rd_d d _) ?_
      walk_at "z"
      refine g_fldK (O.get 0) T.cl_Reader T.n_Reader_at (rd_a d _) ?_
      walk_at "z"
      have hi : i < l.length := by omega
      refine g_ixL (hd _ O) (atI_of (by omega) (nzv_get (l := l) (i := i) (by omega) hi)) ?_
      exact q hi H1 O
def sp_rd_num (K : PySem.W.Frag) (C X : Addr) : Sp := fun vs H Q E => ∃ (B : Hp) (r d dx : Addr) (l : List Nat) (cs : List (Addr × HO)), vs = [.ref r] ∧ Own B ((r, .ins C dx (rd d 0)) :: cs) H ∧ B d = some (.lst ((nz l).map V.int)) ∧
  (∀ v n H', rnum 60 0 0 1 l = some (v, n) → Own B ((r, .ins C dx (rd d ((n : Nat) : Int))) :: cs) H' → Q (.int ((v : Nat) : Int)) H') ∧ (rnum 60 0 0 1 l = none → ∀ (i : Int) H', Own B ((r, .ins C dx (rd d i)) :: cs) H' → E (.ref X) none H')

theorem ok_Reader_read_number (T : Txt K mg) : FnOk P w K mg base (L2.CX P w) 2 T.a_Reader_read_number T.d_Reader_read_number P_Reader_read_number (sp_rd_num K T.a_Reader T.a_DamagedPacket) := by
  refine T.F_Reader_read_number.okX sc_Reader_read_number (fun vs H Q E h => ?_) (fun cdv A outer s H vs Q E hr h => ?_)
  · obtain ⟨B, r, d, dx, l, cs, rfl, _⟩ := h
    rfl
  · obtain ⟨B, r, d, dx, l, cs, rfl, O, hB, q, e⟩ := h
    refine ⟨_, (pss_cons (ps_set (i := 1) sc_Reader_read_number.nd rfl (Or.inl rfl) pe_int)
        (pss_cons (ps_set (i := 2) sc_Reader_read_number.nd rfl (Or.inl rfl) pe_int)
        (pss_cons (ps_for (passes_of rfl) rfl (pi_range1 (by rfl) T.z_range (pa_cons (pe_glob (by rfl) T.c_NUMBER_BYTES T.r_NUMBER_BYTES) pa_nil)) (pg_name (i := 3) sc_Reader_read_number.nd rfl (Or.inl rfl))
          (pss_cons (ps_set (i := 4) sc_Reader_read_number.nd rfl (Or.inl rfl) (pe_methX0 (pv 0) T.cl_Reader T.m_Reader_read_byte (ok_Reader_read_byte T) (hr.mono (by omega)) T.b_Reader_read_byte (fun σ => passAt (takes_of rfl rfl rfl rfl) σ)))
        (pss_cons (ps_aug (i := 1) sc_Reader_read_number.nd rfl (Or.inl rfl) (pe_op op_mulU (pe_op op_mod (pv 4) pe_int) (pv 2)) ip_add)
        (pss_cons (ps_if (pt_cmpR op_lt (pv 4) pe_int (nomark _))
          (pss_cons (ps_if (PW.pt (pw_and (pt_cmpR (op_eqU (hu64 hr)) (pv 4) pe_int (nomark _)) (pw_and1 (pt_cmpR op_gt (pv 3) pe_int (nomark _)))))
          (pss_one (ps_raiseE rfl (takes_of rfl rfl rfl rfl) T.e_DamagedPacket (by rfl)))
          pss_nil)
        (pss_one (ps_ret (pv 1))))
          pss_nil)
        (pss_one (ps_set (i := 2) sc_Reader_read_number.nd rfl (Or.inl rfl) (pe_op op_mulU (pv 2) pe_int)))))))
        (pss_one (ps_raiseE rfl (takes_of rfl rfl rfl rfl) T.e_DamagedPacket (by rfl)))))), ?_⟩
    walk_at "z"
    refine forB_rng0 (fun i σ H' => ∃ (t f : Nat) (x3 x4 : Option V), σ = [some (.ref r), some (.int ((t : Nat) : Int)), some (.int ((f : Nat) : Int)), x3, x4] ∧ Own B ((r, .ins T.a_Reader dx (rd d ((i : Nat) : Int))) :: cs) H' ∧ rnum (60 - i) i t f (l.drop i) = rnum 60 0 0 1 l) ?_ ?_ ?_
    · exact ⟨0, 1, none, none, rfl, O, rfl⟩
    · clear O
      rintro i σ H1 hi ⟨t, f, x3, x4, rfl, O, hr⟩
      obtain ⟨k, hk⟩ : ∃ k, 60 - i = k + 1 := ⟨60 - i - 1, by omega⟩
      rw [hk] at hr
      walk_at "z"
      refine g_methXK (O.get 0) (rd_n d _ (by decide +kernel) (by decide +kernel)) ?_
      walk_at "z"
      refine ⟨B, r, d, dx, l, i, cs, rfl, O, hB, fun hi2 H2 O => ?_, fun hi2 => ?_⟩
      · rw [List.drop_eq_getElem_cons hi2] at hr
        have hr : (if l[i] < 128 then (if l[i] = 0 ∧ 0 < i then none else some (t + l[i] % 128 * f, i + 1)) else rnum k (i + 1) (t + l[i] % 128 * f) (f * 128) (l.drop (i + 1))) = rnum 60 0 0 1 l := hr
        have e1 : ((t : Nat) : Int) + ((l[i] : Nat) : Int) % 128 * ((f : Nat) : Int) = ((t + l[i] % 128 * f : Nat) : Int) := by
          rw [Int.natCast_add, Int.natCast_mul]
          rfl
        walk_at "z"
        rw [e1]
        walk_at "z"
        refine ite_d (fun hc => ?_) (fun hc => ?_)
        · rw [if_pos (by omega)] at hr
          have fin : ¬ (l[i] = 0 ∧ 0 < i) → Q (.int ((t + l[i] % 128 * f : Nat) : Int)) H2 := fun h0 => by
            rw [if_neg h0] at hr
            exact q _ _ H2 hr.symm O
          walk_at "z"
          refine ite_d (fun h1 => ?_) (fun h1 => ?_)
          · walk_at "z"
            refine ite_d (fun h2 => ?_) (fun h2 => ?_)
            · walk_at "z"
              rw [if_pos ⟨by omega, by omega⟩] at hr
              exact e hr.symm _ H2 O
            · walk_at "z"
              exact fin (by omega)
          · refine iteF ?_
            walk_at "z"
            exact fin (by omega)
        · rw [if_neg (by omega)] at hr
          walk_at "z"
          refine ⟨t + l[i] % 128 * f, f * 128, some (.int (i : Int)), some (.int ((l[i] : Nat) : Int)), ?_, O, ?_⟩
          · rw [Int.natCast_mul]
            rfl
          · rw [show 60 - (i + 1) = k by omega]
            exact hr
      · rw [List.drop_eq_nil_of_le (by omega)] at hr
        exact e hr.symm _ H1 O
    · clear O
      rintro σ H1 ⟨t, f, x3, x4, rfl, O, hr⟩
      walk_at "z"
      exact e hr.symm _ H1 O
def sp_rsize (K : PySem.W.Frag) : Sp := fun vs H Q _ => ∃ (a : Addr) (l : List Nat) (s : Nat), vs = [.ref a, .int ((s : Nat) : Int)] ∧ SqL K H a ((nz l).map V.int) ∧ (rnum 60 0 0 1 ((l.drop s).take 60) = none → ∀ H', Same H H' → Q .non H') ∧
  (∀ v n, rnum 60 0 0 1 ((l.drop s).take 60) = some (v, n) → ∀ (p : Addr) H', Same H H' → H p = none → H' p = some (.tup [.int ((s + n : Nat) : Int), .int ((v : Nat) : Int)]) → Q (.ref p) H')

theorem ok__read_size (T : Txt K mg) : FnOk P w K mg base CX0 3 T.a__read_size T.d__read_size P__read_size (sp_rsize K) := by
  refine T.F__read_size.ok sc__read_size (fun vs H Q E h => ?_) (fun cdv A outer s H vs Q E hr h => ?_)
  · obtain ⟨a, l, s, rfl, _⟩ := h
    rfl
  · obtain ⟨a, l, s, rfl, hS, qn, qs⟩ := h
    refine ⟨_, (pss_cons (ps_set (i := 2) sc__read_size.nd rfl (Or.inl rfl) (pe_make T.M_Reader (ok_Reader___init__ T) (hr.mono (by omega)) (by rfl) T.g_Reader T.b_Reader___init__ .nil pass0 (pa_cons (pe_slice sl_U (pv 0) (po_some (pv 1)) (po_some (pe_op op_addU (pv 1) pe_int))) pa_nil)))
        (pss_cons (ps_try_only rfl rfl ⟨rfl, by decide, .inl T.e_DamagedPacket.gP⟩ takes0 (fun W pn xe tk hp => (pss_one (ps_set (i := 3) sc__read_size.nd rfl (Or.inl rfl) (pe_methX0 (pv 2) T.cl_Reader T.m_Reader_read_number (ok_Reader_read_number T) (hr.mono (by omega)) T.b_Reader_read_number (fun σ => passAt tk σ))))) (fun a oe cls d pn _ _ => (pss_one (ps_ret pe_non))))
        (pss_one (ps_ret (pe_tup (pa_cons (pe_op op_addU (pv 1) (pe_fld (pv 2) rfl)) (pa_cons (pv 3) pa_nil))))))), ?_⟩
    walk_at "z"
    rw [show ((s : Nat) : Int) + 60 = ((s + 60 : Nat) : Int) from rfl]
    refine g_slL hS (g_newQ (Own.start H) fun c H1 nc O => ?_)
    rw [cut_mid, ← List.map_drop, ← List.map_take, nz_drop, nz_take, show s + 60 - s = 60 by omega] at O
    walk_at "z"
    refine g_makeK O fun r dx H2 nr O => ?_
    refine ⟨H, r, c, dx, _, _, rfl, O, O.lst 1, fun d H3 O => ⟨rfl, ?_⟩⟩
    have e1 := O.freezeB
    have hd : upd H d (.lst ((nz ((l.drop s).take 60)).map V.int)) d = some (.lst ((nz ((l.drop s).take 60)).map V.int)) := upd_same
    have O := O.freeze
    generalize upd H d (.lst ((nz ((l.drop s).take 60)).map V.int)) = B at O e1 hd
    walk_at "z"
    refine g_methXK (O.get 0) (rd_n d _ (by decide +kernel) (by decide +kernel)) ?_
    walk_at "z"
    refine ⟨B, r, d, dx, _, _, rfl, O, hd, fun v n H4 hv O => ?_, fun hn i H4 O => ?_⟩
    · walk_at "z"
      refine g_fldK (O.get 0) T.cl_Reader T.n_Reader_at (rd_a d _) ?_
      walk_at "z"
      refine g_new (small_le (by simp)) O fun p H5 np O2 => ?_
      exact qs v n hv p H5 (e1.trans O2.fr) (none_of e1 (O2.out _ (.head _))) (O2.get 0)
    · exact ⟨true, T.e_DamagedPacket.eP, fun _ _ _ => qn hn H4 (e1.trans O.fr), fun h => nomatch h⟩

def sp_ck (K : PySem.W.Frag) : Sp := fun vs H Q _ => ∃ (a : Addr) (l : List Nat), vs = [.ref a] ∧ SqL K H a ((nz l).map V.int) ∧ Q (.int ((ck l : Nat) : Int)) H
theorem nzv_of {l : List Nat} {i : Nat} {x : V} (h : ((nz l).map V.int)[i]? = some x) : ∃ hi : i < l.length, x = .int ((l[i] : Nat) : Int) := by
  obtain ⟨hi, _⟩ := List.getElem?_eq_some_iff.mp h
  rw [List.length_map, nz_len] at hi
  refine ⟨hi, ?_⟩
  have := nzv_get (l := l) (i := i) (j := (i : Int)) (by omega) hi
  rw [show ((i : Int)).toNat = i by omega, h] at this
  exact Option.some.inj this
def sp_num (K : PySem.W.Frag) : Sp := fun vs H Q _ => ∃ n : Nat, vs = [.int ((n : Nat) : Int)] ∧ n ≤ 2000000 ∧ ∀ (p : Addr) H', Same H H' → H p = none → H' p = some (.lst ((nz (num n)).map V.int)) → Q (.ref p) H'

theorem ok_checksum (T : Txt K mg) : FnOk P w K mg base CX0 1 T.a_checksum T.d_checksum P_checksum (sp_ck K) := by
  refine T.F_checksum.ok sc_checksum (fun vs H Q E h => ?_) (fun cdv A outer s H vs Q E hr h => ?_)
  · obtain ⟨a, l, rfl, _⟩ := h
    rfl
  · obtain ⟨a, l, rfl, hS, q⟩ := h
    refine ⟨_, (pss_cons (ps_set (i := 1) sc_checksum.nd rfl (Or.inl rfl) pe_int)
        (pss_cons (ps_for PassesOwn.never rfl (pi_list (pv 0)) (pg_name (i := 2) sc_checksum.nd rfl (Or.inl rfl))
          (pss_one (ps_set (i := 1) sc_checksum.nd rfl (Or.inl rfl) (pe_op op_mod (pe_op op_addU (pe_op op_addU (pe_op op_mulU pe_int (pv 1)) (pv 2)) pe_int) (pe_glob (by rfl) T.c_CHECKSUM_LIMIT T.r_CHECKSUM_LIMIT)))))
        (pss_one (ps_ret (pv 1))))), ?_⟩
    walk_at "z"
    refine g_iListv hS ?_
    refine forB_list ((nz l).map V.int) (fun i σ H' => ∃ x2, σ = [some (.ref a), some (.int ((ckT 7 (l.take i) : Nat) : Int)), x2] ∧ H' = H) ?_ ?_ ?_ ?_
    · exact ⟨none, rfl, rfl⟩
    · rintro i σ H' _ ⟨x2, rfl, rfl⟩
      exact hS
    · rintro i x σ H' hx ⟨x2, rfl, rfl⟩
      obtain ⟨hi, rfl⟩ := nzv_of hx
      walk_at "z"
      refine ⟨some (.int ((l[i] : Nat) : Int)), ?_, rfl⟩
      rw [ckT_take hi]
      have e : (31 * ((ckT 7 (l.take i) : Nat) : Int) + ((l[i] : Nat) : Int) + 1) % 4294967296 = ((ckf (ckT 7 (l.take i)) l[i] : Nat) : Int) := by unfold ckf; omega
      rw [e]
      rfl
    · rintro σ H' ⟨x2, rfl, rfl⟩
      walk_at "z"
      rw [List.length_map, nz_len, List.take_length]
      exact q
theorem ok__law_checksum (T : Txt K mg) : FnOk P w K mg base CX0 1 T.a__law_checksum T.d__law_checksum P__law_checksum (sp_ck K) := by
  refine T.F__law_checksum.ok sc__law_checksum (fun vs H Q E h => ?_) (fun cdv A outer s H vs Q E hr h => ?_)
  · obtain ⟨a, l, rfl, _⟩ := h
    rfl
  · obtain ⟨a, l, rfl, hS, q⟩ := h
    refine ⟨_, (pss_cons (ps_set (i := 1) sc__law_checksum.nd rfl (Or.inl rfl) pe_int)
        (pss_cons (ps_for PassesOwn.never rfl (pi_list (pv 0)) (pg_name (i := 2) sc__law_checksum.nd rfl (Or.inl rfl))
          (pss_one (ps_set (i := 1) sc__law_checksum.nd rfl (Or.inl rfl) (pe_op op_mod (pe_op op_addU (pe_op op_addU (pe_op op_mulU pe_int (pv 1)) (pv 2)) pe_int) pe_int))))
        (pss_one (ps_ret (pv 1))))), ?_⟩
    walk_at "z"
    refine g_iListv hS ?_
    refine forB_list ((nz l).map V.int) (fun i σ H' => ∃ x2, σ = [some (.ref a), some (.int ((ckT 7 (l.take i) : Nat) : Int)), x2] ∧ H' = H) ?_ ?_ ?_ ?_
    · exact ⟨none, rfl, rfl⟩
    · rintro i σ H' _ ⟨x2, rfl, rfl⟩
      exact hS
    · rintro i x σ H' hx ⟨x2, rfl, rfl⟩
      obtain ⟨hi, rfl⟩ := nzv_of hx
      walk_at "z"
      refine ⟨some (.int ((l[i] : Nat) : Int)), ?_, rfl⟩
      rw [ckT_take hi]
      have e : (31 * ((ckT 7 (l.take i) : Nat) : Int) + ((l[i] : Nat) : Int) + 1) % 4294967296 = ((ckf (ckT 7 (l.take i)) l[i] : Nat) : Int) := by unfold ckf; omega
      rw [e]
      rfl
    · rintro σ H' ⟨x2, rfl, rfl⟩
      walk_at "z"
      rw [List.length_map, nz_len, List.take_length]
      exact q
theorem ok_write_number (T : Txt K mg) : FnOk P w K mg base CX0 1 T.a_write_number T.d_write_number P_write_number (sp_num K) := by
  refine T.F_write_number.ok sc_write_number (fun vs H Q E h => ?_) (fun cdv A outer s H vs Q E hr h => ?_)
  · obtain ⟨n, rfl, _⟩ := h
    rfl
  · obtain ⟨n, rfl, hn, q⟩ := h
    refine ⟨_, (pss_cons (ps_set (i := 1) sc_write_number.nd rfl (Or.inl rfl) (pe_lst pa_nil))
        (pss_cons (ps_while PassesOwn.never (pt_cmpR op_ge (pv 0) pe_int (nomark _))
          (pss_cons (ps_expr (pe_bm PySem.F.plainAttrs_list PySem.F.slot_list_append PySem.F.type_list_append mt_append (pv 1) (pa_cons (pe_op op_addU (pe_op op_mod (pv 0) pe_int) pe_int) pa_nil)))
        (pss_one (ps_set (i := 0) sc_write_number.nd rfl (Or.inl rfl) (pe_op op_fdiv (pv 0) pe_int)))))
        (pss_one (ps_ret (pe_op op_addU (pv 1) (pe_lst (pa_cons (pv 0) pa_nil))))))), ?_⟩
    walk_at "z"
    refine g_new (Nat.zero_le _) (Own.start H) fun p H1 np O => ?_
    walk_at "z"
    have hl := num_len 3 n (by show _ < 2097152; omega)
    refine g_while (fun m σ H' => ∃ pre : List Nat, σ = [some (.int ((m : Nat) : Int)), some (.ref p)] ∧ Own H [(p, .lst ((nz pre).map V.int))] H' ∧ pre ++ num m = num n) n ⟨[], rfl, O, rfl⟩ ?_
    clear O
    rintro m σ H2 ⟨pre, rfl, O, hp⟩
    have hl2 := congrArg List.length hp
    rw [List.length_append] at hl2
    walk_at "z"
    refine ite_d (fun hc => ?_) (fun hc => ?_)
    · refine g_whB ?_
      walk_at "z"
      refine g_tyL (O.lst 0) ?_
      walk_at "z"
      refine g_append O 0 rfl (small_of (by rw [List.length_map, nz_len]; omega)) fun H3 O => ?_
      walk_at "z"
      refine ⟨m / 128, by omega, pre ++ [m % 128 + 128], rfl, ?_, ?_⟩
      · rw [nz_app, List.map_append]
        first
          | exact O
          | (rw [Nat.add_comm (m % 128) 128]; exact O)
      · rw [← hp, num_big (n := m) (by omega), List.append_assoc]
        rfl
    · rw [num_small (by omega)] at hp
      walk_at "z"
      refine g_new (small_le (by simp)) O fun p2 H3 np2 O => ?_
      refine g_addL (O.get 1) (O.get 0) (by rw [List.length_map, nz_len]; exact small_le (by show _ + 1 ≤ _; omega)) (g_newQ O fun p3 H4 np3 O => ?_)
      refine q p3 H4 O.fr (O.out _ (.head _)) ?_
      have h := O.get 0
      rw [← hp, nz_app, List.map_append]
      exact h
theorem ok__law_number (T : Txt K mg) : FnOk P w K mg base CX0 1 T.a__law_number T.d__law_number P__law_number (sp_num K) := by
  refine T.F__law_number.ok sc__law_number (fun vs H Q E h => ?_) (fun cdv A outer s H vs Q E hr h => ?_)
  · obtain ⟨n, rfl, _⟩ := h
    rfl
  · obtain ⟨n, rfl, hn, q⟩ := h
    refine ⟨_, (pss_cons (ps_set (i := 1) sc__law_number.nd rfl (Or.inl rfl) (pe_lst pa_nil))
        (pss_cons (ps_while PassesOwn.never (pt_cmpR op_gt (pv 0) pe_int (nomark _))
          (pss_cons (ps_expr (pe_bm PySem.F.plainAttrs_list PySem.F.slot_list_append PySem.F.type_list_append mt_append (pv 1) (pa_cons (pe_op op_addU pe_int (pe_op op_mod (pv 0) pe_int)) pa_nil)))
        (pss_one (ps_set (i := 0) sc__law_number.nd rfl (Or.inl rfl) (pe_op op_fdiv (pv 0) pe_int)))))
        (pss_one (ps_ret (pe_op op_addU (pv 1) (pe_lst (pa_cons (pv 0) pa_nil))))))), ?_⟩
    walk_at "z"
    refine g_new (Nat.zero_le _) (Own.start H) fun p H1 np O => ?_
    walk_at "z"
    have hl := num_len 3 n (by show _ < 2097152; omega)
    refine g_while (fun m σ H' => ∃ pre : List Nat, σ = [some (.int ((m : Nat) : Int)), some (.ref p)] ∧ Own H [(p, .lst ((nz pre).map V.int))] H' ∧ pre ++ num m = num n) n ⟨[], rfl, O, rfl⟩ ?_
    clear O
    rintro m σ H2 ⟨pre, rfl, O, hp⟩
    have hl2 := congrArg List.length hp
    rw [List.length_append] at hl2
    walk_at "z"
    refine ite_d (fun hc => ?_) (fun hc => ?_)
    · refine g_whB ?_
      walk_at "z"
      refine g_tyL (O.lst 0) ?_
      walk_at "z"
      refine g_append O 0 rfl (small_of (by rw [List.length_map, nz_len]; omega)) fun H3 O => ?_
      walk_at "z"
      refine ⟨m / 128, by omega, pre ++ [m % 128 + 128], rfl, ?_, ?_⟩
      · rw [nz_app, List.map_append]
        first
          | exact O
          | (rw [Nat.add_comm (m % 128) 128]; exact O)
      · rw [← hp, num_big (n := m) (by omega), List.append_assoc]
        rfl
    · rw [num_small (by omega)] at hp
      walk_at "z"
      refine g_new (small_le (by simp)) O fun p2 H3 np2 O => ?_
      refine g_addL (O.get 1) (O.get 0) (by rw [List.length_map, nz_len]; exact small_le (by show _ + 1 ≤ _; omega)) (g_newQ O fun p3 H4 np3 O => ?_)
      refine q p3 H4 O.fr (O.out _ (.head _)) ?_
      have h := O.get 0
      rw [← hp, nz_app, List.map_append]
      exact h
def sp_wrec (K : PySem.W.Frag) : Sp := fun vs H Q _ => ∃ (a : Addr) (l : List Nat), vs = [.ref a] ∧ SqL K H a ((nz l).map V.int) ∧ l.length ≤ 2000000 ∧ ∀ (p : Addr) H', Same H H' → H p = none → H' p = some (.lst ((nz (recd l)).map V.int)) → Q (.ref p) H'

theorem ok_write_record (T : Txt K mg) : FnOk P w K mg base CX0 3 T.a_write_record T.d_write_record P_write_record (sp_wrec K) := by
  refine T.F_write_record.ok sc_write_record (fun vs H Q E h => ?_) (fun cdv A outer s H vs Q E hr h => ?_)
  · obtain ⟨a, l, rfl, _⟩ := h
    rfl
  · obtain ⟨a, l, rfl, hS, hl, q⟩ := h
    refine ⟨_, (pss_cons (ps_set (i := 1) sc_write_record.nd rfl (Or.inl rfl) (pe_call (ok_checksum T) (hr.mono (by omega)) (by rfl) T.g_checksum T.F_checksum.kp T.b_checksum .nil pass0 (pa_cons (pv 0) pa_nil)))
        (pss_cons (ps_set (i := 2) sc_write_record.nd rfl (Or.inl rfl) (pe_lst (pa_cons (pe_op op_fdiv (pv 1) pe_int) (pa_cons (pe_op op_mod (pe_op op_fdiv (pv 1) pe_int) pe_int) (pa_cons (pe_op op_mod (pe_op op_fdiv (pv 1) pe_int) pe_int) (pa_cons (pe_op op_mod (pv 1) pe_int) pa_nil))))))
        (pss_one (ps_ret (pe_op op_addU (pe_op op_addU (pe_call (ok_write_number T) (hr.mono (by omega)) (by rfl) T.g_write_number T.F_write_number.kp T.b_write_number .nil pass0 (pa_cons (pe_callB call_lenU (by rfl) T.z_len PySem.boot_len (pa_cons (pv 0) pa_nil)) pa_nil)) (pe_callTy call_listU (by rfl) T.z_list (by decide +kernel) (pa_cons (pv 0) pa_nil))) (pv 2)))))), ?_⟩
    walk_at "z"
    refine ⟨a, l, rfl, hS, ?_⟩
    walk_at "z"
    refine g_new (small_le (by simp)) (Own.start H) fun t H1 nt O => ?_
    walk_at "z"
    have hlm : ((nz l).map V.int).length = l.length := by rw [List.length_map, nz_len]
    refine g_lenL (O.fr.seq hS) ?_
    walk_at "z"
    refine ⟨l.length, by rw [hlm]; rfl, hl, fun p1 H2 e2 np1 h1 => ?_⟩
    have O := O.new e2 np1 h1
    walk_at "z"
    refine g_listL (O.fr.seq hS) (g_newQ O fun p2 H3 np2 O => ?_)
    have hn := num_len 3 l.length (by show _ < 2097152; omega)
    refine g_addL (O.get 1) (O.get 0) (by rw [List.length_map, nz_len, hlm]; exact small_le (by omega)) (g_newQ O fun p3 H4 np3 O => ?_)
    walk_at "z"
    refine g_addL (O.get 0) (O.get 3) (by rw [List.length_append, List.length_map, nz_len, hlm]; exact small_le (by show _ + _ + 4 ≤ _; omega)) (g_newQ O fun p4 H5 np4 O => ?_)
    refine q p4 H5 O.fr (O.out _ (.head _)) ?_
    have h := O.get 0
    unfold recd
    rw [nz_app, nz_app, List.map_append, List.map_append]
    exact h
def encR (r : List Nat) : PyData := .list ((nz r).map PyData.int)
def encRR (rs : List (List Nat)) (n : Nat) : PyData := .tuple [.list (rs.map encR), .int ((n : Nat) : Int)]
theorem last4 (a t : List V) (h : t.length = 4) : cutV (a ++ t) (some (-4)) none = t := by
  unfold cutV
  rw [HT.sIx_none]
  have e : HT.sIx (a ++ t).length 0 (some (-4)) = a.length := by
    rw [List.length_append, h]
    unfold HT.sIx
    simp
    omega
  rw [e, List.drop_left, List.take_of_length_le]
  rw [List.length_append]
  omega
theorem reads_none {l : List Nat} {rs : List (List Nat)} {n : Nat} (h : stp l = none) (R : Reads l rs n) : rs = [] ∧ n = 0 := by
  cases R with
  | stop _ => exact ⟨rfl, rfl⟩
  | more h2 _ => rw [h] at h2; exact nomatch h2
theorem reads_some {l r : List Nat} {k : Nat} {rs : List (List Nat)} {n : Nat} (h : stp l = some (r, k)) (R : Reads l rs n) : ∃ rs' n', rs = r :: rs' ∧ n = k + n' ∧ Reads (l.drop k) rs' n' := by
  cases R with
  | stop h2 => rw [h] at h2; exact nomatch h2
  | more h2 R =>
    rw [h] at h2
    injection h2 with h2
    injection h2 with h3 h4
    subst h3 h4
    exact ⟨_, _, rfl, rfl, R⟩
def Fnd (l : List Nat) (s : Nat) (B : Hp) (x : V) : Prop := (rnum 60 0 0 1 ((l.drop s).take 60) = none → x = .non) ∧ (∀ v j, rnum 60 0 0 1 ((l.drop s).take 60) = some (v, j) → ∃ q, x = .ref q ∧ B q = some (.tup [.int ((s + j : Nat) : Int), .int ((v : Nat) : Int)]))
theorem rs_call {a : Addr} {l : List Nat} {s : Nat} {H B H1 : Hp} {cs : List (Addr × HO)} {Q : VK} {E : XK} (hS : SqL K H a ((nz l).map V.int)) (eB : Same H B) (O : Own B cs H1) (k : ∀ x B' H', Same B B' → Own B' cs H' → Fnd l s B' x → Q x H') : sp_rsize K [.ref a, .int ((s : Nat) : Int)] H1 Q E :=
  ⟨a, l, s, rfl, O.fr.seq (eB.seq hS), fun hn H2 e => k .non B H2 (Same.refl _) (O.ex e) ⟨fun _ => rfl, fun v j h => by rw [hn] at h; exact nomatch h⟩, fun v j hv q H2 e nq hq => by
    have O := O.new e nq hq
    refine k (.ref q) _ H2 O.freezeB O.freeze ⟨fun h => by rw [hv] at h; exact (nomatch h), fun v' j' h => ?_⟩
    rw [hv] at h
    injection h with h
    injection h with h1 h2
    subst h1 h2
    exact ⟨q, rfl, upd_same⟩⟩
def rinv (K : PySem.W.Frag) (a p : Addr) (H : Hp) (l : List Nat) (rs : List (List Nat)) (n m : Nat) (σ : L2.St) (H' : Hp) : Prop :=
  ∃ (B : Hp) (ws : List V) (done rest : List (List Nat)) (s k : Nat) (x3 : V) (x4 x5 x6 x7 : Option V), σ = [some (.ref a), some (.ref p), some (.int ((s : Nat) : Int)), some x3, x4, x5, x6, x7] ∧ Same H B ∧ Own B [(p, .lst ws)] H' ∧ DpAll K B ws (done.map encR) ∧
    Reads (l.drop s) rest k ∧ done ++ rest = rs ∧ s + k = n ∧ m + s = l.length ∧ done.length ≤ s ∧ Fnd l s B x3

def sp_rrec (K : PySem.W.Frag) : Sp := fun vs H Q _ => ∃ (a : Addr) (l : List Nat) (rs : List (List Nat)) (n : Nat), vs = [.ref a] ∧ SqL K H a ((nz l).map V.int) ∧ l.length ≤ 2000000 ∧ Reads l rs n ∧ ∀ (v : V) H', Same H H' → Dp K H' v (encRR rs n) → Q v H'

theorem ok_read_records (T : Txt K mg) : FnOk P w K mg base CX0 4 T.a_read_records T.d_read_records P_read_records (sp_rrec K) := by
  refine T.F_read_records.ok sc_read_records (fun vs H Q E h => ?_) (fun cdv A outer s H vs Q E hr h => ?_)
  · obtain ⟨a, l, rs, n, rfl, _⟩ := h
    rfl
  · obtain ⟨a, l, rs, n, rfl, hS, hl, hR, q⟩ := h
    refine ⟨_, (pss_cons (ps_set (i := 1) sc_read_records.nd rfl (Or.inl rfl) (pe_lst pa_nil))
        (pss_cons (ps_set (i := 2) sc_read_records.nd rfl (Or.inl rfl) pe_int)
        (pss_cons (ps_set (i := 3) sc_read_records.nd rfl (Or.inl rfl) (pe_call (ok__read_size T) (hr.mono (by omega)) (by rfl) T.g__read_size T.F__read_size.kp T.b__read_size .nil pass0 (pa_cons (pv 0) (pa_cons (pv 2) pa_nil))))
        (Evl.pss_cut (ps_while PassesOwn.never (pt_cmpR op_notNU (pv 3) pe_non (nomark _))
          (pss_cons (ps_asg (pv 3) (pg_tup rfl (pgs_cons (pg_name (i := 4) sc_read_records.nd rfl (Or.inl rfl)) (pgs_cons (pg_name (i := 5) sc_read_records.nd rfl (Or.inl rfl)) pgs_nil))))
        (pss_cons (ps_set (i := 6) sc_read_records.nd rfl (Or.inl rfl) (pe_slice sl_U (pv 0) (po_some (pv 4)) (po_some (pe_op op_addU (pv 4) (pv 5)))))
        (pss_cons (ps_set (i := 7) sc_read_records.nd rfl (Or.inl rfl) (pe_op op_addU (pe_op op_addU (pv 4) (pv 5)) pe_int))
        (pss_cons (ps_if (PW.pt (pw_or (pt_cmpR op_gt (pv 7) (pe_callB call_lenU (by rfl) T.z_len PySem.boot_len (pa_cons (pv 0) pa_nil)) (nomark _)) (pw_or1 (pt_cmpR (op_neU (hu64 hr)) (pe_slice sl_U (pe_call (ok_write_record T) (hr.mono (by omega)) (by rfl) T.g_write_record T.F_write_record.kp T.b_write_record .nil pass0 (pa_cons (pv 6) pa_nil)) (po_some (pe_un un_neg pe_int)) po_none) (pe_slice sl_U (pv 0) (po_some (pe_op op_sub (pv 7) pe_int)) (po_some (pv 7))) (nomark _)))))
          (pss_one ps_break)
          pss_nil)
        (pss_cons (ps_expr (pe_bm PySem.F.plainAttrs_list PySem.F.slot_list_append PySem.F.type_list_append mt_append (pv 1) (pa_cons (pv 6) pa_nil)))
        (pss_cons (ps_set (i := 2) sc_read_records.nd rfl (Or.inl rfl) (pv 7))
        (pss_one (ps_set (i := 3) sc_read_records.nd rfl (Or.inl rfl) (pe_call (ok__read_size T) (hr.mono (by omega)) (by rfl) T.g__read_size T.F__read_size.kp T.b__read_size .nil pass0 (pa_cons (pv 0) (pa_cons (pv 2) pa_nil))))))))))))
        (pss_one (ps_ret (pe_tup (pa_cons (pv 1) (pa_cons (pv 2) pa_nil))))))))), ?_⟩
    have hlm : ((nz l).map V.int).length = l.length := by rw [List.length_map, nz_len]
    walk_at "z"
    refine g_new (Nat.zero_le _) (Own.start H) fun p H1 np O => ?_
    walk_at "z"
    refine rs_call (s := 0) hS (Same.refl _) O fun x0 B0 H2 eB0 O F0 => ?_
    walk_at "z"
    refine ⟨fun σ H' => ∃ (B : Hp) (ws : List V) (x3 x4 x5 x6 x7 : Option V), σ = [some (.ref a), some (.ref p), some (.int ((n : Nat) : Int)), x3, x4, x5, x6, x7] ∧ Same H B ∧ Own B [(p, .lst ws)] H' ∧ DpAll K B ws (rs.map encR), ?_, ?_⟩
    · refine g_while (rinv K a p H l rs n) l.length ⟨B0, [], [], rs, 0, n, x0, none, none, none, none, rfl, eB0, O, .nil, hR, rfl, Nat.zero_add _, rfl, Nat.zero_le _, F0⟩ ?_
      clear hR O F0
      rintro m σ H2 ⟨B, ws, done, rest, s, k, x3, x4, x5, x6, x7, rfl, eB, O, hD, hR, hd, hn, hm, hdl, fn, fs⟩
      have fin : stp (l.drop s) = none → ∀ (x3 x4 x5 x6 x7 : Option V) H', Own B [(p, .lst ws)] H' → ∃ (B : Hp) (ws : List V) (y3 y4 y5 y6 y7 : Option V), [some (.ref a), some (.ref p), some (.int ((s : Nat) : Int)), x3, x4, x5, x6, x7] = [some (.ref a), some (.ref p), some (.int ((n : Nat) : Int)), y3, y4, y5, y6, y7] ∧ Same H B ∧ Own B [(p, .lst ws)] H' ∧ DpAll K B ws (rs.map encR) := fun h x3 x4 x5 x6 x7 H' O => by
        obtain ⟨r0, k0⟩ := reads_none h hR
        have h1 : s = n := by omega
        rw [r0, List.append_nil] at hd
        rw [h1]
        rw [hd] at hD
        exact ⟨B, ws, _, _, _, _, _, rfl, eB, O, hD⟩
      walk_at "z"
      cases hr : rnum 60 0 0 1 ((l.drop s).take 60) with
      | none =>
        obtain rfl := fn hr
        refine ite_nd (fun hx => absurd rfl hx) (fun _ => ?_)
        exact fin (by unfold stp; rw [hr]) _ _ _ _ _ H2 O
      | some vj =>
        obtain ⟨v, j⟩ := vj
        obtain ⟨q0, rfl, hq0⟩ := fs v j hr
        have hst : stp (l.drop s) = if s + j + v + 4 ≤ l.length ∧ tail4 (ck ((l.drop (s + j)).take v)) = (l.drop (s + j + v)).take 4 then some ((l.drop (s + j)).take v, j + v + 4) else none := by
          unfold stp
          rw [hr]
          dsimp only
          rw [List.drop_drop, List.drop_drop, List.length_drop, ← Nat.add_assoc s j v]
          have e : (j + v + 4 ≤ l.length - s) ↔ (s + j + v + 4 ≤ l.length) := by omega
          simp only [e]
        refine ite_nd (fun _ => ?_) (fun hx => nomatch hx)
        refine g_whB ?_
        walk_at "z"
        refine g_gtup (.inl (.inl (O.fr _ _ hq0))) rfl ?_
        walk_at "z"
        rw [show ((s + j : Nat) : Int) + ((v : Nat) : Int) = ((s + j + v : Nat) : Int) from rfl]
        refine g_slL (O.fr.seq (eB.seq hS)) (g_newQ O fun r H3 nr O => ?_)
        rw [cut_mid, ← List.map_drop, ← List.map_take, nz_drop, nz_take, show s + j + v - (s + j) = v by omega] at O
        have hdl2 : ((l.drop (s + j)).take v).length ≤ l.length := by rw [List.length_take, List.length_drop]; omega
        generalize (l.drop (s + j)).take v = d at hst hdl2 O
        walk_at "z"
        refine g_lenL (O.fr.seq (eB.seq hS)) ?_
        walk_at "z"
        refine ite_d (fun hgt => ?_) (fun hle => ?_)
        · refine iteT ?_
          walk_at "z"
          exact fin (by rw [hst, if_neg (fun h => by omega)]) _ _ _ _ _ _ O.tail
        · walk_at "z"
          refine ⟨r, d, rfl, O.lst 0, by omega, fun w1 H4 e4 nw1 hw1 => ?_⟩
          have O := O.new e4 nw1 hw1
          walk_at "z"
          refine g_slL (O.lst 0) (g_newQ O fun w2 H5 nw2 O => ?_)
          have e5 : cutV ((nz (recd d)).map V.int) (some (-4)) none = (nz (tail4 (ck d))).map V.int := by
            unfold recd
            rw [nz_app, List.map_append]
            exact last4 _ _ rfl
          rw [e5] at O
          walk_at "z"
          rw [show ((s + j : Nat) : Int) + ((v : Nat) : Int) + 4 - 4 = ((s + j + v : Nat) : Int) by omega, show ((s + j : Nat) : Int) + ((v : Nat) : Int) + 4 = ((s + j + v + 4 : Nat) : Int) from rfl]
          refine g_slL (O.fr.seq (eB.seq hS)) (g_newQ O fun w3 H6 nw3 O => ?_)
          rw [cut_mid, ← List.map_drop, ← List.map_take, nz_drop, nz_take, show s + j + v + 4 - (s + j + v) = 4 by omega] at O
          refine g_neD (d := .list ((nz (tail4 (ck d))).map PyData.int)) (e := .list ((nz ((l.drop (s + j + v)).take 4)).map PyData.int)) (.lst (O.lst 1) (dps_int _)) (.lst (O.lst 0) (dps_int _)) (shaped_ints _) (shaped_ints _) ?_
          rw [eqv_intsD]
          walk_at "z"
          refine ite_nd (fun hne => ?_) (fun heq => ?_)
          · walk_at "z"
            exact fin (by rw [hst, if_neg (fun h => hne (by rw [h.2]))]) _ _ _ _ _ _ O.tail.tail.tail.tail
          · have hst : stp (l.drop s) = some (d, j + v + 4) := by rw [hst, if_pos ⟨by omega, nz_inj heq⟩]
            obtain ⟨rest', k', rfl, hk, hR⟩ := reads_some hst hR
            walk_at "z"
            have O := O.tail.tail.tail
            refine g_tyL (O.lst 1) ?_
            walk_at "z"
            have hwl := dps_len hD
            rw [List.length_map] at hwl
            refine g_append O 1 rfl (small_of (by omega)) fun H7 O => ?_
            walk_at "z"
            have O : Own B [(r, .lst ((nz d).map V.int)), (p, .lst (ws ++ [.ref r]))] H7 := O
            have e8 := O.freezeB
            have hrB : upd B r (.lst ((nz d).map V.int)) r = some (.lst ((nz d).map V.int)) := upd_same
            have O := O.freeze
            generalize upd B r (.lst ((nz d).map V.int)) = B2 at O e8 hrB
            refine rs_call (s := s + j + v + 4) hS (eB.trans e8) O fun x B3 H8 eB3 O F => ?_
            walk_at "z"
            refine ⟨l.length - (s + j + v + 4), by omega, B3, _, done ++ [d], rest', s + j + v + 4, k', x, _, _, _, _, rfl, (eB.trans e8).trans eB3, O, ?_, ?_, ?_, by omega, by omega, by rw [List.length_append]; show _ + 1 ≤ _; omega, F⟩
            · rw [List.map_append]
              exact dps_snoc (dps_ex (e8.trans eB3) hD) (.lst (.inl (.inl (eB3 _ _ hrB))) (dps_int _))
            · rw [List.drop_drop] at hR
              rw [show s + (j + v + 4) = s + j + v + 4 by omega] at hR
              exact hR
            · rw [← hd, List.append_assoc]
              rfl
    · clear hR O F0
      rintro σ H2 ⟨B, ws, x3, x4, x5, x6, x7, rfl, eB, O, hD⟩
      walk_at "z"
      refine g_new (small_le (by simp)) O fun t H3 nt O => ?_
      exact q (.ref t) H3 (eB.trans O.fr) (.tup (O.tup 0) (.cons (.lst (O.lst 1) (dps_ex O.fr hD)) (.cons (.int _) .nil)))

theorem fz {B H : Hp} {p : Addr} {o : HO} {cs : List (Addr × HO)} (O : Own B ((p, o) :: cs) H) : ∃ B', Same B B' ∧ B' p = some o ∧ Own B' cs H := ⟨_, O.freezeB, upd_same, O.freeze⟩
theorem g_repL {H : Hp} {l : Addr} {xs : List V} {k : Int} {Q : VK} (h : H l = some (.lst xs)) (h1 : -(2 ^ 63) ≤ k) (h2 : k < 2 ^ 63) (hz : xs.length * k.toNat ≤ sizeLine) (q : newQ (.lst (List.replicate k.toNat xs).flatten) Q H) : rMulU (.ref l) (.int k) H Q := .inr ⟨l, k, xs, rfl, rfl, h, h1, h2, hz, q⟩
abbrev stA2 (d : Addr) (i : Int) : HO := .lst [.ref d, .int i]
abbrev nl (l : List Nat) : HO := .lst ((nz l).map V.int)
theorem set_cut {L : List Nat} {i x : Nat} (h : i < L.length) : L.take i ++ [x] ++ L.drop (i + 1) = L.set i x := by
  rw [List.set_eq_take_append_cons_drop, if_pos h, List.append_assoc]
  rfl
theorem tail4_lt {t : Nat} (ht : t < 4294967296) : ∀ b ∈ tail4 t, b < 256 := by
  intro b hb
  simp only [tail4, List.mem_cons, List.not_mem_nil, or_false] at hb
  omega
theorem recd_lt {d : List Nat} (h : ∀ b ∈ d, b < 256) : ∀ b ∈ recd d, b < 256 := by
  intro b hb
  unfold recd at hb
  rcases List.mem_append.mp hb with hb | hb
  · rcases List.mem_append.mp hb with hb | hb
    · exact num_lt _ _ hb
    · exact h b hb
  · exact tail4_lt (ck_lt d) b hb
theorem alt_ne {x r : Nat} (hx : x < 256) (hr : r < 255) : (x + 1 + r) % 256 ≠ x := by omega
theorem stp_alt2 {d f : List Nat} {j x : Nat} (hd : d.length ≤ 2000000) (hj : j < 4) (hx : (recd d)[(recd d).length - 1 - j]? ≠ some x) : stp ((recd d).set ((recd d).length - 1 - j) x ++ f) = none := by
  have hl := recd_len d
  have e : (recd d).set ((recd d).length - 1 - j) x = num d.length ++ d ++ (tail4 (ck d)).set (3 - j) x := by
    have : (recd d).length - 1 - j = (num d.length ++ d).length + (3 - j) := by rw [List.length_append]; omega
    rw [this]
    unfold recd
    rw [List.set_append_right _ _ (by omega), Nat.add_sub_cancel_left]
  rw [e]
  refine stp_bad hd (by rw [List.length_set]; rfl) ?_
  intro q
  apply hx
  have h2 : (recd d)[(recd d).length - 1 - j]? = (tail4 (ck d))[3 - j]? := by
    have : (recd d).length - 1 - j = (num d.length ++ d).length + (3 - j) := by rw [List.length_append]; omega
    rw [this]
    unfold recd
    rw [List.getElem?_append_right (by omega), Nat.add_sub_cancel_left]
  rw [h2, q, List.getElem?_set_self (by show 3 - j < 4; omega)]
theorem stp_alt3 {d f : List Nat} {j x : Nat} (hd : d.length ≤ 2000000) (h8 : ∀ b ∈ d, b < 256) (hj : j < d.length) (hx8 : x < 256) (hx : (recd d)[(recd d).length - 5 - j]? ≠ some x) : stp ((recd d).set ((recd d).length - 5 - j) x ++ f) = none := by
  have hl := recd_len d
  have hi : d.length - 1 - j < d.length := by omega
  have ea : (recd d).length - 5 - j = (num d.length).length + (d.length - 1 - j) := by omega
  have e : (recd d).set ((recd d).length - 5 - j) x = num (d.set (d.length - 1 - j) x).length ++ d.set (d.length - 1 - j) x ++ tail4 (ck d) := by
    rw [ea, List.length_set]
    unfold recd
    rw [List.append_assoc, List.set_append_right _ _ (by omega), Nat.add_sub_cancel_left, List.set_append_left _ _ hi, List.append_assoc]
  have h2 : (recd d)[(recd d).length - 5 - j]? = d[d.length - 1 - j]? := by
    rw [ea]
    unfold recd
    rw [List.append_assoc, List.getElem?_append_right (by omega), Nat.add_sub_cancel_left, List.getElem?_append_left hi]
  rw [e]
  refine stp_bad (by rw [List.length_set]; exact hd) rfl ?_
  intro q
  rw [h2, List.getElem?_eq_getElem hi] at hx
  have q := tail4_inj q
  rw [List.set_eq_take_append_cons_drop, if_pos hi] at q
  have e3 : d = d.take (d.length - 1 - j) ++ d[d.length - 1 - j] :: d.drop (d.length - 1 - j + 1) := by
    rw [← List.drop_eq_getElem_cons hi, List.take_append_drop]
  refine ck_alt (a := d.take (d.length - 1 - j)) (c := d.drop (d.length - 1 - j + 1)) hx8 (h8 d[d.length - 1 - j] (List.getElem_mem hi)) (fun h => hx (by rw [h])) ?_
  rw [← e3]
  exact q
theorem stp_need {d f : List Nat} {k : Nat} (hd : d.length ≤ 2000000) (hk : k < 3) (x : Nat) : stp ((num d.length).take ((num d.length).length - 1) ++ ([x + 128] ++ List.replicate k 128 ++ [0]) ++ f) = none := by
  have hn := num_len 3 d.length (by show _ < 2097152; omega)
  have e : (num d.length).take ((num d.length).length - 1) ++ ([x + 128] ++ List.replicate k 128 ++ [0]) ++ f = ((num d.length).dropLast ++ ([x + 128] ++ List.replicate k 128)) ++ 0 :: f := by
    rw [List.dropLast_eq_take]
    simp
  rw [e]
  refine stp_needless ?_ ?_ ?_
  · intro b hb
    rcases List.mem_append.mp hb with hb | hb
    · exact num_drop _ _ hb
    · rcases List.mem_append.mp hb with hb | hb
      · rw [List.mem_singleton.mp hb]; omega
      · rw [(List.mem_replicate.mp hb).2]; omega
  · rw [List.length_append, List.length_append, List.length_dropLast, List.length_replicate]
    show _ + (1 + _) < _
    omega
  · simp

def sp_lrec (K : PySem.W.Frag) : Sp := fun vs H Q _ => ∃ (a : Addr) (l : List Nat), vs = [.ref a] ∧ H a = some (nl l) ∧ l.length ≤ 2000000 ∧ ∀ (p : Addr) H', Same H H' → H p = none → H' p = some (nl (recd l)) → Q (.ref p) H'

theorem ok__law_record (T : Txt K mg) : FnOk P w K mg base CX0 3 T.a__law_record T.d__law_record P__law_record (sp_lrec K) := by
  refine T.F__law_record.ok sc__law_record (fun vs H Q E h => ?_) (fun cdv A outer s H vs Q E hr h => ?_)
  · obtain ⟨a, l, rfl, _⟩ := h
    rfl
  · obtain ⟨a, l, rfl, hS0, hl, q⟩ := h
    refine ⟨_, (pss_cons (ps_set (i := 1) sc__law_record.nd rfl (Or.inl rfl) (pe_call (ok__law_checksum T) (hr.mono (by omega)) (by rfl) T.g__law_checksum T.F__law_checksum.kp T.b__law_checksum .nil pass0 (pa_cons (pv 0) pa_nil)))
        (pss_one (ps_ret (pe_op op_addU (pe_op op_addU (pe_call (ok__law_number T) (hr.mono (by omega)) (by rfl) T.g__law_number T.F__law_number.kp T.b__law_number .nil pass0 (pa_cons (pe_callB call_lenU (by rfl) T.z_len PySem.boot_len (pa_cons (pv 0) pa_nil)) pa_nil)) (pv 0)) (pe_lst (pa_cons (pe_op op_fdiv (pv 1) pe_int) (pa_cons (pe_op op_mod (pe_op op_fdiv (pv 1) pe_int) pe_int) (pa_cons (pe_op op_mod (pe_op op_fdiv (pv 1) pe_int) pe_int) (pa_cons (pe_op op_mod (pv 1) pe_int) pa_nil))))))))), ?_⟩
    have hS : SqL K H a ((nz l).map V.int) := .inl (.inl hS0)
    walk_at "z"
    refine ⟨a, l, rfl, hS, ?_⟩
    walk_at "z"
    have hlm : ((nz l).map V.int).length = l.length := by rw [List.length_map, nz_len]
    refine g_lenL hS ?_
    walk_at "z"
    refine ⟨l.length, by rw [hlm]; rfl, hl, fun p1 H2 e2 np1 h1 => ?_⟩
    have O := (Own.start H).new e2 np1 h1
    walk_at "z"
    have hn := num_len 3 l.length (by show _ < 2097152; omega)
    refine g_addL (O.get 0) (O.fr _ _ hS0) (by rw [List.length_map, nz_len, hlm]; exact small_le (by omega)) (g_newQ O fun p3 H4 np3 O => ?_)
    walk_at "z"
    refine g_new (small_le (by simp)) O fun t H1 nt O => ?_
    refine g_addL (O.get 1) (O.get 0) (by rw [List.length_append, List.length_map, nz_len, hlm]; exact small_le (by show _ + _ + 4 ≤ _; omega)) (g_newQ O fun p4 H5 np4 O => ?_)
    refine q p4 H5 O.fr (O.out _ (.head _)) ?_
    have h := O.get 0
    unfold nl recd
    rw [nz_app, nz_app, List.map_append, List.map_append]
    exact h
def sp_lbytes (K : PySem.W.Frag) : Sp := fun vs H Q _ => ∃ (B : Hp) (s d : Addr) (i : Int) (ds : List Int) (cs : List (Addr × HO)), vs = [.ref s] ∧ Own B ((s, stA2 d i) :: cs) H ∧ 0 ≤ i ∧ B d = some (.lst (ds.map V.int)) ∧ DrawsOk ds ∧
  ∀ (l : List Nat) (p : Addr) (i : Int) H', Own B ((p, nl l) :: (s, stA2 d i) :: cs) H' → 0 ≤ i → (∀ b ∈ l, b < 256) → l.length ≤ 2001 → Q (.ref p) H'

theorem ok__law_bytes (T : Txt K mg) : FnOk P w K mg base CX0 4 T.a__law_bytes T.d__law_bytes P__law_bytes (sp_lbytes K) := by
  refine T.F__law_bytes.ok sc__law_bytes (fun vs H Q E h => ?_) (fun cdv A outer s H vs Q E hr h => ?_)
  · obtain ⟨B, s, d, i, ds, cs, rfl, _⟩ := h
    rfl
  · obtain ⟨B, s, d, i, ds, cs, rfl, O, hi, hB, hds, q⟩ := h
    refine ⟨_, (pss_cons (ps_set (i := 1) sc__law_bytes.nd rfl (Or.inl rfl) (pe_call (ok__law_next T) (hr.mono (by omega)) (by rfl) T.g__law_next T.F__law_next.kp T.b__law_next .nil pass0 (pa_cons (pv 0) (pa_cons pe_int pa_nil))))
        (pss_cons (ps_set (i := 2) sc__law_bytes.nd rfl (Or.inl rfl) (pe_call (ok__law_next T) (hr.mono (by omega)) (by rfl) T.g__law_next T.F__law_next.kp T.b__law_next .nil pass0 (pa_cons (pv 0) (pa_cons pe_int pa_nil))))
        (Evl.pss_cut (ps_if (pt_cmpR op_lt (pv 2) pe_int (nomark _))
          (pss_one (ps_set (i := 1) sc__law_bytes.nd rfl (Or.inl rfl) (pe_op op_addU pe_int (pe_call (ok__law_next T) (hr.mono (by omega)) (by rfl) T.g__law_next T.F__law_next.kp T.b__law_next .nil pass0 (pa_cons (pv 0) (pa_cons pe_int pa_nil))))))
          (pss_one (ps_if (pt_cmpR op_lt (pv 2) pe_int (nomark _))
          (pss_one (ps_set (i := 1) sc__law_bytes.nd rfl (Or.inl rfl) (pe_op op_addU pe_int (pe_call (ok__law_next T) (hr.mono (by omega)) (by rfl) T.g__law_next T.F__law_next.kp T.b__law_next .nil pass0 (pa_cons (pv 0) (pa_cons pe_int pa_nil))))))
          (pss_one (ps_if (pt_cmpR (op_eqU (hu64 hr)) (pv 2) pe_int (nomark _))
          (pss_one (ps_set (i := 1) sc__law_bytes.nd rfl (Or.inl rfl) (pe_op op_addU pe_int (pe_call (ok__law_next T) (hr.mono (by omega)) (by rfl) T.g__law_next T.F__law_next.kp T.b__law_next .nil pass0 (pa_cons (pv 0) (pa_cons pe_int pa_nil))))))
          pss_nil)))))
        (pss_cons (ps_set (i := 3) sc__law_bytes.nd rfl (Or.inr rfl) (pe_call (ok__law_next T) (hr.mono (by omega)) (by rfl) T.g__law_next T.F__law_next.kp T.b__law_next .nil pass0 (pa_cons (pv 0) (pa_cons pe_int pa_nil))))
        (pss_one (ps_ret (pe_lc (own := [("k", 4)]) rfl sc__law_bytes.nd (pi_range1 (by rfl) T.z_range (pa_cons (pv 1) pa_nil)) (blkOk_by (own := [("k", 4)]) (N := N__law_bytes) (sc := defScope s__law_bytes) (by decide +kernel)) (fun _ _ _ _ _ => (pg_name (i := 4) sc__law_bytes.nd rfl (Or.inl rfl))) (fun _ _ _ _ _ => pts_nil) (fun _ _ _ _ _ => (pe_op op_mod (pe_op (show OpR _ _ (rAddU K) from op_addU) (pv 3) (pe_op op_mulU (pe_op op_mulU pe_int (pv 4)) (pv 4))) pe_int))))))))), ?_⟩
    walk_at "z"
    refine nxt O 0 rfl hi hB hds (by decide) fun n0 H1 a0 a1 O => ?_
    walk_at "z"
    refine nxt O 0 rfl (by omega) hB hds (by decide) fun n1 H2 b0 b1 O => ?_
    walk_at "z"
    refine ⟨fun σ H' => ∃ (c i : Int) (x3 : Option V), σ = [some (.ref s), some (.int c), x3, none, none] ∧ 0 ≤ c ∧ c ≤ 2000 ∧ 0 ≤ i ∧ Own B ((s, stA2 d i) :: cs) H', ?_, ?_⟩
    · walk_at "z"
      refine ite_d (fun _ => ?_) (fun _ => ?_)
      · walk_at "z"
        refine nxt O 0 rfl (by omega) hB hds (by decide) fun n2 H3 c0 c1 O => ?_
        walk_at "z"
        exact ⟨_, _, _, rfl, by omega, by omega, by omega, O⟩
      · walk_at "z"
        refine ite_d (fun _ => ?_) (fun _ => ?_)
        · walk_at "z"
          refine nxt O 0 rfl (by omega) hB hds (by decide) fun n2 H3 c0 c1 O => ?_
          walk_at "z"
          exact ⟨_, _, _, rfl, by omega, by omega, by omega, O⟩
        · walk_at "z"
          refine ite_d (fun _ => ?_) (fun _ => ?_)
          · walk_at "z"
            refine nxt O 0 rfl (by omega) hB hds (by decide) fun n2 H3 c0 c1 O => ?_
            walk_at "z"
            exact ⟨_, _, _, rfl, by omega, by omega, by omega, O⟩
          · walk_at "z"
            exact ⟨_, _, _, rfl, by omega, by omega, by omega, O⟩
    clear O hi
    rintro σ H3 ⟨c, i, x3, rfl, c0, c1, hi, O⟩
    walk_at "z"
    refine nxt O 0 rfl (by omega) hB hds (by decide) fun n H4 e0 e1 O => ?_
    walk_at "z"
    obtain ⟨n, rfl⟩ := Int.eq_ofNat_of_zero_le e0
    refine lcB_rng0 (fun D k H' => ∃ l : List Nat, Own B ((D, nl l) :: (s, stA2 d (i + 1)) :: cs) H' ∧ l.length = k ∧ ∀ b ∈ l, b < 256) ?_ ?_ ?_
    · intro D nD
      exact ⟨[], O.alloc nD, rfl, fun _ h => nomatch h⟩
    · rintro D k H5 hk ⟨l, O, hl, h8⟩
      walk_at "z"
      refine iteT ?_
      walk_at "z"
      refine g_lcPut O 0 rfl (small_of (by rw [List.length_map, nz_len]; omega)) fun H6 O => ?_
      refine ⟨l ++ [(n + 41 * k * k) % 256], ?_, by rw [List.length_append, hl]; rfl, ?_⟩
      · unfold nl
        rw [nz_app, List.map_append]
        exact O
      · intro b hb
        rcases List.mem_append.mp hb with hb | hb
        · exact h8 b hb
        · rw [List.mem_singleton.mp hb]; omega
    · rintro D H5 nD ⟨l, O, hl, h8⟩
      exact q l D _ H5 O (by omega) h8 (by omega)
def sp_lbeh (K : PySem.W.Frag) : Sp := fun vs H Q _ => ∃ (B : Hp) (s d : Addr) (i : Int) (ds : List Int) (cs : List (Addr × HO)), vs = [.ref s] ∧ Own B ((s, stA2 d i) :: cs) H ∧ 0 ≤ i ∧ B d = some (.lst (ds.map V.int)) ∧ DrawsOk ds ∧
  ∀ (l : List Nat) (p : Addr) (i : Int) (B' H' : Hp), Same B B' → Own B' ((p, nl l) :: (s, stA2 d i) :: cs) H' → 0 ≤ i → stp l = none → l.length ≤ 10000 → Q (.ref p) H'

theorem ok__law_behind (T : Txt K mg) : FnOk P w K mg base CX0 5 T.a__law_behind T.d__law_behind P__law_behind (sp_lbeh K) := by
  refine T.F__law_behind.ok sc__law_behind (fun vs H Q E h => ?_) (fun cdv A outer s H vs Q E hr h => ?_)
  · obtain ⟨B, s, d, i, ds, cs, rfl, _⟩ := h
    rfl
  · obtain ⟨B, s, d, i, ds, cs, rfl, O, hi, hB, hds, q⟩ := h
    refine ⟨_, (pss_cons (ps_set (i := 1) sc__law_behind.nd rfl (Or.inl rfl) (pe_call (ok__law_bytes T) (hr.mono (by omega)) (by rfl) T.g__law_bytes T.F__law_bytes.kp T.b__law_bytes .nil pass0 (pa_cons (pv 0) pa_nil)))
        (pss_cons (ps_set (i := 2) sc__law_behind.nd rfl (Or.inl rfl) (pe_call (ok__law_record T) (hr.mono (by omega)) (by rfl) T.g__law_record T.F__law_record.kp T.b__law_record .nil pass0 (pa_cons (pv 1) pa_nil)))
        (Evl.pss_cut (ps_set (i := 3) sc__law_behind.nd rfl (Or.inl rfl) (pe_ix ix_seq (pe_lst (pa_cons (pe_lst pa_nil) (pa_cons (pe_op op_addU (pe_call (ok__law_record T) (hr.mono (by omega)) (by rfl) T.g__law_record T.F__law_record.kp T.b__law_record .nil pass0 (pa_cons (pe_lst (pa_cons pe_int (pa_cons pe_int (pa_cons pe_int pa_nil)))) pa_nil)) (pe_call (ok__law_record T) (hr.mono (by omega)) (by rfl) T.g__law_record T.F__law_record.kp T.b__law_record .nil pass0 (pa_cons (pe_lst pa_nil) pa_nil))) pa_nil))) (pe_call (ok__law_next T) (hr.mono (by omega)) (by rfl) T.g__law_next T.F__law_next.kp T.b__law_next .nil pass0 (pa_cons (pv 0) (pa_cons pe_int pa_nil))) (fun _ _ => rfl)))
        (pss_cons (ps_set (i := 4) sc__law_behind.nd rfl (Or.inl rfl) (pe_call (ok__law_next T) (hr.mono (by omega)) (by rfl) T.g__law_next T.F__law_next.kp T.b__law_next .nil pass0 (pa_cons (pv 0) (pa_cons pe_int pa_nil))))
        (pss_cons (ps_if (pt_cmpR (op_eqU (hu64 hr)) (pv 4) pe_int (nomark _))
          (pss_one (ps_ret (pe_lst pa_nil)))
          pss_nil)
        (pss_cons (ps_if (pt_cmpR (op_eqU (hu64 hr)) (pv 4) pe_int (nomark _))
          (pss_one (ps_ret (pe_slice sl_U (pv 2) po_none (po_some (pe_call (ok__law_next T) (hr.mono (by omega)) (by rfl) T.g__law_next T.F__law_next.kp T.b__law_next .nil pass0 (pa_cons (pv 0) (pa_cons (pe_callB call_lenU (by rfl) T.z_len PySem.boot_len (pa_cons (pv 2) pa_nil)) pa_nil)))))))
          pss_nil)
        (pss_cons (ps_if (pt_cmpR (op_eqU (hu64 hr)) (pv 4) pe_int (nomark _))
          (pss_cons (ps_set (i := 5) sc__law_behind.nd rfl (Or.inl rfl) (pe_op op_sub (pe_op op_sub (pe_callB call_lenU (by rfl) T.z_len PySem.boot_len (pa_cons (pv 2) pa_nil)) pe_int) (pe_call (ok__law_next T) (hr.mono (by omega)) (by rfl) T.g__law_next T.F__law_next.kp T.b__law_next .nil pass0 (pa_cons (pv 0) (pa_cons pe_int pa_nil)))))
        (pss_one (ps_ret (pe_op op_addU (pe_op op_addU (pe_op op_addU (pe_slice sl_U (pv 2) po_none (po_some (pv 5))) (pe_lst (pa_cons (pe_op op_mod (pe_op op_addU (pe_op op_addU (pe_ix ix_seq (pv 2) (pv 5) (fun _ _ => rfl)) pe_int) (pe_call (ok__law_next T) (hr.mono (by omega)) (by rfl) T.g__law_next T.F__law_next.kp T.b__law_next .nil pass0 (pa_cons (pv 0) (pa_cons pe_int pa_nil)))) pe_int) pa_nil))) (pe_slice sl_U (pv 2) (po_some (pe_op op_addU (pv 5) pe_int)) po_none)) (pv 3)))))
          pss_nil)
        (Evl.pss_cut (ps_if (PW.pt (pw_and (pt_cmpR (op_eqU (hu64 hr)) (pv 4) pe_int (nomark _)) (pw_and1 (pt_cmpR op_gt (pe_callB call_lenU (by rfl) T.z_len PySem.boot_len (pa_cons (pv 1) pa_nil)) pe_int (nomark _)))))
          (pss_cons (ps_set (i := 5) sc__law_behind.nd rfl (Or.inl rfl) (pe_op op_sub (pe_op op_sub (pe_callB call_lenU (by rfl) T.z_len PySem.boot_len (pa_cons (pv 2) pa_nil)) pe_int) (pe_call (ok__law_next T) (hr.mono (by omega)) (by rfl) T.g__law_next T.F__law_next.kp T.b__law_next .nil pass0 (pa_cons (pv 0) (pa_cons (pe_callB call_lenU (by rfl) T.z_len PySem.boot_len (pa_cons (pv 1) pa_nil)) pa_nil)))))
        (pss_one (ps_ret (pe_op op_addU (pe_op op_addU (pe_op op_addU (pe_slice sl_U (pv 2) po_none (po_some (pv 5))) (pe_lst (pa_cons (pe_op op_mod (pe_op op_addU (pe_op op_addU (pe_ix ix_seq (pv 2) (pv 5) (fun _ _ => rfl)) pe_int) (pe_call (ok__law_next T) (hr.mono (by omega)) (by rfl) T.g__law_next T.F__law_next.kp T.b__law_next .nil pass0 (pa_cons (pv 0) (pa_cons pe_int pa_nil)))) pe_int) pa_nil))) (pe_slice sl_U (pv 2) (po_some (pe_op op_addU (pv 5) pe_int)) po_none)) (pv 3)))))
          pss_nil)
        (pss_cons (ps_set (i := 6) sc__law_behind.nd rfl (Or.inl rfl) (pe_call (ok__law_number T) (hr.mono (by omega)) (by rfl) T.g__law_number T.F__law_number.kp T.b__law_number .nil pass0 (pa_cons (pe_callB call_lenU (by rfl) T.z_len PySem.boot_len (pa_cons (pv 1) pa_nil)) pa_nil)))
        (pss_cons (ps_set (i := 7) sc__law_behind.nd rfl (Or.inl rfl) (pe_op op_addU (pe_op op_addU (pe_lst (pa_cons (pe_op op_addU (pe_ix ix_seq (pv 6) (pe_op op_sub (pe_callB call_lenU (by rfl) T.z_len PySem.boot_len (pa_cons (pv 6) pa_nil)) pe_int) (fun _ _ => rfl)) pe_int) pa_nil)) (pe_op op_mulU (pe_lst (pa_cons pe_int pa_nil)) (pe_call (ok__law_next T) (hr.mono (by omega)) (by rfl) T.g__law_next T.F__law_next.kp T.b__law_next .nil pass0 (pa_cons (pv 0) (pa_cons pe_int pa_nil))))) (pe_lst (pa_cons pe_int pa_nil))))
        (pss_one (ps_ret (pe_op op_addU (pe_op op_addU (pe_op op_addU (pe_slice sl_U (pv 6) po_none (po_some (pe_op op_sub (pe_callB call_lenU (by rfl) T.z_len PySem.boot_len (pa_cons (pv 6) pa_nil)) pe_int))) (pv 7)) (pe_slice sl_U (pv 2) (po_some (pe_callB call_lenU (by rfl) T.z_len PySem.boot_len (pa_cons (pv 6) pa_nil))) po_none)) (pv 3)))))))))))))), ?_⟩
    walk_at "z"
    refine ⟨B, s, d, i, ds, cs, rfl, O, hi, hB, hds, fun dat pd i H1 O hi h8 hl => ?_⟩
    obtain ⟨B1, e1, hpd, O⟩ := fz O
    have hB := e1 _ _ hB
    walk_at "z"
    refine ⟨pd, dat, rfl, O.fr _ _ hpd, by omega, fun pr H2 e2 npr hpr => ?_⟩
    have O := O.new e2 npr hpr
    obtain ⟨B2, e2, hpr, O⟩ := fz O
    have hB := e2 _ _ hB
    have hpd := e2 _ _ hpd
    have e1 := e1.trans e2
    walk_at "z"
    refine ⟨fun σ H' => ∃ (B2 : Hp) (i : Int) (f : Addr) (fl : List Nat), σ = [some (.ref s), some (.ref pd), some (.ref pr), some (.ref f), none, none, none, none] ∧ Same B B2 ∧ Own B2 ((s, stA2 d i) :: cs) H' ∧ 0 ≤ i ∧ B2 d = some (.lst (ds.map V.int)) ∧ B2 pd = some (nl dat) ∧ B2 pr = some (nl (recd dat)) ∧ B2 f = some (nl fl) ∧ fl.length ≤ 40, ?_, ?_⟩
    · walk_at "z"
      refine g_new (Nat.zero_le _) O fun f0 H3 nf0 O => ?_
      obtain ⟨B3, e3, hf0, O⟩ := fz O
      walk_at "z"
      refine g_new (small_le (by simp)) O fun c1 H4 nc1 O => ?_
      refine ⟨c1, [1, 2, 3], rfl, O.get 0, by decide, fun r1 H5 er1 nr1 hr1 => ?_⟩
      have O := O.new er1 nr1 hr1
      walk_at "z"
      refine g_new (Nat.zero_le _) O fun c2 H6 nc2 O => ?_
      refine ⟨c2, [], rfl, O.get 0, by decide, fun r2 H7 er2 nr2 hr2 => ?_⟩
      have O := O.new er2 nr2 hr2
      have l1 : (recd [1, 2, 3]).length ≤ 11 := by
        have h1 := recd_len [1, 2, 3]
        have h2 := num_len 3 3 (by decide)
        have h3 : (num [1, 2, 3].length).length = (num 3).length := rfl
        have h4 : [1, 2, 3].length = 3 := rfl
        omega
      have l2 : (recd []).length ≤ 11 := by
        have h1 := recd_len []
        have h2 := num_len 3 0 (by decide)
        have h3 : (num ([] : List Nat).length).length = (num 0).length := rfl
        have h4 : ([] : List Nat).length = 0 := rfl
        omega
      refine g_addL (O.get 2) (O.get 0) (by refine small_le ?_; simp only [List.length_append, List.length_take, List.length_drop, List.length_map, nz_len, List.length_replicate, List.length_cons, List.length_nil]; omega) (g_newQ O fun f1 H8 nf1 O => ?_)
      rw [← List.map_append, ← nz_app] at O
      obtain ⟨B4, e4, hf1, O⟩ := fz O
      have O := O.tail.tail.tail.tail
      walk_at "z"
      refine g_new (small_le (by simp)) O fun lf H9 nlf O => ?_
      walk_at "z"
      refine nxt O 1 rfl hi (e4 _ _ (e3 _ _ hB)) hds (by decide) fun n H10 a0 a1 O => ?_
      have hn : n = 0 ∨ n = 1 := by omega
      have e34 := e3.trans e4
      rcases hn with rfl | rfl
      · refine g_ixL (v := .ref f0) (O.lst 0) (atI_nat (j := 0) rfl) ?_
        walk_at "z"
        exact ⟨B4, _, f0, [], rfl, e1.trans e34, O.tail, by omega, e34 _ _ hB, e34 _ _ hpd, e34 _ _ hpr, e4 _ _ hf0, by decide⟩
      · refine g_ixL (v := .ref f1) (O.lst 0) (atI_nat (j := 1) rfl) ?_
        walk_at "z"
        exact ⟨B4, _, f1, _, rfl, e1.trans e34, O.tail, by omega, e34 _ _ hB, e34 _ _ hpd, e34 _ _ hpr, hf1, by rw [List.length_append]; omega⟩
    clear O hi hB hpd hpr
    rintro σ H3 ⟨B2, i, f, fl, rfl, eB, O, hi, hB, hpd, hpr, hf, hfl⟩
    have hrl : ((nz (recd dat)).map V.int).length = (recd dat).length := by rw [List.length_map, nz_len]
    have hrd := recd_len dat
    have hnum := num_len 3 dat.length (by show _ < 2097152; omega)
    have hdl : ((nz dat).map V.int).length = dat.length := by rw [List.length_map, nz_len]
    walk_at "z"
    refine nxt O 0 rfl hi hB hds (by decide) fun pk H4 p0 p1 O => ?_
    walk_at "z"
    refine ite_d (fun h0 => ?_) (fun h0 => ?_)
    · walk_at "z"
      refine g_new (Nat.zero_le _) O fun c H5 nc O => ?_
      exact q [] c _ B2 H5 eB O (by omega) stp_nil (Nat.zero_le _)
    walk_at "z"
    refine ite_d (fun h1 => ?_) (fun h1 => ?_)
    · walk_at "z"
      refine g_lenL (.inl (.inl (O.fr _ _ hpr))) ?_
      walk_at "z"
      refine nxt O 0 rfl (by omega) hB hds (by rw [hrl]; omega) fun n H5 a0 a1 O => ?_
      walk_at "z"
      refine g_slL (.inl (.inl (O.fr _ _ hpr))) (g_newQ O fun c H6 nc O => ?_)
      rw [cut_take a0, ← List.map_take, nz_take] at O
      rw [hrl] at a1
      exact q _ c _ B2 H6 eB O (by omega) (stp_cut (by omega) (by omega)) (by rw [List.length_take]; omega)
    walk_at "z"
    refine ite_d (fun h2 => ?_) (fun h2 => ?_)
    · walk_at "z"
      refine g_lenL (.inl (.inl (O.fr _ _ hpr))) ?_
      walk_at "z"
      refine nxt O 0 rfl (by omega) hB hds (by decide) fun j H5 a0 a1 O => ?_
      walk_at "z"
      obtain ⟨j, rfl⟩ := Int.eq_ofNat_of_zero_le a0
      obtain ⟨at_, hat2⟩ : ∃ x, x = (recd dat).length - 1 - j := ⟨_, rfl⟩
      have hat : (((nz (recd dat)).map V.int).length : Int) - 1 - (j : Nat) = ((at_ : Nat) : Int) := by rw [hrl, hat2]; omega
      rw [hat]
      have hlt : at_ < (recd dat).length := by omega
      have hne : ∀ x, x ≠ (recd dat)[at_] → (recd dat)[at_]? ≠ some x := fun x hx h => by
        rw [List.getElem?_eq_getElem hlt] at h
        exact hx (Option.some.inj h).symm
      have hx8 := recd_lt h8 _ (List.getElem_mem hlt)
      refine g_slL (.inl (.inl (O.fr _ _ hpr))) (g_newQ O fun c1 H6 nc1 O => ?_)
      rw [cut_take (by omega), Int.toNat_natCast] at O
      walk_at "z"
      refine g_ixL (.inl (.inl (O.fr _ _ hpr))) (atI_of (by omega) (nzv_get (l := recd dat) (i := at_) (by omega) hlt)) ?_
      walk_at "z"
      refine nxt O 1 rfl (by omega) hB hds (by decide) fun r H7 r0 r1 O => ?_
      obtain ⟨r, rfl⟩ := Int.eq_ofNat_of_zero_le r0
      walk_at "z"
      refine g_new (small_le (by simp)) O fun c2 H8 nc2 O => ?_
      have ex : (((recd dat)[at_] : Nat) : Int) + 1 + (r : Nat) = (((recd dat)[at_] + 1 + r : Nat) : Int) := rfl
      rw [ex] at O
      have O : Own B2 ((c2, nl [((recd dat)[at_] + 1 + r) % 256]) :: (c1, .lst (((nz (recd dat)).map V.int).take at_)) :: (s, stA2 d (i + 1 + 1 + 1)) :: cs) H8 := O
      have hxn := alt_ne hx8 (show r < 255 by omega)
      have hxl : ((recd dat)[at_] + 1 + r) % 256 < 256 := by omega
      generalize ((recd dat)[at_] + 1 + r) % 256 = x at O hxn hxl
      refine g_addL (O.get 1) (O.get 0) (by refine small_le ?_; simp only [List.length_append, List.length_take, List.length_drop, List.length_map, nz_len, List.length_replicate, List.length_cons, List.length_nil]; omega) (g_newQ O fun c3 H9 nc3 O => ?_)
      walk_at "z"
      refine g_slL (.inl (.inl (O.fr _ _ hpr))) (g_newQ O fun c4 H10 nc4 O => ?_)
      rw [cut_drop (by omega), show ((at_ : Int) + 1).toNat = at_ + 1 by omega] at O
      refine g_addL (O.get 1) (O.get 0) (by refine small_le ?_; simp only [List.length_append, List.length_take, List.length_drop, List.length_map, nz_len, List.length_replicate, List.length_cons, List.length_nil]; omega) (g_newQ O fun c5 H11 nc5 O => ?_)
      walk_at "z"
      refine g_addL (O.get 0) (O.fr _ _ hf) (by refine small_le ?_; simp only [List.length_append, List.length_take, List.length_drop, List.length_map, nz_len, List.length_replicate, List.length_cons, List.length_nil]; omega) (g_newQ O fun c6 H12 nc6 O => ?_)
      have O := O.sub ((((((List.Sublist.refl _).cons _).cons _).cons _).cons _).cons _ |>.cons_cons _)
      have e9 : ((nz (recd dat)).map V.int).take at_ ++ (nz [x]).map V.int ++ ((nz (recd dat)).map V.int).drop (at_ + 1) ++ (nz fl).map V.int = (nz ((recd dat).set at_ x ++ fl)).map V.int := by
        rw [← set_cut hlt, nz_app, nz_app, nz_app, List.map_append, List.map_append, List.map_append, ← nz_take, ← nz_drop, List.map_take, List.map_drop]
      rw [e9] at O
      refine q ((recd dat).set at_ x ++ fl) c6 _ B2 H12 eB O (by omega) ?_ (by rw [List.length_append, List.length_set]; omega)
      rw [hat2]
      exact stp_alt2 (by omega) (by omega) (by rw [← hat2]; exact hne x hxn)
    walk_at "z"
    refine ⟨fun σ H' => σ = [some (.ref s), some (.ref pd), some (.ref pr), some (.ref f), some (.int pk), none, none, none] ∧ Own B2 ((s, stA2 d (i + 1)) :: cs) H', ?_, ?_⟩
    · walk_at "z"
      refine ite_d (fun h3 => ?_) (fun h3 => ?_)
      · walk_at "z"
        refine g_lenL (.inl (.inl (O.fr _ _ hpd))) ?_
        walk_at "z"
        refine ite_d (fun h4 => ?_) (fun h4 => ?_)
        · skip
          walk_at "z"
          refine g_lenL (.inl (.inl (O.fr _ _ hpr))) ?_
          walk_at "z"
          refine g_lenL (.inl (.inl (O.fr _ _ hpd))) ?_
          walk_at "z"
          refine nxt O 0 rfl (by omega) hB hds (by omega) fun j H5 a0 a1 O => ?_
          walk_at "z"
          obtain ⟨j, rfl⟩ := Int.eq_ofNat_of_zero_le a0
          obtain ⟨at_, hat2⟩ : ∃ x, x = (recd dat).length - 5 - j := ⟨_, rfl⟩
          have hat : (((nz (recd dat)).map V.int).length : Int) - 5 - (j : Nat) = ((at_ : Nat) : Int) := by rw [hrl, hat2]; omega
          rw [hat]
          have hlt : at_ < (recd dat).length := by omega
          have hne : ∀ x, x ≠ (recd dat)[at_] → (recd dat)[at_]? ≠ some x := fun x hx h => by
            rw [List.getElem?_eq_getElem hlt] at h
            exact hx (Option.some.inj h).symm
          have hx8 := recd_lt h8 _ (List.getElem_mem hlt)
          refine g_slL (.inl (.inl (O.fr _ _ hpr))) (g_newQ O fun c1 H6 nc1 O => ?_)
          rw [cut_take (by omega), Int.toNat_natCast] at O
          walk_at "z"
          refine g_ixL (.inl (.inl (O.fr _ _ hpr))) (atI_of (by omega) (nzv_get (l := recd dat) (i := at_) (by omega) hlt)) ?_
          walk_at "z"
          refine nxt O 1 rfl (by omega) hB hds (by decide) fun r H7 r0 r1 O => ?_
          obtain ⟨r, rfl⟩ := Int.eq_ofNat_of_zero_le r0
          walk_at "z"
          refine g_new (small_le (by simp)) O fun c2 H8 nc2 O => ?_
          have ex : (((recd dat)[at_] : Nat) : Int) + 1 + (r : Nat) = (((recd dat)[at_] + 1 + r : Nat) : Int) := rfl
          rw [ex] at O
          have O : Own B2 ((c2, nl [((recd dat)[at_] + 1 + r) % 256]) :: (c1, .lst (((nz (recd dat)).map V.int).take at_)) :: (s, stA2 d (i + 1 + 1 + 1)) :: cs) H8 := O
          have hxn := alt_ne hx8 (show r < 255 by omega)
          have hxl : ((recd dat)[at_] + 1 + r) % 256 < 256 := by omega
          generalize ((recd dat)[at_] + 1 + r) % 256 = x at O hxn hxl
          refine g_addL (O.get 1) (O.get 0) (by refine small_le ?_; simp only [List.length_append, List.length_take, List.length_drop, List.length_map, nz_len, List.length_replicate, List.length_cons, List.length_nil]; omega) (g_newQ O fun c3 H9 nc3 O => ?_)
          walk_at "z"
          refine g_slL (.inl (.inl (O.fr _ _ hpr))) (g_newQ O fun c4 H10 nc4 O => ?_)
          rw [cut_drop (by omega), show ((at_ : Int) + 1).toNat = at_ + 1 by omega] at O
          refine g_addL (O.get 1) (O.get 0) (by refine small_le ?_; simp only [List.length_append, List.length_take, List.length_drop, List.length_map, nz_len, List.length_replicate, List.length_cons, List.length_nil]; omega) (g_newQ O fun c5 H11 nc5 O => ?_)
          walk_at "z"
          refine g_addL (O.get 0) (O.fr _ _ hf) (by refine small_le ?_; simp only [List.length_append, List.length_take, List.length_drop, List.length_map, nz_len, List.length_replicate, List.length_cons, List.length_nil]; omega) (g_newQ O fun c6 H12 nc6 O => ?_)
          have O := O.sub ((((((List.Sublist.refl _).cons _).cons _).cons _).cons _).cons _ |>.cons_cons _)
          have e9 : ((nz (recd dat)).map V.int).take at_ ++ (nz [x]).map V.int ++ ((nz (recd dat)).map V.int).drop (at_ + 1) ++ (nz fl).map V.int = (nz ((recd dat).set at_ x ++ fl)).map V.int := by
            rw [← set_cut hlt, nz_app, nz_app, nz_app, List.map_append, List.map_append, List.map_append, ← nz_take, ← nz_drop, List.map_take, List.map_drop]
          rw [e9] at O
          refine q ((recd dat).set at_ x ++ fl) c6 _ B2 H12 eB O (by omega) ?_ (by rw [List.length_append, List.length_set]; omega)
          rw [hat2]
          exact stp_alt3 (by omega) h8 (by omega) hxl (by rw [← hat2]; exact hne x hxn)
        · walk_at "z"
          exact ⟨rfl, O⟩
      · refine iteF ?_
        walk_at "z"
        exact ⟨rfl, O⟩
    clear O
    rintro σ H5 ⟨rfl, O⟩
    walk_at "z"
    refine g_lenL (.inl (.inl (O.fr _ _ hpd))) ?_
    walk_at "z"
    refine ⟨dat.length, by rw [hdl]; rfl, by omega, fun z H6 ez nz0 hz => ?_⟩
    have O := O.new ez nz0 hz
    obtain ⟨B3, e3, hz, O⟩ := fz O
    have hB := e3 _ _ hB
    have hpr := e3 _ _ hpr
    have hf := e3 _ _ hf
    have eB := eB.trans e3
    have hzl : ((nz (num dat.length)).map V.int).length = (num dat.length).length := by rw [List.length_map, nz_len]
    have hnp := List.length_pos_iff.mpr (num_ne dat.length)
    walk_at "z"
    refine g_lenL (.inl (.inl (O.fr _ _ hz))) ?_
    walk_at "z"
    have hlt : (num dat.length).length - 1 < (num dat.length).length := by omega
    refine g_ixL (.inl (.inl (O.fr _ _ hz))) (atI_of (by omega) (nzv_get (l := num dat.length) (i := (num dat.length).length - 1) (by omega) hlt)) ?_
    walk_at "z"
    refine g_new (small_le (by simp)) O fun c1 H7 nc1 O => ?_
    have O : Own B3 ((c1, nl [(num dat.length)[(num dat.length).length - 1] + 128]) :: (s, stA2 d (i + 1)) :: cs) H7 := O
    generalize (num dat.length)[(num dat.length).length - 1] = x at O
    walk_at "z"
    refine g_new (small_le (by simp)) O fun c2 H8 nc2 O => ?_
    walk_at "z"
    refine nxt O 2 rfl (by omega) hB hds (by decide) fun k H9 a0 a1 O => ?_
    obtain ⟨k, rfl⟩ := Int.eq_ofNat_of_zero_le a0
    refine g_repL (O.get 0) (by omega) (by omega) (by refine small_le ?_; simp only [List.length_append, List.length_take, List.length_drop, List.length_map, nz_len, List.length_replicate, List.length_cons, List.length_nil]; omega) (g_newQ O fun c3 H10 nc3 O => ?_)
    have er : (List.replicate ((k : Nat) : Int).toNat [V.int 128]).flatten = (nz (List.replicate k 128)).map V.int := by
      rw [Int.toNat_natCast]
      unfold nz
      rw [List.map_replicate, List.map_replicate]
      generalize k = m
      induction m with
      | zero => rfl
      | succ m ih => rw [List.replicate_succ, List.flatten_cons, ih, List.replicate_succ]; rfl
    rw [er] at O
    walk_at "z"
    refine g_addL (O.get 2) (O.get 0) (by refine small_le ?_; simp only [List.length_append, List.length_take, List.length_drop, List.length_map, nz_len, List.length_replicate, List.length_cons, List.length_nil]; omega) (g_newQ O fun c4 H11 nc4 O => ?_)
    walk_at "z"
    refine g_new (small_le (by simp)) O fun c5 H12 nc5 O => ?_
    refine g_addL (O.get 1) (O.get 0) (by refine small_le ?_; simp only [List.length_append, List.length_take, List.length_drop, List.length_map, nz_len, List.length_replicate, List.length_cons, List.length_nil]; omega) (g_newQ O fun c6 H13 nc6 O => ?_)
    walk_at "z"
    refine g_lenL (.inl (.inl (O.fr _ _ hz))) ?_
    walk_at "z"
    refine g_slL (.inl (.inl (O.fr _ _ hz))) (g_newQ O fun c7 H14 nc7 O => ?_)
    rw [cut_take (by omega), show ((((nz (num dat.length)).map V.int).length : Int) - 1).toNat = (num dat.length).length - 1 by omega] at O
    walk_at "z"
    refine g_addL (O.get 0) (O.get 1) (by refine small_le ?_; simp only [List.length_append, List.length_take, List.length_drop, List.length_map, nz_len, List.length_replicate, List.length_cons, List.length_nil]; omega) (g_newQ O fun c8 H15 nc8 O => ?_)
    walk_at "z"
    refine g_lenL (.inl (.inl (O.fr _ _ hz))) ?_
    walk_at "z"
    refine g_slL (.inl (.inl (O.fr _ _ hpr))) (g_newQ O fun c9 H16 nc9 O => ?_)
    rw [cut_drop (by omega), Int.toNat_natCast] at O
    refine g_addL (O.get 1) (O.get 0) (by refine small_le ?_; simp only [List.length_append, List.length_take, List.length_drop, List.length_map, nz_len, List.length_replicate, List.length_cons, List.length_nil]; omega) (g_newQ O fun c10 H17 nc10 O => ?_)
    walk_at "z"
    refine g_addL (O.get 0) (O.fr _ _ hf) (by refine small_le ?_; simp only [List.length_append, List.length_take, List.length_drop, List.length_map, nz_len, List.length_replicate, List.length_cons, List.length_nil]; omega) (g_newQ O fun c11 H18 nc11 O => ?_)
    have O := O.sub (((((((((((List.Sublist.refl _).cons _).cons _).cons _).cons _).cons _).cons _).cons _).cons _).cons _).cons _ |>.cons_cons _)
    have e9 : ((nz (num dat.length)).map V.int).take ((num dat.length).length - 1) ++ ((nz [x + 128]).map V.int ++ (nz (List.replicate k 128)).map V.int ++ [V.int 0]) ++ ((nz (recd dat)).map V.int).drop ((nz (num dat.length)).map V.int).length ++ (nz fl).map V.int
        = (nz ((num dat.length).take ((num dat.length).length - 1) ++ ([x + 128] ++ List.replicate k 128 ++ [0]) ++ ((recd dat).drop (num dat.length).length ++ fl))).map V.int := by
      rw [hzl]
      simp only [nz_app, List.map_append, ← nz_take, ← nz_drop, List.map_take, List.map_drop, List.append_assoc]
      rfl
    rw [e9] at O
    refine q _ c11 _ B3 H18 eB O (by omega) (stp_need (by omega) (by omega) x) ?_
    rw [List.length_append, List.length_append, List.length_append, List.length_append, List.length_append, List.length_take, List.length_drop, List.length_replicate]
    show _ + (1 + _ + 1) + (_ + _) ≤ _
    omega

inductive HLs (H : Hp) : List V → List (List Nat) → Prop
  | nil : HLs H [] []
  | cons {a : Addr} {r : List Nat} {ws : List V} {rs : List (List Nat)} : H a = some (nl r) → HLs H ws rs → HLs H (.ref a :: ws) (r :: rs)
theorem hls_ex {H H' : Hp} (e : Same H H') {ws : List V} {rs : List (List Nat)} (h : HLs H ws rs) : HLs H' ws rs := by
  induction h with
  | nil => exact .nil
  | cons h _ ih => exact .cons (e _ _ h) ih
theorem hls_snoc {H : Hp} {ws : List V} {rs : List (List Nat)} {a : Addr} {r : List Nat} (h : HLs H ws rs) (ha : H a = some (nl r)) : HLs H (ws ++ [.ref a]) (rs ++ [r]) := by
  induction h with
  | nil => exact .cons ha .nil
  | cons h _ ih => exact .cons h ih
theorem hls_dps {K : PySem.W.Frag} {H : Hp} {ws : List V} {rs : List (List Nat)} (h : HLs H ws rs) : DpAll K H ws (rs.map encR) := by
  induction h with
  | nil => exact .nil
  | cons h _ ih => exact .cons (.lst (.inl (.inl h)) (dps_int _)) ih
theorem hls_len {H : Hp} {ws : List V} {rs : List (List Nat)} (h : HLs H ws rs) : ws.length = rs.length := by
  induction h with
  | nil => rfl
  | cons _ _ ih => rw [List.length_cons, List.length_cons, ih]
theorem hls_get {H : Hp} {ws : List V} {rs : List (List Nat)} (h : HLs H ws rs) : ∀ {i : Nat} {x : V}, ws[i]? = some x → ∃ a r, x = .ref a ∧ rs[i]? = some r ∧ H a = some (nl r) := by
  induction h with
  | nil => intro i x hx; simp at hx
  | cons h _ ih =>
    intro i x hx
    cases i with
    | zero => simp at hx; exact ⟨_, _, hx.symm, rfl, h⟩
    | succ i => exact ih hx
theorem recds_app (a b : List (List Nat)) : recds (a ++ b) = recds a ++ recds b := by
  unfold recds
  rw [List.map_append, List.flatten_append]
def fsz (rs : List (List Nat)) (k : Nat) : Nat := (recds (rs.take k)).length
def szs (rs : List (List Nat)) (m : Nat) : List Nat := (List.range (m + 1)).map (fsz rs)
theorem szs_succ (rs : List (List Nat)) (m : Nat) : szs rs (m + 1) = szs rs m ++ [fsz rs (m + 1)] := by
  unfold szs
  rw [List.range_succ, List.map_append]
  rfl
theorem recds_len (rs : List (List Nat)) (h : ∀ r ∈ rs, r.length ≤ 2001) : (recds rs).length ≤ 2010 * rs.length := by
  induction rs with
  | nil => exact Nat.le_refl _
  | cons r rs ih =>
    have ih := ih fun x hx => h x (.tail _ hx)
    have h1 := recd_len r
    have h2 := h r (.head _)
    have h3 := num_len 3 r.length (by show _ < 2097152; omega)
    show (recd r ++ recds rs).length ≤ _
    rw [List.length_append, List.length_cons]
    omega
theorem take_succ' {rs : List (List Nat)} {i : Nat} {r : List Nat} (h : rs[i]? = some r) : recds (rs.take (i + 1)) = recds (rs.take i) ++ recd r := by
  rw [List.take_add_one, h, recds_app]
  show _ ++ (recd r ++ []) = _
  rw [List.append_nil]
theorem fsz_mono (rs : List (List Nat)) (k : Nat) : fsz rs k ≤ fsz rs (k + 1) := by
  unfold fsz
  cases h : rs[k]? with
  | none => rw [List.take_add_one, h]; simp
  | some r => rw [take_succ' h, List.length_append]; omega
theorem fsz_le (rs : List (List Nat)) (a : Nat) : ∀ b, fsz rs a ≤ fsz rs (a + b)
  | 0 => Nat.le_refl _
  | b + 1 => Nat.le_trans (fsz_le rs a b) (fsz_mono rs (a + b))
theorem count_of (rs : List (List Nat)) (e : Nat) : ∀ m, ∃ c, c ≤ m ∧ ((szs rs m).filter fun n => decide (n ≤ e)).length = c + 1 ∧ fsz rs c ≤ e ∧ (c < m → e < fsz rs (c + 1))
  | 0 => ⟨0, Nat.le_refl _, rfl, Nat.zero_le _, fun h => absurd h (by omega)⟩
  | m + 1 => by
    obtain ⟨c, h1, h2, h3, h4⟩ := count_of rs e m
    rw [szs_succ, List.filter_append, List.length_append, h2]
    by_cases hc : c < m
    · have h5 := h4 hc
      have h6 := fsz_le rs (c + 1) (m - c)
      rw [show c + 1 + (m - c) = m + 1 by omega] at h6
      refine ⟨c, by omega, ?_, h3, fun _ => h5⟩
      rw [List.filter_cons_of_neg (by simp; omega)]
      rfl
    · have : c = m := by omega
      subst this
      by_cases h6 : fsz rs (c + 1) ≤ e
      · refine ⟨c + 1, Nat.le_refl _, ?_, h6, fun h => absurd h (by omega)⟩
        rw [List.filter_cons_of_pos (by simp; exact h6)]
        rfl
      · refine ⟨c, by omega, ?_, h3, fun _ => by omega⟩
        rw [List.filter_cons_of_neg (by simp; omega)]
        rfl
theorem reads_cut {rs : List (List Nat)} {e c : Nat} (hr : ∀ r ∈ rs, r.length ≤ 2000000) (he : e ≤ (recds rs).length) (hc : c ≤ rs.length) (h1 : fsz rs c ≤ e) (h2 : c < rs.length → e < fsz rs (c + 1)) : Reads ((recds rs).take e) (rs.take c) (fsz rs c) := by
  have e1 : recds rs = recds (rs.take c) ++ recds (rs.drop c) := by rw [← recds_app, List.take_append_drop]
  have e2 : (recds rs).take e = recds (rs.take c) ++ (recds (rs.drop c)).take (e - fsz rs c) := by
    conv => lhs; rw [e1]
    rw [List.take_append, List.take_of_length_le h1]
    rfl
  rw [e2]
  refine reads_of ?_ _ fun r hm => hr r (List.mem_of_mem_take hm)
  by_cases hl : c < rs.length
  · have h3 := h2 hl
    have h4 : fsz rs (c + 1) = fsz rs c + (recd rs[c]).length := by
      unfold fsz
      rw [take_succ' (List.getElem?_eq_getElem hl), List.length_append]
    rw [List.drop_eq_getElem_cons hl]
    show stp ((recd rs[c] ++ recds (rs.drop (c + 1))).take (e - fsz rs c)) = none
    rw [List.take_append_of_le_length (by omega)]
    exact stp_cut (hr _ (List.getElem_mem hl)) (by omega)
  · rw [List.drop_of_length_le (by omega)]
    show stp (([] : List Nat).take _) = none
    rw [List.take_nil]
    exact stp_nil
theorem dl_rr (rs : List (List Nat)) (n : Nat) (h : rs.length ≤ 16777216) (hr : ∀ r ∈ rs, r.length ≤ 2001) : Dl 12 (encRR rs n) := by
  refine .tup (by simp) fun d hd => ?_
  rcases List.mem_cons.mp hd with rfl | hd
  · refine .lst (by rw [List.length_map]; exact h) fun d hd => ?_
    obtain ⟨r, hm, rfl⟩ := List.mem_map.mp hd
    exact dl_ints _ (by rw [nz_len]; have := hr r hm; omega)
  · rcases List.mem_cons.mp hd with rfl | hd
    · exact .int
    · exact nomatch hd
theorem recd_nil : recd [] = [0, 0, 0, 0, 7] := by
  unfold recd
  rw [num_small (by decide)]
  rfl
theorem own_back8 {B B' H : Hp} {cs : List (Addr × HO)} (O : Own B' cs H) (e : Same B B') : Own B cs H := ⟨e.trans O.fr, fun c hc => none_of e (O.out c hc), O.have_, O.nd⟩

def sp_law (K : PySem.W.Frag) : Sp := fun vs H Q _ => ∃ (a : Addr) (ns : List Int), vs = [.ref a] ∧ SqL K H a (ns.map V.int) ∧ ns.length ≤ 63 ∧ ∀ H', Q (.bl true) H'

theorem ok_law (T : Txt K mg) : FnOk P w K mg base CX0 15 T.a_law T.d_law P_law (sp_law K) := by
  refine T.F_law.ok sc_law (fun vs H Q E h => ?_) (fun cdv A outer s H vs Q E hr h => ?_)
  · obtain ⟨a, ns, rfl, _⟩ := h
    rfl
  · obtain ⟨a0, ns, rfl, hS, hlen, q⟩ := h
    refine ⟨_, (pss_cons (ps_set (i := 1) sc_law.nd rfl (Or.inr rfl) (pe_lst (pa_cons (pe_call (ok__law_draws T) (hr.mono (by omega)) (by rfl) T.g__law_draws T.F__law_draws.kp T.b__law_draws .nil pass0 (pa_cons (pv 0) pa_nil)) (pa_cons pe_int pa_nil))))
        (pss_cons (ps_setLc (i := 3) (own := [("k", 2)]) rfl sc_law.nd rfl rfl (sw_true rfl rfl rfl (by decide +kernel)) (pi_range1 (by rfl) T.z_range (pa_cons (pe_call (ok__law_next T) (hr.mono (by omega)) (by rfl) T.g__law_next T.F__law_next.kp T.b__law_next .nil pass0 (pa_cons (pv 1) (pa_cons pe_int pa_nil))) pa_nil)) (blkOk_by (own := [("k", 2)]) (N := N_law) (sc := defScope s_law) (by decide +kernel)) (fun _ _ _ _ _ => (pg_name (i := 2) sc_law.nd rfl (Or.inl rfl))) (fun _ _ _ _ _ => pts_nil) (fun _ _ _ _ _ => (pe_call (ok__law_bytes T) (hr.mono (by omega)) (by rfl) T.g__law_bytes T.F__law_bytes.kp T.b__law_bytes .nil pass0 (pa_cons (pv 1) pa_nil))))
        (pss_cons (ps_set (i := 4) sc_law.nd rfl (Or.inl rfl) (pe_lst pa_nil))
        (pss_cons (ps_set (i := 5) sc_law.nd rfl (Or.inl rfl) (pe_lst (pa_cons pe_int pa_nil)))
        (pss_cons (ps_for PassesOwn.never rfl (pi_list (pv 3)) (pg_name (i := 6) sc_law.nd rfl (Or.inl rfl))
          (pss_cons (ps_set (i := 7) sc_law.nd rfl (Or.inl rfl) (pe_callTy call_listU (by rfl) T.z_list (by decide +kernel) (pa_cons (pv 6) pa_nil)))
        (pss_cons (ps_if (PW.pt (pw_or (pt_not (pt_val (pe_call (ok__law_same T) (hr.mono (by omega)) (by rfl) T.g__law_same T.F__law_same.kp T.b__law_same .nil pass0 (pa_cons (pe_call (ok_checksum T) (hr.mono (by omega)) (by rfl) T.g_checksum T.F_checksum.kp T.b_checksum .nil pass0 (pa_cons (pv 7) pa_nil)) (pa_cons (pe_call (ok__law_checksum T) (hr.mono (by omega)) (by rfl) T.g__law_checksum T.F__law_checksum.kp T.b__law_checksum .nil pass0 (pa_cons (pv 6) pa_nil)) pa_nil))))) (pw_or1 (pt_not (pt_val (pe_call (ok__law_same T) (hr.mono (by omega)) (by rfl) T.g__law_same T.F__law_same.kp T.b__law_same .nil pass0 (pa_cons (pe_call (ok_write_record T) (hr.mono (by omega)) (by rfl) T.g_write_record T.F_write_record.kp T.b_write_record .nil pass0 (pa_cons (pv 7) pa_nil)) (pa_cons (pe_call (ok__law_record T) (hr.mono (by omega)) (by rfl) T.g__law_record T.F__law_record.kp T.b__law_record .nil pass0 (pa_cons (pv 6) pa_nil)) pa_nil))))))))
          (pss_one (ps_ret pe_bl))
          pss_nil)
        (pss_cons (ps_if (pt_cmpR (op_neU (hu64 hr)) (pv 7) (pv 6) (nomark _))
          (pss_one (ps_ret pe_bl))
          pss_nil)
        (pss_cons (ps_set (i := 4) sc_law.nd rfl (Or.inl rfl) (pe_op op_addU (pv 4) (pe_call (ok__law_record T) (hr.mono (by omega)) (by rfl) T.g__law_record T.F__law_record.kp T.b__law_record .nil pass0 (pa_cons (pv 6) pa_nil))))
        (pss_one (ps_expr (pe_bm PySem.F.plainAttrs_list PySem.F.slot_list_append PySem.F.type_list_append mt_append (pv 5) (pa_cons (pe_callB call_lenU (by rfl) T.z_len PySem.boot_len (pa_cons (pv 4) pa_nil)) pa_nil)))))))))
        (pss_cons (ps_set (i := 8) sc_law.nd rfl (Or.inl rfl) (pe_op op_addU (pv 4) (pe_call (ok__law_behind T) (hr.mono (by omega)) (by rfl) T.g__law_behind T.F__law_behind.kp T.b__law_behind .nil pass0 (pa_cons (pv 1) pa_nil))))
        (pss_cons (ps_set (i := 7) sc_law.nd rfl (Or.inl rfl) (pe_callTy call_listU (by rfl) T.z_list (by decide +kernel) (pa_cons (pv 8) pa_nil)))
        (pss_cons (ps_if (PW.pt (pw_or (pt_not (pt_val (pe_call (ok__law_same T) (hr.mono (by omega)) (by rfl) T.g__law_same T.F__law_same.kp T.b__law_same .nil pass0 (pa_cons (pe_call (ok_read_records T) (hr.mono (by omega)) (by rfl) T.g_read_records T.F_read_records.kp T.b_read_records .nil pass0 (pa_cons (pv 7) pa_nil)) (pa_cons (pe_tup (pa_cons (pv 3) (pa_cons (pe_callB call_lenU (by rfl) T.z_len PySem.boot_len (pa_cons (pv 4) pa_nil)) pa_nil))) pa_nil))))) (pw_or1 (pt_cmpR (op_neU (hu64 hr)) (pv 7) (pv 8) (nomark _)))))
          (pss_one (ps_ret pe_bl))
          pss_nil)
        (pss_cons (ps_for PassesOwn.never rfl (pi_range1 (by rfl) T.z_range (pa_cons pe_int pa_nil)) (pg_name (i := 2) sc_law.nd rfl (Or.inl rfl))
          (pss_cons (ps_set (i := 9) sc_law.nd rfl (Or.inr rfl) (pe_call (ok__law_next T) (hr.mono (by omega)) (by rfl) T.g__law_next T.F__law_next.kp T.b__law_next .nil pass0 (pa_cons (pv 1) (pa_cons (pe_op op_addU (pe_callB call_lenU (by rfl) T.z_len PySem.boot_len (pa_cons (pv 4) pa_nil)) pe_int) pa_nil))))
        (pss_cons (ps_set (i := 10) sc_law.nd rfl (Or.inl rfl) (pe_op op_sub (pe_callB call_lenU (by rfl) T.z_len PySem.boot_len (pa_cons (pe_lc (own := [("size", 11)]) rfl sc_law.nd (pi_list (pv 5)) (blkOk_by (own := [("size", 11)]) (N := N_law) (sc := defScope s_law) (by decide +kernel)) (fun _ _ _ _ _ => (pg_name (i := 11) sc_law.nd rfl (Or.inl rfl))) (fun _ _ _ _ _ => (pts_one (pt_cmpR op_le (pv 11) (pv 9) (nomark _)))) (fun _ _ _ _ _ => (pv 11))) pa_nil)) pe_int))
        (pss_cons (ps_set (i := 7) sc_law.nd rfl (Or.inl rfl) (pe_slice sl_U (pv 4) po_none (po_some (pv 9))))
        (pss_one (ps_if (PW.pt (pw_or (pt_not (pt_val (pe_call (ok__law_same T) (hr.mono (by omega)) (by rfl) T.g__law_same T.F__law_same.kp T.b__law_same .nil pass0 (pa_cons (pe_call (ok_read_records T) (hr.mono (by omega)) (by rfl) T.g_read_records T.F_read_records.kp T.b_read_records .nil pass0 (pa_cons (pv 7) pa_nil)) (pa_cons (pe_tup (pa_cons (pe_slice sl_U (pv 3) po_none (po_some (pv 10))) (pa_cons (pe_ix ix_seq (pv 5) (pv 10) (fun _ _ => rfl)) pa_nil))) pa_nil))))) (pw_or1 (pt_cmpR (op_neU (hu64 hr)) (pv 7) (pe_slice sl_U (pv 4) po_none (po_some (pv 9))) (nomark _)))))
          (pss_one (ps_ret pe_bl))
          pss_nil))))))
        (pss_one (ps_ret (pe_and (pe_call (ok__law_same T) (hr.mono (by omega)) (by rfl) T.g__law_same T.F__law_same.kp T.b__law_same .nil pass0 (pa_cons (pe_call (ok_read_records T) (hr.mono (by omega)) (by rfl) T.g_read_records T.F_read_records.kp T.b_read_records .nil pass0 (pa_cons (pe_lst pa_nil) pa_nil)) (pa_cons (pe_tup (pa_cons (pe_lst pa_nil) (pa_cons pe_int pa_nil))) pa_nil))) (pe_one (pe_call (ok__law_same T) (hr.mono (by omega)) (by rfl) T.g__law_same T.F__law_same.kp T.b__law_same .nil pass0 (pa_cons (pe_call (ok_write_record T) (hr.mono (by omega)) (by rfl) T.g_write_record T.F_write_record.kp T.b_write_record .nil pass0 (pa_cons (pe_lst pa_nil) pa_nil)) (pa_cons (pe_lst (pa_cons pe_int (pa_cons pe_int (pa_cons pe_int (pa_cons pe_int (pa_cons pe_int pa_nil)))))) pa_nil)))))))))))))))), ?_⟩
    walk_at "z"
    refine ⟨a0, ns, rfl, hS, fun d H1 ds e1 nd hd hds => ?_⟩
    have O := (Own.start H).new e1 nd hd
    obtain ⟨B, e1, hd, O⟩ := fz O
    walk_at "z"
    refine g_new (small_le (by simp)) O fun s H2 ns2 O => ?_
    walk_at "z"
    refine nxt O 0 rfl (by decide) hd hds (by decide) fun n H3 h0 h1 O => ?_
    walk_at "z"
    refine lcB_rng0 (fun D k H' => ∃ (B' : Hp) (rs : List (List Nat)) (ws : List V) (i : Int), Same B B' ∧ Own B' [(D, .lst ws), (s, stA2 d i)] H' ∧ 0 ≤ i ∧ HLs B' ws rs ∧ rs.length = k ∧ ∀ r ∈ rs, r.length ≤ 2001) ?_ ?_ ?_
    · intro D nD
      exact ⟨B, [], [], 21, Same.refl _, O.alloc nD, by decide, .nil, rfl, fun _ h => nomatch h⟩
    · clear O
      rintro D k H4 hk ⟨B', rs, ws, i, eB, O, hi, hL, hl, h8⟩
      walk_at "z"
      refine iteT ?_
      walk_at "z"
      refine ⟨B', s, d, i, ds, _, rfl, O.swap, hi, eB _ _ hd, hds, fun l p i H5 O hi hb hz => ?_⟩
      obtain ⟨B2, e2, hp, O⟩ := fz O
      have hwl := hls_len hL
      refine g_lcPut (acc := ws) O 1 rfl (small_of (by omega)) fun H6 O => ?_
      refine ⟨B2, rs ++ [l], _, i, eB.trans e2, O.swap, hi, hls_snoc (hls_ex e2 hL) hp, by rw [List.length_append, hl]; rfl, fun r hr => ?_⟩
      rcases List.mem_append.mp hr with hr | hr
      · exact h8 r hr
      · rw [List.mem_singleton.mp hr]; exact hz
    clear O
    rintro D H4 nD ⟨B', rs, ws, i, eB, O, hi, hL, hl, h8⟩
    obtain ⟨B1, e2, hD, O⟩ := fz O
    have hd := e2 _ _ (eB _ _ hd)
    have hL := hls_ex e2 hL
    have hwl := hls_len hL
    have hrl : rs.length ≤ 10 := by omega
    have hr2 : ∀ r ∈ rs, r.length ≤ 2000000 := fun r hr => by have := h8 r hr; omega
    have hrs := recds_len rs h8
    have hfs : ∀ k, fsz rs k ≤ 2010 * rs.length := fun k => by
      have h := recds_len (rs.take k) fun r hr => h8 r (List.mem_of_mem_take hr)
      rw [List.length_take] at h
      have h2 : (recds (rs.take k)).length ≤ 2010 * rs.length := by omega
      exact h2
    clear eB e2
    walk_at "z"
    refine g_new (Nat.zero_le _) O fun dd H5 ndd O => ?_
    obtain ⟨B2, e3, hdd, O⟩ := fz O
    have hd := e3 _ _ hd
    have hL := hls_ex e3 hL
    have hD := e3 _ _ hD
    clear e3
    walk_at "z"
    refine g_new (small_le (by simp)) O fun z H6 nz O => ?_
    walk_at "z"
    refine g_iListv (.inl (.inl (O.fr _ _ hD))) ?_
    refine forB_list ws (fun m σ H' => ∃ (B' : Hp) (dd : Addr) (x6 x7 : Option V), σ = [some (.ref a0), some (.ref s), none, some (.ref D), some (.ref dd), some (.ref z), x6, x7, none, none, none, none] ∧ Same B2 B' ∧ B' dd = some (nl (recds (rs.take m))) ∧ Own B' [(z, nl (szs rs m)), (s, stA2 d i)] H') ?_ ?_ ?_ ?_
    · exact ⟨B2, dd, none, none, rfl, Same.refl _, hdd, O⟩
    · rintro m σ H' _ ⟨B', dd, x6, x7, rfl, eB, h, O⟩
      exact .inl (.inl (O.fr _ _ (eB _ _ hD)))
    · clear O hdd
      rintro m x σ H7 hx ⟨B', dd, x6, x7, rfl, eB, hdd, O⟩
      obtain ⟨a, r, rfl, hr, ha⟩ := hls_get hL hx
      have ha := eB _ _ ha
      have hm := (List.getElem?_eq_some_iff.mp hr).1
      have hrm := h8 r (List.mem_of_getElem? hr)
      walk_at "z"
      refine g_listL (.inl (.inl (O.fr _ _ ha))) (g_newQ O fun pa H8 npa O => ?_)
      obtain ⟨B3, e3, hpa, O⟩ := fz O
      have ha := e3 _ _ ha
      have hdd := e3 _ _ hdd
      have eB := eB.trans e3
      walk_at "z"
      refine ⟨pa, r, rfl, .inl (.inl (O.fr _ _ hpa)), ?_⟩
      walk_at "z"
      refine ⟨a, r, rfl, .inl (.inl (O.fr _ _ ha)), ?_⟩
      refine ⟨_, _, .int ((ck r : Nat) : Int), .int ((ck r : Nat) : Int), rfl, .int _, .int _, .int, fun c H9 hc e9 => ?_⟩
      obtain rfl : c = true := hc.mpr rfl
      have O := O.ex e9
      walk_at "z"
      refine iteF ?_
      walk_at "z"
      refine ⟨pa, r, rfl, .inl (.inl (O.fr _ _ hpa)), by omega, fun w1 H10 e10 nw1 hw1 => ?_⟩
      have O := O.new e10 nw1 hw1
      walk_at "z"
      refine ⟨a, r, rfl, O.fr _ _ ha, by omega, fun w2 H11 e11 nw2 hw2 => ?_⟩
      have O := O.new e11 nw2 hw2
      walk_at "z"
      have hrr := recd_len r
      have hnn := num_len 3 r.length (by show _ < 2097152; omega)
      refine ⟨_, _, encR (recd r), encR (recd r), rfl, .lst (O.lst 1) (dps_int _), .lst (O.lst 0) (dps_int _), dl_ints _ (by rw [nz_len]; omega), fun c H12 hc e12 => ?_⟩
      obtain rfl : c = true := hc.mpr rfl
      have O := O.ex e12
      walk_at "z"
      refine iteF ?_
      walk_at "z"
      refine g_neD (d := encR r) (e := encR r) (.lst (.inl (.inl (O.fr _ _ hpa))) (dps_int _)) (.lst (.inl (.inl (O.fr _ _ ha))) (dps_int _)) (shaped_ints _) (shaped_ints _) ?_
      rw [show PyData.eqv (encR r) (encR r) = true from eqv_ints _]
      walk_at "z"
      refine iteF ?_
      walk_at "z"
      refine ⟨a, r, rfl, O.fr _ _ ha, by omega, fun w3 H13 e13 nw3 hw3 => ?_⟩
      have O := O.new e13 nw3 hw3
      have hft := hfs m
      unfold fsz at hft
      refine g_addL (O.fr _ _ hdd) (O.get 0) (by rw [List.length_map, List.length_map, nz_len, nz_len]; exact small_le (by omega)) (g_newQ O fun d2 H14 nd2 O => ?_)
      rw [← List.map_append, ← nz_app, ← take_succ' hr] at O
      obtain ⟨B4, e4, hd2, O⟩ := fz O
      have O := O.tail.tail.tail
      walk_at "z"
      refine g_tyL (O.lst 0) ?_
      walk_at "z"
      refine g_lenL (.inl (.inl (O.fr _ _ hd2))) ?_
      walk_at "z"
      refine g_append O 0 rfl (small_of (by rw [List.length_map, nz_len]; unfold szs; rw [List.length_map, List.length_range]; omega)) fun H15 O => ?_
      walk_at "z"
      refine ⟨B4, d2, _, _, rfl, eB.trans e4, hd2, ?_⟩
      rw [szs_succ]
      unfold nl
      rw [nz_app, List.map_append]
      have e5 : ((((K11.nz (recds (rs.take (m + 1)))).map V.int).length : Nat) : Int) = ((fsz rs (m + 1) : Nat) : Int) := by rw [List.length_map, nz_len]; rfl
      rw [e5] at O
      exact O
    clear O hdd
    rintro σ H7 ⟨B3, dd, x6, x7, rfl, eB, hdd, O⟩
    rw [List.take_of_length_le (by omega)] at hdd
    obtain ⟨B4, e4, hz, O⟩ := fz O
    have hdd := e4 _ _ hdd
    have eB := eB.trans e4
    have hd := eB _ _ hd
    have hL := hls_ex eB hL
    have hD := eB _ _ hD
    clear eB e4
    walk_at "z"
    refine ⟨B4, s, d, i, ds, [], rfl, O, hi, hd, hds, fun bh p i B5 H8 eB O hi hbh hbl => ?_⟩
    have hdd := eB _ _ hdd
    have hd := eB _ _ hd
    have hL := hls_ex eB hL
    have hD := eB _ _ hD
    have hz := eB _ _ hz
    clear eB
    have hrr : (recds rs).length ≤ 20100 := by omega
    have hddl : ((K11.nz (recds rs)).map V.int).length = (recds rs).length := by rw [List.length_map, nz_len]
    refine g_addL (O.fr _ _ hdd) (O.get 0) (by rw [hddl, List.length_map, nz_len]; exact small_le (by omega)) (g_newQ O fun wh H9 nwh O => ?_)
    rw [← List.map_append, ← nz_app] at O
    obtain ⟨B6, e6, hwh, O⟩ := fz O
    have O := O.tail
    have hdd := e6 _ _ hdd
    have hd := e6 _ _ hd
    have hL := hls_ex e6 hL
    have hD := e6 _ _ hD
    have hz := e6 _ _ hz
    clear e6
    walk_at "z"
    refine g_listL (.inl (.inl (O.fr _ _ hwh))) (g_newQ O fun pw H10 npw O => ?_)
    obtain ⟨B7, e7, hpw, O⟩ := fz O
    have hdd := e7 _ _ hdd
    have hd := e7 _ _ hd
    have hL := hls_ex e7 hL
    have hD := e7 _ _ hD
    have hz := e7 _ _ hz
    have hwh := e7 _ _ hwh
    clear e7
    walk_at "z"
    refine ⟨pw, _, rs, (recds rs).length, rfl, .inl (.inl (O.fr _ _ hpw)), by rw [List.length_append]; omega, reads_of hbh rs hr2, fun v H11 e11 hv => ?_⟩
    have O := O.ex e11
    walk_at "z"
    refine g_lenL (.inl (.inl (O.fr _ _ hdd))) ?_
    walk_at "z"
    refine g_new (small_le (by simp)) (Own.start H11) fun t H12 nt O2 => ?_
    have O := O.ex O2.fr
    have hv := dp_ex O2.fr hv
    rw [hddl] at O2
    refine ⟨_, _, encRR rs (recds rs).length, encRR rs (recds rs).length, rfl, hv, .tup (O2.tup 0) (.cons (.lst (.inl (.inl (O.fr _ _ hD))) (dps_ex O.fr (hls_dps hL))) (.cons (.int _) .nil)), dl_rr _ _ (by omega) h8, fun c H13 hc e13 => ?_⟩
    obtain rfl : c = true := hc.mpr rfl
    have O := O.ex e13
    walk_at "z"
    refine iteF ?_
    walk_at "z"
    refine g_neD (d := encR (recds rs ++ bh)) (e := encR (recds rs ++ bh)) (.lst (.inl (.inl (O.fr _ _ hpw))) (dps_int _)) (.lst (.inl (.inl (O.fr _ _ hwh))) (dps_int _)) (shaped_ints _) (shaped_ints _) ?_
    rw [show PyData.eqv (encR (recds rs ++ bh)) (encR (recds rs ++ bh)) = true from eqv_ints _]
    walk_at "z"
    refine iteF ?_
    walk_at "z"
    refine forB_rng0 (fun m σ H' => ∃ (i : Int) (x2 x7 x9 x10 : Option V), σ = [some (.ref a0), some (.ref s), x2, some (.ref D), some (.ref dd), some (.ref z), x6, x7, some (.ref wh), x9, x10, none] ∧ 0 ≤ i ∧ Own B7 [(s, stA2 d i)] H') ?_ ?_ ?_
    · exact ⟨i, _, _, none, none, rfl, hi, O⟩
    · clear O O2 hv hi
      rintro m σ H14 hm ⟨i, x2, x7, x9, x10, rfl, hi, O⟩
      walk_at "z"
      refine g_lenL (.inl (.inl (O.fr _ _ hdd))) ?_
      walk_at "z"
      rw [hddl]
      refine nxt O 0 rfl hi hd hds (by omega) fun e H15 e0 e1 O => ?_
      obtain ⟨e, rfl⟩ := Int.eq_ofNat_of_zero_le e0
      walk_at "z"
      refine g_iListv (.inl (.inl (O.fr _ _ hz))) ?_
      refine lcB_list ((K11.nz (szs rs ws.length)).map V.int) (fun L k H' => Own B7 [(L, nl (((szs rs ws.length).take k).filter fun n => decide (n ≤ e))), (s, stA2 d (i + 1))] H') ?_ ?_ ?_ ?_
      · intro L nL
        exact O.alloc nL
      · intro L k H' _ O
        exact .inl (.inl (O.fr _ _ hz))
      · intro L k x H' hx O
        obtain ⟨hk, rfl⟩ := nzv_of hx
        have hsl : (szs rs ws.length).length = ws.length + 1 := by unfold szs; rw [List.length_map, List.length_range]
        have hfl := List.length_filter_le (fun n => decide (n ≤ e)) ((szs rs ws.length).take k)
        rw [List.length_take] at hfl
        walk_at "z"
        have et : ((szs rs ws.length).take (k + 1)).filter (fun n => decide (n ≤ e)) = ((szs rs ws.length).take k).filter (fun n => decide (n ≤ e)) ++ (if (szs rs ws.length)[k] ≤ e then [(szs rs ws.length)[k]] else []) := by
          rw [← List.take_append_getElem hk, List.filter_append]
          congr 1
          by_cases h : (szs rs ws.length)[k] ≤ e
          · rw [if_pos h, List.filter_cons_of_pos (by simp; exact h)]; rfl
          · rw [if_neg h, List.filter_cons_of_neg (by simp; omega)]; rfl
        refine ite_d (fun hle => ?_) (fun hle => ?_)
        · walk_at "z"
          refine g_lcPut O 0 rfl (small_of (by rw [List.length_map, nz_len]; omega)) fun H16 O => ?_
          rw [et, if_pos (by omega)]
          unfold nl
          rw [nz_app, List.map_append]
          exact O
        · rw [et, if_neg (by omega), List.append_nil]
          exact O
      · intro L H16 nL O
        obtain ⟨c, c1, c2, c3, c4⟩ := count_of rs e ws.length
        have hsl : (szs rs ws.length).length = ws.length + 1 := by unfold szs; rw [List.length_map, List.length_range]
        rw [List.length_map, nz_len, List.take_length] at O
        walk_at "z"
        refine g_lenL (O.lst 0) ?_
        rw [List.length_map, nz_len, c2]
        have O := O.tail
        walk_at "z"
        rw [show ((c + 1 : Nat) : Int) - 1 = ((c : Nat) : Int) by omega]
        refine g_slL (.inl (.inl (O.fr _ _ hdd))) (g_newQ O fun px H17 npx O => ?_)
        rw [cut_take (by omega), Int.toNat_natCast, ← List.map_take, nz_take] at O
        obtain ⟨B8, e8, hpx, O⟩ := fz O
        have hdd8 := e8 _ _ hdd
        have hD8 := e8 _ _ hD
        have hz8 := e8 _ _ hz
        have hL8 := hls_ex e8 hL
        walk_at "z"
        have hR : Reads ((recds rs).take e) (rs.take c) (fsz rs c) := reads_cut hr2 (by omega) (by omega) c3 (fun h => c4 (by omega))
        refine ⟨px, _, _, _, rfl, .inl (.inl (O.fr _ _ hpx)), by rw [List.length_take]; omega, hR, fun v H18 e18 hv => ?_⟩
        have O := O.ex e18
        walk_at "z"
        refine g_slL (.inl (.inl (O.fr _ _ hD8))) (g_newQ (Own.start H18) fun pr H19 npr O2 => ?_)
        have O := O.ex O2.fr
        have hv := dp_ex O2.fr hv
        rw [cut_take (by omega), Int.toNat_natCast] at O2
        have hrk : DpAll K H19 (ws.take c) ((rs.take c).map encR) := by
          rw [List.map_take]
          exact dps_take c (dps_ex O.fr (hls_dps hL8))
        have hpr := O2.lst (K := K) 0
        walk_at "z"
        have hg : (szs rs ws.length)[c]'(by omega) = fsz rs c := by unfold szs; simp
        refine g_ixL (.inl (.inl (O.fr _ _ hz8))) (atI_of (by omega) (nzv_get (l := szs rs ws.length) (i := c) (by omega) (by omega))) ?_
        rw [hg]
        walk_at "z"
        refine g_new (small_le (by simp)) (Own.start H19) fun t2 H20 nt2 O3 => ?_
        have O := O.ex O3.fr
        have hv := dp_ex O3.fr hv
        refine ⟨_, _, encRR (rs.take c) (fsz rs c), encRR (rs.take c) (fsz rs c), rfl, hv, .tup (O3.tup 0) (.cons (.lst (O3.fr.seq hpr) (dps_ex O3.fr hrk)) (.cons (.int _) .nil)), dl_rr _ _ (by rw [List.length_take]; omega) (fun r hr => h8 r (List.mem_of_mem_take hr)), fun c' H21 hc e21 => ?_⟩
        obtain rfl : c' = true := hc.mpr rfl
        have O := O.ex e21
        walk_at "z"
        refine iteF ?_
        walk_at "z"
        refine g_slL (.inl (.inl (O.fr _ _ hdd8))) (g_newQ O fun py H22 npy O => ?_)
        rw [cut_take (by omega), Int.toNat_natCast, ← List.map_take, nz_take] at O
        refine g_neD (d := encR ((recds rs).take e)) (e := encR ((recds rs).take e)) (.lst (.inl (.inl (O.fr _ _ hpx))) (dps_int _)) (.lst (O.lst 0) (dps_int _)) (shaped_ints _) (shaped_ints _) ?_
        rw [show PyData.eqv (encR ((recds rs).take e)) (encR ((recds rs).take e)) = true from eqv_ints _]
        walk_at "z"
        refine iteF ?_
        walk_at "z"
        exact ⟨i + 1, _, _, _, _, rfl, by omega, own_back8 O.tail e8⟩
    · clear O O2 hv hi
      rintro σ H14 ⟨i, x2, x7, x9, x10, rfl, hi, O⟩
      walk_at "z"
      refine g_new (Nat.zero_le _) O fun f1 H15 nf1 O => ?_
      refine ⟨f1, [], [], 0, rfl, O.lst 0, Nat.zero_le _, .stop stp_nil, fun v H16 e16 hv => ?_⟩
      walk_at "z"
      refine g_new (Nat.zero_le _) (Own.start H16) fun f2 H17 nf2 O => ?_
      walk_at "z"
      refine g_new (small_le (by simp)) O fun t H18 nt O => ?_
      refine ⟨_, _, encRR [] 0, encRR [] 0, rfl, dp_ex O.fr hv, .tup (O.tup 0) (.cons (.lst (O.lst 1) .nil) (.cons (.int _) .nil)), dl_rr _ _ (Nat.zero_le _) (fun _ h => nomatch h), fun c H19 hc e19 => ?_⟩
      obtain rfl : c = true := hc.mpr rfl
      have O := O.ex e19
      walk_at "z"
      refine iteT ?_
      walk_at "z"
      refine g_new (Nat.zero_le _) O fun f3 H20 nf3 O => ?_
      refine ⟨f3, [], rfl, O.lst 0, Nat.zero_le _, fun w H21 e21 nw hw => ?_⟩
      have O := O.new e21 nw hw
      walk_at "z"
      refine g_new (small_le (by simp)) O fun f4 H22 nf4 O => ?_
      rw [recd_nil] at O
      refine ⟨_, _, encR [0, 0, 0, 0, 7], encR [0, 0, 0, 0, 7], rfl, .lst (O.lst 1) (dps_int _), .lst (O.lst 0) (dps_int (K11.nz [0, 0, 0, 0, 7])), dl_ints _ (by decide), fun c H23 hc e23 => ?_⟩
      obtain rfl : c = true := hc.mpr rfl
      exact q _

end
/-! ### what the top has written; the law's own head -/
def mk_txt {K : PySem.W.Frag} {h : Heap} {mg : Str → Option Value} {C_DamagedPacket C_Reader f__wall f_Reader___init__ f_Reader_read_byte f_Reader_read_choice f_Reader_end f_Reader_read_number f_Reader_read_count f_Reader_read_character f_Reader_read_string f_Reader_read_mark f_Reader_read_deed f_Reader_read_deeds f_Reader_read_triple f_Reader_read_triples f_Reader_read_packet f_write_number f_checksum f_write_record f__read_size f_read_records f__law_mix f__law_draws f__law_at f__law_is_integer f__law_same f__law_next f__law_number f__law_checksum f__law_record f__law_bytes f__law_behind f_law : Addr} (X : K.In h) (G : h.Ns mainGlobals mg)
    {od__wall an__wall : Option Addr} {sl__wall : Array (Option Value)} {oc__wall kV__wall dc__wall pm__wall cd__wall ct__wall : Value}
    {od_Reader___init__ an_Reader___init__ : Option Addr} {sl_Reader___init__ : Array (Option Value)} {oc_Reader___init__ kV_Reader___init__ dc_Reader___init__ pm_Reader___init__ cd_Reader___init__ ct_Reader___init__ : Value}
    {od_Reader_read_byte an_Reader_read_byte : Option Addr} {sl_Reader_read_byte : Array (Option Value)} {oc_Reader_read_byte kV_Reader_read_byte dc_Reader_read_byte pm_Reader_read_byte cd_Reader_read_byte ct_Reader_read_byte : Value}
    {od_Reader_read_choice an_Reader_read_choice : Option Addr} {sl_Reader_read_choice : Array (Option Value)} {oc_Reader_read_choice kV_Reader_read_choice dc_Reader_read_choice pm_Reader_read_choice cd_Reader_read_choice ct_Reader_read_choice : Value}
    {od_Reader_end an_Reader_end : Option Addr} {sl_Reader_end : Array (Option Value)} {oc_Reader_end kV_Reader_end dc_Reader_end pm_Reader_end cd_Reader_end ct_Reader_end : Value}
    {od_Reader_read_number an_Reader_read_number : Option Addr} {sl_Reader_read_number : Array (Option Value)} {oc_Reader_read_number kV_Reader_read_number dc_Reader_read_number pm_Reader_read_number cd_Reader_read_number ct_Reader_read_number : Value}
    {od_Reader_read_count an_Reader_read_count : Option Addr} {sl_Reader_read_count : Array (Option Value)} {oc_Reader_read_count kV_Reader_read_count dc_Reader_read_count pm_Reader_read_count cd_Reader_read_count ct_Reader_read_count : Value}
    {od_Reader_read_character an_Reader_read_character : Option Addr} {sl_Reader_read_character : Array (Option Value)} {oc_Reader_read_character kV_Reader_read_character dc_Reader_read_character pm_Reader_read_character cd_Reader_read_character ct_Reader_read_character : Value}
    {od_Reader_read_string an_Reader_read_string : Option Addr} {sl_Reader_read_string : Array (Option Value)} {oc_Reader_read_string kV_Reader_read_string dc_Reader_read_string pm_Reader_read_string cd_Reader_read_string ct_Reader_read_string : Value}
    {od_Reader_read_mark an_Reader_read_mark : Option Addr} {sl_Reader_read_mark : Array (Option Value)} {oc_Reader_read_mark kV_Reader_read_mark dc_Reader_read_mark pm_Reader_read_mark cd_Reader_read_mark ct_Reader_read_mark : Value}
    {od_Reader_read_deed an_Reader_read_deed : Option Addr} {sl_Reader_read_deed : Array (Option Value)} {oc_Reader_read_deed kV_Reader_read_deed dc_Reader_read_deed pm_Reader_read_deed cd_Reader_read_deed ct_Reader_read_deed : Value}
    {od_Reader_read_deeds an_Reader_read_deeds : Option Addr} {sl_Reader_read_deeds : Array (Option Value)} {oc_Reader_read_deeds kV_Reader_read_deeds dc_Reader_read_deeds pm_Reader_read_deeds cd_Reader_read_deeds ct_Reader_read_deeds : Value}
    {od_Reader_read_triple an_Reader_read_triple : Option Addr} {sl_Reader_read_triple : Array (Option Value)} {oc_Reader_read_triple kV_Reader_read_triple dc_Reader_read_triple pm_Reader_read_triple cd_Reader_read_triple ct_Reader_read_triple : Value}
    {od_Reader_read_triples an_Reader_read_triples : Option Addr} {sl_Reader_read_triples : Array (Option Value)} {oc_Reader_read_triples kV_Reader_read_triples dc_Reader_read_triples pm_Reader_read_triples cd_Reader_read_triples ct_Reader_read_triples : Value}
    {od_Reader_read_packet an_Reader_read_packet : Option Addr} {sl_Reader_read_packet : Array (Option Value)} {oc_Reader_read_packet kV_Reader_read_packet dc_Reader_read_packet pm_Reader_read_packet cd_Reader_read_packet ct_Reader_read_packet : Value}
    {od_write_number an_write_number : Option Addr} {sl_write_number : Array (Option Value)} {oc_write_number kV_write_number dc_write_number pm_write_number cd_write_number ct_write_number : Value}
    {od_checksum an_checksum : Option Addr} {sl_checksum : Array (Option Value)} {oc_checksum kV_checksum dc_checksum pm_checksum cd_checksum ct_checksum : Value}
    {od_write_record an_write_record : Option Addr} {sl_write_record : Array (Option Value)} {oc_write_record kV_write_record dc_write_record pm_write_record cd_write_record ct_write_record : Value}
    {od__read_size an__read_size : Option Addr} {sl__read_size : Array (Option Value)} {oc__read_size kV__read_size dc__read_size pm__read_size cd__read_size ct__read_size : Value}
    {od_read_records an_read_records : Option Addr} {sl_read_records : Array (Option Value)} {oc_read_records kV_read_records dc_read_records pm_read_records cd_read_records ct_read_records : Value}
    {od__law_mix an__law_mix : Option Addr} {sl__law_mix : Array (Option Value)} {oc__law_mix kV__law_mix dc__law_mix pm__law_mix cd__law_mix ct__law_mix : Value}
    {od__law_draws an__law_draws : Option Addr} {sl__law_draws : Array (Option Value)} {oc__law_draws kV__law_draws dc__law_draws pm__law_draws cd__law_draws ct__law_draws : Value}
    {od__law_at an__law_at : Option Addr} {sl__law_at : Array (Option Value)} {oc__law_at kV__law_at dc__law_at pm__law_at cd__law_at ct__law_at : Value}
    {od__law_is_integer an__law_is_integer : Option Addr} {sl__law_is_integer : Array (Option Value)} {oc__law_is_integer kV__law_is_integer dc__law_is_integer pm__law_is_integer cd__law_is_integer ct__law_is_integer : Value}
    {od__law_same an__law_same : Option Addr} {sl__law_same : Array (Option Value)} {oc__law_same kV__law_same dc__law_same pm__law_same cd__law_same ct__law_same : Value}
    {od__law_next an__law_next : Option Addr} {sl__law_next : Array (Option Value)} {oc__law_next kV__law_next dc__law_next pm__law_next cd__law_next ct__law_next : Value}
    {od__law_number an__law_number : Option Addr} {sl__law_number : Array (Option Value)} {oc__law_number kV__law_number dc__law_number pm__law_number cd__law_number ct__law_number : Value}
    {od__law_checksum an__law_checksum : Option Addr} {sl__law_checksum : Array (Option Value)} {oc__law_checksum kV__law_checksum dc__law_checksum pm__law_checksum cd__law_checksum ct__law_checksum : Value}
    {od__law_record an__law_record : Option Addr} {sl__law_record : Array (Option Value)} {oc__law_record kV__law_record dc__law_record pm__law_record cd__law_record ct__law_record : Value}
    {od__law_bytes an__law_bytes : Option Addr} {sl__law_bytes : Array (Option Value)} {oc__law_bytes kV__law_bytes dc__law_bytes pm__law_bytes cd__law_bytes ct__law_bytes : Value}
    {od__law_behind an__law_behind : Option Addr} {sl__law_behind : Array (Option Value)} {oc__law_behind kV__law_behind dc__law_behind pm__law_behind cd__law_behind ct__law_behind : Value}
    {od_law an_law : Option Addr} {sl_law : Array (Option Value)} {oc_law kV_law dc_law pm_law cd_law ct_law : Value}
    {tk_NB : Tok}
    {tk_CL : Tok}
    (aC_DamagedPacket : PySem.W.nsIn K mainGlobals "DamagedPacket" = some (some (.ref C_DamagedPacket)))
    (xE_DamagedPacket : PySem.W.excIn K C_DamagedPacket [.type "ValueError", .type "Exception", .type "BaseException", .type "object"] "ValueError.__new__" = true)
    (kC_DamagedPacket : PySem.W.keepIn K (.ref C_DamagedPacket) = true)
    (bE_DamagedPacket : PySem.W.subIn K (.ref C_DamagedPacket) (.type "BaseException") = some true)
    (tE_DamagedPacket : PySem.W.typeIn K (.ref C_DamagedPacket) = some (.type "type"))
    (iE_DamagedPacket : PySem.W.isClsIn K C_DamagedPacket = true)
    (sE_DamagedPacket : PySem.W.subIn K (.ref C_DamagedPacket) (.ref C_DamagedPacket) = some true)
    (aC_Reader : PySem.W.nsIn K mainGlobals "Reader" = some (some (.ref C_Reader)))
    (pg_Reader : PySem.W.plainGet K C_Reader Str.empty = true)
    (hd_Reader : PySem.W.hasDictIn K C_Reader = true)
    (po_Reader : PySem.W.plainOver K C_Reader = true)
    (sa_Reader : PySem.W.findIn K (.ref C_Reader) "__setattr__" = some (some (.builtin "object.__setattr__")))
    (mk_Reader : PySem.W.makesIn K C_Reader = true)
    (kC_Reader : PySem.W.keepIn K (.ref C_Reader) = true)
    (nA_Reader_data : PySem.W.findIn K (.ref C_Reader) "data" = some none)
    (nA_Reader_at : PySem.W.findIn K (.ref C_Reader) "at" = some none)
    (a__wall : PySem.W.nsIn K mainGlobals "_wall" = some (some (.ref f__wall)))
    (l__wall : K.lookup f__wall = some ⟨oc__wall, od__wall, .func (PySem.W.fnOf "_wall" "_wall" (defArgs s__wall) (defBody s__wall) (defScope s__wall) .none kV__wall dc__wall pm__wall an__wall cd__wall ct__wall), sl__wall⟩)
    (c__wall : PySem.W.codeIn K cd__wall "_wall" = true)
    (k__wall : PySem.W.keepIn K (.ref f__wall) = true)
    (a_Reader___init__ : PySem.W.findIn K (.ref C_Reader) "__init__" = some (some (.ref f_Reader___init__)))
    (i_Reader___init__ : PySem.W.isFn K (.ref f_Reader___init__) = true)
    (l_Reader___init__ : K.lookup f_Reader___init__ = some ⟨oc_Reader___init__, od_Reader___init__, .func (PySem.W.fnOf "__init__" "Reader.__init__" (defArgs s_Reader___init__) (defBody s_Reader___init__) (defScope s_Reader___init__) .none kV_Reader___init__ dc_Reader___init__ pm_Reader___init__ an_Reader___init__ cd_Reader___init__ ct_Reader___init__), sl_Reader___init__⟩)
    (c_Reader___init__ : PySem.W.codeIn K cd_Reader___init__ "Reader.__init__" = true)
    (k_Reader___init__ : PySem.W.keepIn K (.ref f_Reader___init__) = true)
    (a_Reader_read_byte : PySem.W.findIn K (.ref C_Reader) "read_byte" = some (some (.ref f_Reader_read_byte)))
    (i_Reader_read_byte : PySem.W.isFn K (.ref f_Reader_read_byte) = true)
    (l_Reader_read_byte : K.lookup f_Reader_read_byte = some ⟨oc_Reader_read_byte, od_Reader_read_byte, .func (PySem.W.fnOf "read_byte" "Reader.read_byte" (defArgs s_Reader_read_byte) (defBody s_Reader_read_byte) (defScope s_Reader_read_byte) .none kV_Reader_read_byte dc_Reader_read_byte pm_Reader_read_byte an_Reader_read_byte cd_Reader_read_byte ct_Reader_read_byte), sl_Reader_read_byte⟩)
    (c_Reader_read_byte : PySem.W.codeIn K cd_Reader_read_byte "Reader.read_byte" = true)
    (k_Reader_read_byte : PySem.W.keepIn K (.ref f_Reader_read_byte) = true)
    (a_Reader_read_choice : PySem.W.findIn K (.ref C_Reader) "read_choice" = some (some (.ref f_Reader_read_choice)))
    (i_Reader_read_choice : PySem.W.isFn K (.ref f_Reader_read_choice) = true)
    (l_Reader_read_choice : K.lookup f_Reader_read_choice = some ⟨oc_Reader_read_choice, od_Reader_read_choice, .func (PySem.W.fnOf "read_choice" "Reader.read_choice" (defArgs s_Reader_read_choice) (defBody s_Reader_read_choice) (defScope s_Reader_read_choice) .none kV_Reader_read_choice dc_Reader_read_choice pm_Reader_read_choice an_Reader_read_choice cd_Reader_read_choice ct_Reader_read_choice), sl_Reader_read_choice⟩)
    (c_Reader_read_choice : PySem.W.codeIn K cd_Reader_read_choice "Reader.read_choice" = true)
    (k_Reader_read_choice : PySem.W.keepIn K (.ref f_Reader_read_choice) = true)
    (a_Reader_end : PySem.W.findIn K (.ref C_Reader) "end" = some (some (.ref f_Reader_end)))
    (i_Reader_end : PySem.W.isFn K (.ref f_Reader_end) = true)
    (l_Reader_end : K.lookup f_Reader_end = some ⟨oc_Reader_end, od_Reader_end, .func (PySem.W.fnOf "end" "Reader.end" (defArgs s_Reader_end) (defBody s_Reader_end) (defScope s_Reader_end) .none kV_Reader_end dc_Reader_end pm_Reader_end an_Reader_end cd_Reader_end ct_Reader_end), sl_Reader_end⟩)
    (c_Reader_end : PySem.W.codeIn K cd_Reader_end "Reader.end" = true)
    (k_Reader_end : PySem.W.keepIn K (.ref f_Reader_end) = true)
    (a_Reader_read_number : PySem.W.findIn K (.ref C_Reader) "read_number" = some (some (.ref f_Reader_read_number)))
    (i_Reader_read_number : PySem.W.isFn K (.ref f_Reader_read_number) = true)
    (l_Reader_read_number : K.lookup f_Reader_read_number = some ⟨oc_Reader_read_number, od_Reader_read_number, .func (PySem.W.fnOf "read_number" "Reader.read_number" (defArgs s_Reader_read_number) (defBody s_Reader_read_number) (defScope s_Reader_read_number) .none kV_Reader_read_number dc_Reader_read_number pm_Reader_read_number an_Reader_read_number cd_Reader_read_number ct_Reader_read_number), sl_Reader_read_number⟩)
    (c_Reader_read_number : PySem.W.codeIn K cd_Reader_read_number "Reader.read_number" = true)
    (k_Reader_read_number : PySem.W.keepIn K (.ref f_Reader_read_number) = true)
    (a_Reader_read_count : PySem.W.findIn K (.ref C_Reader) "read_count" = some (some (.ref f_Reader_read_count)))
    (i_Reader_read_count : PySem.W.isFn K (.ref f_Reader_read_count) = true)
    (l_Reader_read_count : K.lookup f_Reader_read_count = some ⟨oc_Reader_read_count, od_Reader_read_count, .func (PySem.W.fnOf "read_count" "Reader.read_count" (defArgs s_Reader_read_count) (defBody s_Reader_read_count) (defScope s_Reader_read_count) .none kV_Reader_read_count dc_Reader_read_count pm_Reader_read_count an_Reader_read_count cd_Reader_read_count ct_Reader_read_count), sl_Reader_read_count⟩)
    (c_Reader_read_count : PySem.W.codeIn K cd_Reader_read_count "Reader.read_count" = true)
    (k_Reader_read_count : PySem.W.keepIn K (.ref f_Reader_read_count) = true)
    (a_Reader_read_character : PySem.W.findIn K (.ref C_Reader) "read_character" = some (some (.ref f_Reader_read_character)))
    (i_Reader_read_character : PySem.W.isFn K (.ref f_Reader_read_character) = true)
    (l_Reader_read_character : K.lookup f_Reader_read_character = some ⟨oc_Reader_read_character, od_Reader_read_character, .func (PySem.W.fnOf "read_character" "Reader.read_character" (defArgs s_Reader_read_character) (defBody s_Reader_read_character) (defScope s_Reader_read_character) .none kV_Reader_read_character dc_Reader_read_character pm_Reader_read_character an_Reader_read_character cd_Reader_read_character ct_Reader_read_character), sl_Reader_read_character⟩)
    (c_Reader_read_character : PySem.W.codeIn K cd_Reader_read_character "Reader.read_character" = true)
    (k_Reader_read_character : PySem.W.keepIn K (.ref f_Reader_read_character) = true)
    (a_Reader_read_string : PySem.W.findIn K (.ref C_Reader) "read_string" = some (some (.ref f_Reader_read_string)))
    (i_Reader_read_string : PySem.W.isFn K (.ref f_Reader_read_string) = true)
    (l_Reader_read_string : K.lookup f_Reader_read_string = some ⟨oc_Reader_read_string, od_Reader_read_string, .func (PySem.W.fnOf "read_string" "Reader.read_string" (defArgs s_Reader_read_string) (defBody s_Reader_read_string) (defScope s_Reader_read_string) .none kV_Reader_read_string dc_Reader_read_string pm_Reader_read_string an_Reader_read_string cd_Reader_read_string ct_Reader_read_string), sl_Reader_read_string⟩)
    (c_Reader_read_string : PySem.W.codeIn K cd_Reader_read_string "Reader.read_string" = true)
    (k_Reader_read_string : PySem.W.keepIn K (.ref f_Reader_read_string) = true)
    (a_Reader_read_mark : PySem.W.findIn K (.ref C_Reader) "read_mark" = some (some (.ref f_Reader_read_mark)))
    (i_Reader_read_mark : PySem.W.isFn K (.ref f_Reader_read_mark) = true)
    (l_Reader_read_mark : K.lookup f_Reader_read_mark = some ⟨oc_Reader_read_mark, od_Reader_read_mark, .func (PySem.W.fnOf "read_mark" "Reader.read_mark" (defArgs s_Reader_read_mark) (defBody s_Reader_read_mark) (defScope s_Reader_read_mark) .none kV_Reader_read_mark dc_Reader_read_mark pm_Reader_read_mark an_Reader_read_mark cd_Reader_read_mark ct_Reader_read_mark), sl_Reader_read_mark⟩)
    (c_Reader_read_mark : PySem.W.codeIn K cd_Reader_read_mark "Reader.read_mark" = true)
    (k_Reader_read_mark : PySem.W.keepIn K (.ref f_Reader_read_mark) = true)
    (a_Reader_read_deed : PySem.W.findIn K (.ref C_Reader) "read_deed" = some (some (.ref f_Reader_read_deed)))
    (i_Reader_read_deed : PySem.W.isFn K (.ref f_Reader_read_deed) = true)
    (l_Reader_read_deed : K.lookup f_Reader_read_deed = some ⟨oc_Reader_read_deed, od_Reader_read_deed, .func (PySem.W.fnOf "read_deed" "Reader.read_deed" (defArgs s_Reader_read_deed) (defBody s_Reader_read_deed) (defScope s_Reader_read_deed) .none kV_Reader_read_deed dc_Reader_read_deed pm_Reader_read_deed an_Reader_read_deed cd_Reader_read_deed ct_Reader_read_deed), sl_Reader_read_deed⟩)
    (c_Reader_read_deed : PySem.W.codeIn K cd_Reader_read_deed "Reader.read_deed" = true)
    (k_Reader_read_deed : PySem.W.keepIn K (.ref f_Reader_read_deed) = true)
    (a_Reader_read_deeds : PySem.W.findIn K (.ref C_Reader) "read_deeds" = some (some (.ref f_Reader_read_deeds)))
    (i_Reader_read_deeds : PySem.W.isFn K (.ref f_Reader_read_deeds) = true)
    (l_Reader_read_deeds : K.lookup f_Reader_read_deeds = some ⟨oc_Reader_read_deeds, od_Reader_read_deeds, .func (PySem.W.fnOf "read_deeds" "Reader.read_deeds" (defArgs s_Reader_read_deeds) (defBody s_Reader_read_deeds) (defScope s_Reader_read_deeds) .none kV_Reader_read_deeds dc_Reader_read_deeds pm_Reader_read_deeds an_Reader_read_deeds cd_Reader_read_deeds ct_Reader_read_deeds), sl_Reader_read_deeds⟩)
    (c_Reader_read_deeds : PySem.W.codeIn K cd_Reader_read_deeds "Reader.read_deeds" = true)
    (k_Reader_read_deeds : PySem.W.keepIn K (.ref f_Reader_read_deeds) = true)
    (a_Reader_read_triple : PySem.W.findIn K (.ref C_Reader) "read_triple" = some (some (.ref f_Reader_read_triple)))
    (i_Reader_read_triple : PySem.W.isFn K (.ref f_Reader_read_triple) = true)
    (l_Reader_read_triple : K.lookup f_Reader_read_triple = some ⟨oc_Reader_read_triple, od_Reader_read_triple, .func (PySem.W.fnOf "read_triple" "Reader.read_triple" (defArgs s_Reader_read_triple) (defBody s_Reader_read_triple) (defScope s_Reader_read_triple) .none kV_Reader_read_triple dc_Reader_read_triple pm_Reader_read_triple an_Reader_read_triple cd_Reader_read_triple ct_Reader_read_triple), sl_Reader_read_triple⟩)
    (c_Reader_read_triple : PySem.W.codeIn K cd_Reader_read_triple "Reader.read_triple" = true)
    (k_Reader_read_triple : PySem.W.keepIn K (.ref f_Reader_read_triple) = true)
    (a_Reader_read_triples : PySem.W.findIn K (.ref C_Reader) "read_triples" = some (some (.ref f_Reader_read_triples)))
    (i_Reader_read_triples : PySem.W.isFn K (.ref f_Reader_read_triples) = true)
    (l_Reader_read_triples : K.lookup f_Reader_read_triples = some ⟨oc_Reader_read_triples, od_Reader_read_triples, .func (PySem.W.fnOf "read_triples" "Reader.read_triples" (defArgs s_Reader_read_triples) (defBody s_Reader_read_triples) (defScope s_Reader_read_triples) .none kV_Reader_read_triples dc_Reader_read_triples pm_Reader_read_triples an_Reader_read_triples cd_Reader_read_triples ct_Reader_read_triples), sl_Reader_read_triples⟩)
    (c_Reader_read_triples : PySem.W.codeIn K cd_Reader_read_triples "Reader.read_triples" = true)
    (k_Reader_read_triples : PySem.W.keepIn K (.ref f_Reader_read_triples) = true)
    (a_Reader_read_packet : PySem.W.findIn K (.ref C_Reader) "read_packet" = some (some (.ref f_Reader_read_packet)))
    (i_Reader_read_packet : PySem.W.isFn K (.ref f_Reader_read_packet) = true)
    (l_Reader_read_packet : K.lookup f_Reader_read_packet = some ⟨oc_Reader_read_packet, od_Reader_read_packet, .func (PySem.W.fnOf "read_packet" "Reader.read_packet" (defArgs s_Reader_read_packet) (defBody s_Reader_read_packet) (defScope s_Reader_read_packet) .none kV_Reader_read_packet dc_Reader_read_packet pm_Reader_read_packet an_Reader_read_packet cd_Reader_read_packet ct_Reader_read_packet), sl_Reader_read_packet⟩)
    (c_Reader_read_packet : PySem.W.codeIn K cd_Reader_read_packet "Reader.read_packet" = true)
    (k_Reader_read_packet : PySem.W.keepIn K (.ref f_Reader_read_packet) = true)
    (a_write_number : PySem.W.nsIn K mainGlobals "write_number" = some (some (.ref f_write_number)))
    (l_write_number : K.lookup f_write_number = some ⟨oc_write_number, od_write_number, .func (PySem.W.fnOf "write_number" "write_number" (defArgs s_write_number) (defBody s_write_number) (defScope s_write_number) .none kV_write_number dc_write_number pm_write_number an_write_number cd_write_number ct_write_number), sl_write_number⟩)
    (c_write_number : PySem.W.codeIn K cd_write_number "write_number" = true)
    (k_write_number : PySem.W.keepIn K (.ref f_write_number) = true)
    (a_checksum : PySem.W.nsIn K mainGlobals "checksum" = some (some (.ref f_checksum)))
    (l_checksum : K.lookup f_checksum = some ⟨oc_checksum, od_checksum, .func (PySem.W.fnOf "checksum" "checksum" (defArgs s_checksum) (defBody s_checksum) (defScope s_checksum) .none kV_checksum dc_checksum pm_checksum an_checksum cd_checksum ct_checksum), sl_checksum⟩)
    (c_checksum : PySem.W.codeIn K cd_checksum "checksum" = true)
    (k_checksum : PySem.W.keepIn K (.ref f_checksum) = true)
    (a_write_record : PySem.W.nsIn K mainGlobals "write_record" = some (some (.ref f_write_record)))
    (l_write_record : K.lookup f_write_record = some ⟨oc_write_record, od_write_record, .func (PySem.W.fnOf "write_record" "write_record" (defArgs s_write_record) (defBody s_write_record) (defScope s_write_record) .none kV_write_record dc_write_record pm_write_record an_write_record cd_write_record ct_write_record), sl_write_record⟩)
    (c_write_record : PySem.W.codeIn K cd_write_record "write_record" = true)
    (k_write_record : PySem.W.keepIn K (.ref f_write_record) = true)
    (a__read_size : PySem.W.nsIn K mainGlobals "_read_size" = some (some (.ref f__read_size)))
    (l__read_size : K.lookup f__read_size = some ⟨oc__read_size, od__read_size, .func (PySem.W.fnOf "_read_size" "_read_size" (defArgs s__read_size) (defBody s__read_size) (defScope s__read_size) .none kV__read_size dc__read_size pm__read_size an__read_size cd__read_size ct__read_size), sl__read_size⟩)
    (c__read_size : PySem.W.codeIn K cd__read_size "_read_size" = true)
    (k__read_size : PySem.W.keepIn K (.ref f__read_size) = true)
    (a_read_records : PySem.W.nsIn K mainGlobals "read_records" = some (some (.ref f_read_records)))
    (l_read_records : K.lookup f_read_records = some ⟨oc_read_records, od_read_records, .func (PySem.W.fnOf "read_records" "read_records" (defArgs s_read_records) (defBody s_read_records) (defScope s_read_records) .none kV_read_records dc_read_records pm_read_records an_read_records cd_read_records ct_read_records), sl_read_records⟩)
    (c_read_records : PySem.W.codeIn K cd_read_records "read_records" = true)
    (k_read_records : PySem.W.keepIn K (.ref f_read_records) = true)
    (a__law_mix : PySem.W.nsIn K mainGlobals "_law_mix" = some (some (.ref f__law_mix)))
    (l__law_mix : K.lookup f__law_mix = some ⟨oc__law_mix, od__law_mix, .func (PySem.W.fnOf "_law_mix" "_law_mix" (defArgs s__law_mix) (defBody s__law_mix) (defScope s__law_mix) .none kV__law_mix dc__law_mix pm__law_mix an__law_mix cd__law_mix ct__law_mix), sl__law_mix⟩)
    (c__law_mix : PySem.W.codeIn K cd__law_mix "_law_mix" = true)
    (k__law_mix : PySem.W.keepIn K (.ref f__law_mix) = true)
    (a__law_draws : PySem.W.nsIn K mainGlobals "_law_draws" = some (some (.ref f__law_draws)))
    (l__law_draws : K.lookup f__law_draws = some ⟨oc__law_draws, od__law_draws, .func (PySem.W.fnOf "_law_draws" "_law_draws" (defArgs s__law_draws) (defBody s__law_draws) (defScope s__law_draws) .none kV__law_draws dc__law_draws pm__law_draws an__law_draws cd__law_draws ct__law_draws), sl__law_draws⟩)
    (c__law_draws : PySem.W.codeIn K cd__law_draws "_law_draws" = true)
    (k__law_draws : PySem.W.keepIn K (.ref f__law_draws) = true)
    (a__law_at : PySem.W.nsIn K mainGlobals "_law_at" = some (some (.ref f__law_at)))
    (l__law_at : K.lookup f__law_at = some ⟨oc__law_at, od__law_at, .func (PySem.W.fnOf "_law_at" "_law_at" (defArgs s__law_at) (defBody s__law_at) (defScope s__law_at) .none kV__law_at dc__law_at pm__law_at an__law_at cd__law_at ct__law_at), sl__law_at⟩)
    (c__law_at : PySem.W.codeIn K cd__law_at "_law_at" = true)
    (k__law_at : PySem.W.keepIn K (.ref f__law_at) = true)
    (a__law_is_integer : PySem.W.nsIn K mainGlobals "_law_is_integer" = some (some (.ref f__law_is_integer)))
    (l__law_is_integer : K.lookup f__law_is_integer = some ⟨oc__law_is_integer, od__law_is_integer, .func (PySem.W.fnOf "_law_is_integer" "_law_is_integer" (defArgs s__law_is_integer) (defBody s__law_is_integer) (defScope s__law_is_integer) .none kV__law_is_integer dc__law_is_integer pm__law_is_integer an__law_is_integer cd__law_is_integer ct__law_is_integer), sl__law_is_integer⟩)
    (c__law_is_integer : PySem.W.codeIn K cd__law_is_integer "_law_is_integer" = true)
    (k__law_is_integer : PySem.W.keepIn K (.ref f__law_is_integer) = true)
    (a__law_same : PySem.W.nsIn K mainGlobals "_law_same" = some (some (.ref f__law_same)))
    (l__law_same : K.lookup f__law_same = some ⟨oc__law_same, od__law_same, .func (PySem.W.fnOf "_law_same" "_law_same" (defArgs s__law_same) (defBody s__law_same) (defScope s__law_same) .none kV__law_same dc__law_same pm__law_same an__law_same cd__law_same ct__law_same), sl__law_same⟩)
    (c__law_same : PySem.W.codeIn K cd__law_same "_law_same" = true)
    (k__law_same : PySem.W.keepIn K (.ref f__law_same) = true)
    (a__law_next : PySem.W.nsIn K mainGlobals "_law_next" = some (some (.ref f__law_next)))
    (l__law_next : K.lookup f__law_next = some ⟨oc__law_next, od__law_next, .func (PySem.W.fnOf "_law_next" "_law_next" (defArgs s__law_next) (defBody s__law_next) (defScope s__law_next) .none kV__law_next dc__law_next pm__law_next an__law_next cd__law_next ct__law_next), sl__law_next⟩)
    (c__law_next : PySem.W.codeIn K cd__law_next "_law_next" = true)
    (k__law_next : PySem.W.keepIn K (.ref f__law_next) = true)
    (a__law_number : PySem.W.nsIn K mainGlobals "_law_number" = some (some (.ref f__law_number)))
    (l__law_number : K.lookup f__law_number = some ⟨oc__law_number, od__law_number, .func (PySem.W.fnOf "_law_number" "_law_number" (defArgs s__law_number) (defBody s__law_number) (defScope s__law_number) .none kV__law_number dc__law_number pm__law_number an__law_number cd__law_number ct__law_number), sl__law_number⟩)
    (c__law_number : PySem.W.codeIn K cd__law_number "_law_number" = true)
    (k__law_number : PySem.W.keepIn K (.ref f__law_number) = true)
    (a__law_checksum : PySem.W.nsIn K mainGlobals "_law_checksum" = some (some (.ref f__law_checksum)))
    (l__law_checksum : K.lookup f__law_checksum = some ⟨oc__law_checksum, od__law_checksum, .func (PySem.W.fnOf "_law_checksum" "_law_checksum" (defArgs s__law_checksum) (defBody s__law_checksum) (defScope s__law_checksum) .none kV__law_checksum dc__law_checksum pm__law_checksum an__law_checksum cd__law_checksum ct__law_checksum), sl__law_checksum⟩)
    (c__law_checksum : PySem.W.codeIn K cd__law_checksum "_law_checksum" = true)
    (k__law_checksum : PySem.W.keepIn K (.ref f__law_checksum) = true)
    (a__law_record : PySem.W.nsIn K mainGlobals "_law_record" = some (some (.ref f__law_record)))
    (l__law_record : K.lookup f__law_record = some ⟨oc__law_record, od__law_record, .func (PySem.W.fnOf "_law_record" "_law_record" (defArgs s__law_record) (defBody s__law_record) (defScope s__law_record) .none kV__law_record dc__law_record pm__law_record an__law_record cd__law_record ct__law_record), sl__law_record⟩)
    (c__law_record : PySem.W.codeIn K cd__law_record "_law_record" = true)
    (k__law_record : PySem.W.keepIn K (.ref f__law_record) = true)
    (a__law_bytes : PySem.W.nsIn K mainGlobals "_law_bytes" = some (some (.ref f__law_bytes)))
    (l__law_bytes : K.lookup f__law_bytes = some ⟨oc__law_bytes, od__law_bytes, .func (PySem.W.fnOf "_law_bytes" "_law_bytes" (defArgs s__law_bytes) (defBody s__law_bytes) (defScope s__law_bytes) .none kV__law_bytes dc__law_bytes pm__law_bytes an__law_bytes cd__law_bytes ct__law_bytes), sl__law_bytes⟩)
    (c__law_bytes : PySem.W.codeIn K cd__law_bytes "_law_bytes" = true)
    (k__law_bytes : PySem.W.keepIn K (.ref f__law_bytes) = true)
    (a__law_behind : PySem.W.nsIn K mainGlobals "_law_behind" = some (some (.ref f__law_behind)))
    (l__law_behind : K.lookup f__law_behind = some ⟨oc__law_behind, od__law_behind, .func (PySem.W.fnOf "_law_behind" "_law_behind" (defArgs s__law_behind) (defBody s__law_behind) (defScope s__law_behind) .none kV__law_behind dc__law_behind pm__law_behind an__law_behind cd__law_behind ct__law_behind), sl__law_behind⟩)
    (c__law_behind : PySem.W.codeIn K cd__law_behind "_law_behind" = true)
    (k__law_behind : PySem.W.keepIn K (.ref f__law_behind) = true)
    (a_law : PySem.W.nsIn K mainGlobals "law" = some (some (.ref f_law)))
    (l_law : K.lookup f_law = some ⟨oc_law, od_law, .func (PySem.W.fnOf "law" "law" (defArgs s_law) (defBody s_law) (defScope s_law) .none kV_law dc_law pm_law an_law cd_law ct_law), sl_law⟩)
    (c_law : PySem.W.codeIn K cd_law "law" = true)
    (k_law : PySem.W.keepIn K (.ref f_law) = true)
    (z_len : PySem.W.nsIn K mainGlobals "len" = some none)
    (z_min : PySem.W.nsIn K mainGlobals "min" = some none)
    (z_int : PySem.W.nsIn K mainGlobals "int" = some none)
    (z_list : PySem.W.nsIn K mainGlobals "list" = some none)
    (z_range : PySem.W.nsIn K mainGlobals "range" = some none)
    (z_isinstance : PySem.W.nsIn K mainGlobals "isinstance" = some none)
    (z_bool : PySem.W.nsIn K mainGlobals "bool" = some none)
    (z_str : PySem.W.nsIn K mainGlobals "str" = some none)
    (z_tuple : PySem.W.nsIn K mainGlobals "tuple" = some none)
    (aK_NUMBER_BYTES : PySem.W.nsIn K mainGlobals "NUMBER_BYTES" = some (some (.int 60 tk_NB)))
    (aK_CHECKSUM_LIMIT : PySem.W.nsIn K mainGlobals "CHECKSUM_LIMIT" = some (some (.int 4294967296 tk_CL))) : Txt K mg where
  u_NUMBER_BYTES := (.int 60 tk_NB)
  c_NUMBER_BYTES := PySem.W.mg_of X G aK_NUMBER_BYTES
  r_NUMBER_BYTES := ⟨_, rfl⟩
  u_CHECKSUM_LIMIT := (.int 4294967296 tk_CL)
  c_CHECKSUM_LIMIT := PySem.W.mg_of X G aK_CHECKSUM_LIMIT
  r_CHECKSUM_LIMIT := ⟨_, rfl⟩
  a_DamagedPacket := C_DamagedPacket
  e_DamagedPacket := ⟨xE_DamagedPacket, PySem.W.mg_of X G aC_DamagedPacket, kC_DamagedPacket, bE_DamagedPacket, tE_DamagedPacket, exm_self bE_DamagedPacket iE_DamagedPacket tE_DamagedPacket sE_DamagedPacket⟩
  a_Reader := C_Reader
  cl_Reader := ⟨pg_Reader, hd_Reader, po_Reader, sa_Reader⟩
  g_Reader := PySem.W.mg_of X G aC_Reader
  n_Reader_data := nA_Reader_data
  n_Reader_at := nA_Reader_at
  a__wall := f__wall
  d__wall := PySem.W.fnOf "_wall" "_wall" (defArgs s__wall) (defBody s__wall) (defScope s__wall) .none kV__wall dc__wall pm__wall an__wall cd__wall ct__wall
  F__wall := fun_mk l__wall c__wall k__wall
  b__wall := (fun_mk (st := s__wall) l__wall c__wall k__wall).binds (ps := P__wall) fun _ _ _ _ _ _ us hl => match us, hl with | [_], _ => rfl
  g__wall := PySem.W.mg_of X G a__wall
  a_Reader___init__ := f_Reader___init__
  d_Reader___init__ := PySem.W.fnOf "__init__" "Reader.__init__" (defArgs s_Reader___init__) (defBody s_Reader___init__) (defScope s_Reader___init__) .none kV_Reader___init__ dc_Reader___init__ pm_Reader___init__ an_Reader___init__ cd_Reader___init__ ct_Reader___init__
  F_Reader___init__ := fun_mk l_Reader___init__ c_Reader___init__ k_Reader___init__
  b_Reader___init__ := (fun_mk (st := s_Reader___init__) l_Reader___init__ c_Reader___init__ k_Reader___init__).binds (ps := P_Reader___init__) fun _ _ _ _ _ _ us hl => match us, hl with | [_, _], _ => rfl
  M_Reader := ⟨mk_Reader, a_Reader___init__, i_Reader___init__, kC_Reader⟩
  a_Reader_read_byte := f_Reader_read_byte
  d_Reader_read_byte := PySem.W.fnOf "read_byte" "Reader.read_byte" (defArgs s_Reader_read_byte) (defBody s_Reader_read_byte) (defScope s_Reader_read_byte) .none kV_Reader_read_byte dc_Reader_read_byte pm_Reader_read_byte an_Reader_read_byte cd_Reader_read_byte ct_Reader_read_byte
  F_Reader_read_byte := fun_mk l_Reader_read_byte c_Reader_read_byte k_Reader_read_byte
  b_Reader_read_byte := (fun_mk (st := s_Reader_read_byte) l_Reader_read_byte c_Reader_read_byte k_Reader_read_byte).binds (ps := P_Reader_read_byte) fun _ _ _ _ _ _ us hl => match us, hl with | [_], _ => rfl
  m_Reader_read_byte := ⟨a_Reader_read_byte, i_Reader_read_byte, k_Reader_read_byte⟩
  a_Reader_read_choice := f_Reader_read_choice
  d_Reader_read_choice := PySem.W.fnOf "read_choice" "Reader.read_choice" (defArgs s_Reader_read_choice) (defBody s_Reader_read_choice) (defScope s_Reader_read_choice) .none kV_Reader_read_choice dc_Reader_read_choice pm_Reader_read_choice an_Reader_read_choice cd_Reader_read_choice ct_Reader_read_choice
  F_Reader_read_choice := fun_mk l_Reader_read_choice c_Reader_read_choice k_Reader_read_choice
  b_Reader_read_choice := (fun_mk (st := s_Reader_read_choice) l_Reader_read_choice c_Reader_read_choice k_Reader_read_choice).binds (ps := P_Reader_read_choice) fun _ _ _ _ _ _ us hl => match us, hl with | [_, _], _ => rfl
  m_Reader_read_choice := ⟨a_Reader_read_choice, i_Reader_read_choice, k_Reader_read_choice⟩
  a_Reader_end := f_Reader_end
  d_Reader_end := PySem.W.fnOf "end" "Reader.end" (defArgs s_Reader_end) (defBody s_Reader_end) (defScope s_Reader_end) .none kV_Reader_end dc_Reader_end pm_Reader_end an_Reader_end cd_Reader_end ct_Reader_end
  F_Reader_end := fun_mk l_Reader_end c_Reader_end k_Reader_end
  b_Reader_end := (fun_mk (st := s_Reader_end) l_Reader_end c_Reader_end k_Reader_end).binds (ps := P_Reader_end) fun _ _ _ _ _ _ us hl => match us, hl with | [_], _ => rfl
  m_Reader_end := ⟨a_Reader_end, i_Reader_end, k_Reader_end⟩
  a_Reader_read_number := f_Reader_read_number
  d_Reader_read_number := PySem.W.fnOf "read_number" "Reader.read_number" (defArgs s_Reader_read_number) (defBody s_Reader_read_number) (defScope s_Reader_read_number) .none kV_Reader_read_number dc_Reader_read_number pm_Reader_read_number an_Reader_read_number cd_Reader_read_number ct_Reader_read_number
  F_Reader_read_number := fun_mk l_Reader_read_number c_Reader_read_number k_Reader_read_number
  b_Reader_read_number := (fun_mk (st := s_Reader_read_number) l_Reader_read_number c_Reader_read_number k_Reader_read_number).binds (ps := P_Reader_read_number) fun _ _ _ _ _ _ us hl => match us, hl with | [_], _ => rfl
  m_Reader_read_number := ⟨a_Reader_read_number, i_Reader_read_number, k_Reader_read_number⟩
  a_Reader_read_count := f_Reader_read_count
  d_Reader_read_count := PySem.W.fnOf "read_count" "Reader.read_count" (defArgs s_Reader_read_count) (defBody s_Reader_read_count) (defScope s_Reader_read_count) .none kV_Reader_read_count dc_Reader_read_count pm_Reader_read_count an_Reader_read_count cd_Reader_read_count ct_Reader_read_count
  F_Reader_read_count := fun_mk l_Reader_read_count c_Reader_read_count k_Reader_read_count
  b_Reader_read_count := (fun_mk (st := s_Reader_read_count) l_Reader_read_count c_Reader_read_count k_Reader_read_count).binds (ps := P_Reader_read_count) fun _ _ _ _ _ _ us hl => match us, hl with | [_], _ => rfl
  m_Reader_read_count := ⟨a_Reader_read_count, i_Reader_read_count, k_Reader_read_count⟩
  a_Reader_read_character := f_Reader_read_character
  d_Reader_read_character := PySem.W.fnOf "read_character" "Reader.read_character" (defArgs s_Reader_read_character) (defBody s_Reader_read_character) (defScope s_Reader_read_character) .none kV_Reader_read_character dc_Reader_read_character pm_Reader_read_character an_Reader_read_character cd_Reader_read_character ct_Reader_read_character
  F_Reader_read_character := fun_mk l_Reader_read_character c_Reader_read_character k_Reader_read_character
  b_Reader_read_character := (fun_mk (st := s_Reader_read_character) l_Reader_read_character c_Reader_read_character k_Reader_read_character).binds (ps := P_Reader_read_character) fun _ _ _ _ _ _ us hl => match us, hl with | [_], _ => rfl
  m_Reader_read_character := ⟨a_Reader_read_character, i_Reader_read_character, k_Reader_read_character⟩
  a_Reader_read_string := f_Reader_read_string
  d_Reader_read_string := PySem.W.fnOf "read_string" "Reader.read_string" (defArgs s_Reader_read_string) (defBody s_Reader_read_string) (defScope s_Reader_read_string) .none kV_Reader_read_string dc_Reader_read_string pm_Reader_read_string an_Reader_read_string cd_Reader_read_string ct_Reader_read_string
  F_Reader_read_string := fun_mk l_Reader_read_string c_Reader_read_string k_Reader_read_string
  b_Reader_read_string := (fun_mk (st := s_Reader_read_string) l_Reader_read_string c_Reader_read_string k_Reader_read_string).binds (ps := P_Reader_read_string) fun _ _ _ _ _ _ us hl => match us, hl with | [_], _ => rfl
  m_Reader_read_string := ⟨a_Reader_read_string, i_Reader_read_string, k_Reader_read_string⟩
  a_Reader_read_mark := f_Reader_read_mark
  d_Reader_read_mark := PySem.W.fnOf "read_mark" "Reader.read_mark" (defArgs s_Reader_read_mark) (defBody s_Reader_read_mark) (defScope s_Reader_read_mark) .none kV_Reader_read_mark dc_Reader_read_mark pm_Reader_read_mark an_Reader_read_mark cd_Reader_read_mark ct_Reader_read_mark
  F_Reader_read_mark := fun_mk l_Reader_read_mark c_Reader_read_mark k_Reader_read_mark
  b_Reader_read_mark := (fun_mk (st := s_Reader_read_mark) l_Reader_read_mark c_Reader_read_mark k_Reader_read_mark).binds (ps := P_Reader_read_mark) fun _ _ _ _ _ _ us hl => match us, hl with | [_], _ => rfl
  m_Reader_read_mark := ⟨a_Reader_read_mark, i_Reader_read_mark, k_Reader_read_mark⟩
  a_Reader_read_deed := f_Reader_read_deed
  d_Reader_read_deed := PySem.W.fnOf "read_deed" "Reader.read_deed" (defArgs s_Reader_read_deed) (defBody s_Reader_read_deed) (defScope s_Reader_read_deed) .none kV_Reader_read_deed dc_Reader_read_deed pm_Reader_read_deed an_Reader_read_deed cd_Reader_read_deed ct_Reader_read_deed
  F_Reader_read_deed := fun_mk l_Reader_read_deed c_Reader_read_deed k_Reader_read_deed
  b_Reader_read_deed := (fun_mk (st := s_Reader_read_deed) l_Reader_read_deed c_Reader_read_deed k_Reader_read_deed).binds (ps := P_Reader_read_deed) fun _ _ _ _ _ _ us hl => match us, hl with | [_], _ => rfl
  m_Reader_read_deed := ⟨a_Reader_read_deed, i_Reader_read_deed, k_Reader_read_deed⟩
  a_Reader_read_deeds := f_Reader_read_deeds
  d_Reader_read_deeds := PySem.W.fnOf "read_deeds" "Reader.read_deeds" (defArgs s_Reader_read_deeds) (defBody s_Reader_read_deeds) (defScope s_Reader_read_deeds) .none kV_Reader_read_deeds dc_Reader_read_deeds pm_Reader_read_deeds an_Reader_read_deeds cd_Reader_read_deeds ct_Reader_read_deeds
  F_Reader_read_deeds := fun_mk l_Reader_read_deeds c_Reader_read_deeds k_Reader_read_deeds
  b_Reader_read_deeds := (fun_mk (st := s_Reader_read_deeds) l_Reader_read_deeds c_Reader_read_deeds k_Reader_read_deeds).binds (ps := P_Reader_read_deeds) fun _ _ _ _ _ _ us hl => match us, hl with | [_], _ => rfl
  m_Reader_read_deeds := ⟨a_Reader_read_deeds, i_Reader_read_deeds, k_Reader_read_deeds⟩
  a_Reader_read_triple := f_Reader_read_triple
  d_Reader_read_triple := PySem.W.fnOf "read_triple" "Reader.read_triple" (defArgs s_Reader_read_triple) (defBody s_Reader_read_triple) (defScope s_Reader_read_triple) .none kV_Reader_read_triple dc_Reader_read_triple pm_Reader_read_triple an_Reader_read_triple cd_Reader_read_triple ct_Reader_read_triple
  F_Reader_read_triple := fun_mk l_Reader_read_triple c_Reader_read_triple k_Reader_read_triple
  b_Reader_read_triple := (fun_mk (st := s_Reader_read_triple) l_Reader_read_triple c_Reader_read_triple k_Reader_read_triple).binds (ps := P_Reader_read_triple) fun _ _ _ _ _ _ us hl => match us, hl with | [_], _ => rfl
  m_Reader_read_triple := ⟨a_Reader_read_triple, i_Reader_read_triple, k_Reader_read_triple⟩
  a_Reader_read_triples := f_Reader_read_triples
  d_Reader_read_triples := PySem.W.fnOf "read_triples" "Reader.read_triples" (defArgs s_Reader_read_triples) (defBody s_Reader_read_triples) (defScope s_Reader_read_triples) .none kV_Reader_read_triples dc_Reader_read_triples pm_Reader_read_triples an_Reader_read_triples cd_Reader_read_triples ct_Reader_read_triples
  F_Reader_read_triples := fun_mk l_Reader_read_triples c_Reader_read_triples k_Reader_read_triples
  b_Reader_read_triples := (fun_mk (st := s_Reader_read_triples) l_Reader_read_triples c_Reader_read_triples k_Reader_read_triples).binds (ps := P_Reader_read_triples) fun _ _ _ _ _ _ us hl => match us, hl with | [_], _ => rfl
  m_Reader_read_triples := ⟨a_Reader_read_triples, i_Reader_read_triples, k_Reader_read_triples⟩
  a_Reader_read_packet := f_Reader_read_packet
  d_Reader_read_packet := PySem.W.fnOf "read_packet" "Reader.read_packet" (defArgs s_Reader_read_packet) (defBody s_Reader_read_packet) (defScope s_Reader_read_packet) .none kV_Reader_read_packet dc_Reader_read_packet pm_Reader_read_packet an_Reader_read_packet cd_Reader_read_packet ct_Reader_read_packet
  F_Reader_read_packet := fun_mk l_Reader_read_packet c_Reader_read_packet k_Reader_read_packet
  b_Reader_read_packet := (fun_mk (st := s_Reader_read_packet) l_Reader_read_packet c_Reader_read_packet k_Reader_read_packet).binds (ps := P_Reader_read_packet) fun _ _ _ _ _ _ us hl => match us, hl with | [_], _ => rfl
  m_Reader_read_packet := ⟨a_Reader_read_packet, i_Reader_read_packet, k_Reader_read_packet⟩
  a_write_number := f_write_number
  d_write_number := PySem.W.fnOf "write_number" "write_number" (defArgs s_write_number) (defBody s_write_number) (defScope s_write_number) .none kV_write_number dc_write_number pm_write_number an_write_number cd_write_number ct_write_number
  F_write_number := fun_mk l_write_number c_write_number k_write_number
  b_write_number := (fun_mk (st := s_write_number) l_write_number c_write_number k_write_number).binds (ps := P_write_number) fun _ _ _ _ _ _ us hl => match us, hl with | [_], _ => rfl
  g_write_number := PySem.W.mg_of X G a_write_number
  a_checksum := f_checksum
  d_checksum := PySem.W.fnOf "checksum" "checksum" (defArgs s_checksum) (defBody s_checksum) (defScope s_checksum) .none kV_checksum dc_checksum pm_checksum an_checksum cd_checksum ct_checksum
  F_checksum := fun_mk l_checksum c_checksum k_checksum
  b_checksum := (fun_mk (st := s_checksum) l_checksum c_checksum k_checksum).binds (ps := P_checksum) fun _ _ _ _ _ _ us hl => match us, hl with | [_], _ => rfl
  g_checksum := PySem.W.mg_of X G a_checksum
  a_write_record := f_write_record
  d_write_record := PySem.W.fnOf "write_record" "write_record" (defArgs s_write_record) (defBody s_write_record) (defScope s_write_record) .none kV_write_record dc_write_record pm_write_record an_write_record cd_write_record ct_write_record
  F_write_record := fun_mk l_write_record c_write_record k_write_record
  b_write_record := (fun_mk (st := s_write_record) l_write_record c_write_record k_write_record).binds (ps := P_write_record) fun _ _ _ _ _ _ us hl => match us, hl with | [_], _ => rfl
  g_write_record := PySem.W.mg_of X G a_write_record
  a__read_size := f__read_size
  d__read_size := PySem.W.fnOf "_read_size" "_read_size" (defArgs s__read_size) (defBody s__read_size) (defScope s__read_size) .none kV__read_size dc__read_size pm__read_size an__read_size cd__read_size ct__read_size
  F__read_size := fun_mk l__read_size c__read_size k__read_size
  b__read_size := (fun_mk (st := s__read_size) l__read_size c__read_size k__read_size).binds (ps := P__read_size) fun _ _ _ _ _ _ us hl => match us, hl with | [_, _], _ => rfl
  g__read_size := PySem.W.mg_of X G a__read_size
  a_read_records := f_read_records
  d_read_records := PySem.W.fnOf "read_records" "read_records" (defArgs s_read_records) (defBody s_read_records) (defScope s_read_records) .none kV_read_records dc_read_records pm_read_records an_read_records cd_read_records ct_read_records
  F_read_records := fun_mk l_read_records c_read_records k_read_records
  b_read_records := (fun_mk (st := s_read_records) l_read_records c_read_records k_read_records).binds (ps := P_read_records) fun _ _ _ _ _ _ us hl => match us, hl with | [_], _ => rfl
  g_read_records := PySem.W.mg_of X G a_read_records
  a__law_mix := f__law_mix
  d__law_mix := PySem.W.fnOf "_law_mix" "_law_mix" (defArgs s__law_mix) (defBody s__law_mix) (defScope s__law_mix) .none kV__law_mix dc__law_mix pm__law_mix an__law_mix cd__law_mix ct__law_mix
  F__law_mix := fun_mk l__law_mix c__law_mix k__law_mix
  b__law_mix := (fun_mk (st := s__law_mix) l__law_mix c__law_mix k__law_mix).binds (ps := P__law_mix) fun _ _ _ _ _ _ us hl => match us, hl with | [_, _], _ => rfl
  g__law_mix := PySem.W.mg_of X G a__law_mix
  a__law_draws := f__law_draws
  d__law_draws := PySem.W.fnOf "_law_draws" "_law_draws" (defArgs s__law_draws) (defBody s__law_draws) (defScope s__law_draws) .none kV__law_draws dc__law_draws pm__law_draws an__law_draws cd__law_draws ct__law_draws
  F__law_draws := fun_mk l__law_draws c__law_draws k__law_draws
  b__law_draws := (fun_mk (st := s__law_draws) l__law_draws c__law_draws k__law_draws).binds (ps := P__law_draws) fun _ _ _ _ _ _ us hl => match us, hl with | [_], _ => rfl
  g__law_draws := PySem.W.mg_of X G a__law_draws
  a__law_at := f__law_at
  d__law_at := PySem.W.fnOf "_law_at" "_law_at" (defArgs s__law_at) (defBody s__law_at) (defScope s__law_at) .none kV__law_at dc__law_at pm__law_at an__law_at cd__law_at ct__law_at
  F__law_at := fun_mk l__law_at c__law_at k__law_at
  b__law_at := (fun_mk (st := s__law_at) l__law_at c__law_at k__law_at).binds (ps := P__law_at) fun _ _ _ _ _ _ us hl => match us, hl with | [_, _], _ => rfl
  g__law_at := PySem.W.mg_of X G a__law_at
  a__law_is_integer := f__law_is_integer
  d__law_is_integer := PySem.W.fnOf "_law_is_integer" "_law_is_integer" (defArgs s__law_is_integer) (defBody s__law_is_integer) (defScope s__law_is_integer) .none kV__law_is_integer dc__law_is_integer pm__law_is_integer an__law_is_integer cd__law_is_integer ct__law_is_integer
  F__law_is_integer := fun_mk l__law_is_integer c__law_is_integer k__law_is_integer
  b__law_is_integer := (fun_mk (st := s__law_is_integer) l__law_is_integer c__law_is_integer k__law_is_integer).binds (ps := P__law_is_integer) fun _ _ _ _ _ _ us hl => match us, hl with | [_], _ => rfl
  g__law_is_integer := PySem.W.mg_of X G a__law_is_integer
  a__law_same := f__law_same
  d__law_same := PySem.W.fnOf "_law_same" "_law_same" (defArgs s__law_same) (defBody s__law_same) (defScope s__law_same) .none kV__law_same dc__law_same pm__law_same an__law_same cd__law_same ct__law_same
  F__law_same := fun_mk l__law_same c__law_same k__law_same
  b__law_same := (fun_mk (st := s__law_same) l__law_same c__law_same k__law_same).binds (ps := P__law_same) fun _ _ _ _ _ _ us hl => match us, hl with | [_, _], _ => rfl
  g__law_same := PySem.W.mg_of X G a__law_same
  a__law_next := f__law_next
  d__law_next := PySem.W.fnOf "_law_next" "_law_next" (defArgs s__law_next) (defBody s__law_next) (defScope s__law_next) .none kV__law_next dc__law_next pm__law_next an__law_next cd__law_next ct__law_next
  F__law_next := fun_mk l__law_next c__law_next k__law_next
  b__law_next := (fun_mk (st := s__law_next) l__law_next c__law_next k__law_next).binds (ps := P__law_next) fun _ _ _ _ _ _ us hl => match us, hl with | [_, _], _ => rfl
  g__law_next := PySem.W.mg_of X G a__law_next
  a__law_number := f__law_number
  d__law_number := PySem.W.fnOf "_law_number" "_law_number" (defArgs s__law_number) (defBody s__law_number) (defScope s__law_number) .none kV__law_number dc__law_number pm__law_number an__law_number cd__law_number ct__law_number
  F__law_number := fun_mk l__law_number c__law_number k__law_number
  b__law_number := (fun_mk (st := s__law_number) l__law_number c__law_number k__law_number).binds (ps := P__law_number) fun _ _ _ _ _ _ us hl => match us, hl with | [_], _ => rfl
  g__law_number := PySem.W.mg_of X G a__law_number
  a__law_checksum := f__law_checksum
  d__law_checksum := PySem.W.fnOf "_law_checksum" "_law_checksum" (defArgs s__law_checksum) (defBody s__law_checksum) (defScope s__law_checksum) .none kV__law_checksum dc__law_checksum pm__law_checksum an__law_checksum cd__law_checksum ct__law_checksum
  F__law_checksum := fun_mk l__law_checksum c__law_checksum k__law_checksum
  b__law_checksum := (fun_mk (st := s__law_checksum) l__law_checksum c__law_checksum k__law_checksum).binds (ps := P__law_checksum) fun _ _ _ _ _ _ us hl => match us, hl with | [_], _ => rfl
  g__law_checksum := PySem.W.mg_of X G a__law_checksum
  a__law_record := f__law_record
  d__law_record := PySem.W.fnOf "_law_record" "_law_record" (defArgs s__law_record) (defBody s__law_record) (defScope s__law_record) .none kV__law_record dc__law_record pm__law_record an__law_record cd__law_record ct__law_record
  F__law_record := fun_mk l__law_record c__law_record k__law_record
  b__law_record := (fun_mk (st := s__law_record) l__law_record c__law_record k__law_record).binds (ps := P__law_record) fun _ _ _ _ _ _ us hl => match us, hl with | [_], _ => rfl
  g__law_record := PySem.W.mg_of X G a__law_record
  a__law_bytes := f__law_bytes
  d__law_bytes := PySem.W.fnOf "_law_bytes" "_law_bytes" (defArgs s__law_bytes) (defBody s__law_bytes) (defScope s__law_bytes) .none kV__law_bytes dc__law_bytes pm__law_bytes an__law_bytes cd__law_bytes ct__law_bytes
  F__law_bytes := fun_mk l__law_bytes c__law_bytes k__law_bytes
  b__law_bytes := (fun_mk (st := s__law_bytes) l__law_bytes c__law_bytes k__law_bytes).binds (ps := P__law_bytes) fun _ _ _ _ _ _ us hl => match us, hl with | [_], _ => rfl
  g__law_bytes := PySem.W.mg_of X G a__law_bytes
  a__law_behind := f__law_behind
  d__law_behind := PySem.W.fnOf "_law_behind" "_law_behind" (defArgs s__law_behind) (defBody s__law_behind) (defScope s__law_behind) .none kV__law_behind dc__law_behind pm__law_behind an__law_behind cd__law_behind ct__law_behind
  F__law_behind := fun_mk l__law_behind c__law_behind k__law_behind
  b__law_behind := (fun_mk (st := s__law_behind) l__law_behind c__law_behind k__law_behind).binds (ps := P__law_behind) fun _ _ _ _ _ _ us hl => match us, hl with | [_], _ => rfl
  g__law_behind := PySem.W.mg_of X G a__law_behind
  a_law := f_law
  d_law := PySem.W.fnOf "law" "law" (defArgs s_law) (defBody s_law) (defScope s_law) .none kV_law dc_law pm_law an_law cd_law ct_law
  F_law := fun_mk l_law c_law k_law
  b_law := (fun_mk (st := s_law) l_law c_law k_law).binds (ps := P_law) fun _ _ _ _ _ _ us hl => match us, hl with | [_], _ => rfl
  g_law := PySem.W.mg_of X G a_law
  z_len := PySem.W.mg_none_of X G z_len
  z_min := PySem.W.mg_none_of X G z_min
  z_int := PySem.W.mg_none_of X G z_int
  z_list := PySem.W.mg_none_of X G z_list
  z_range := PySem.W.mg_none_of X G z_range
  z_isinstance := PySem.W.mg_none_of X G z_isinstance
  z_bool := PySem.W.mg_none_of X G z_bool
  z_str := PySem.W.mg_none_of X G z_str
  z_tuple := PySem.W.mg_none_of X G z_tuple
theorem all_ok {l : PySem.W.OpenLaw} {w : World} {K : PySem.W.Frag} {mg : Str → Option Value} {fa : Addr} (hfa : mg "law" = some (.ref fa)) (T : Txt K mg) :
    ∃ fd : FuncData, (∀ (s : Shared) (v : Value), BindsTo s fd ⟨[v], []⟩ [("script", v)]) ∧ ∀ base : Heap, K.In base → base.Ns mainGlobals mg → FnOk l.prog w K mg base CX0 15 fa fd ["script"] (sp_law K) := by
  have e := hfa.symm.trans T.g_law
  cases e
  obtain ⟨oc, od, kV, doc, pm, an, cdv, ct, osl, e, _, _⟩ := T.F_law.ex
  exact ⟨T.d_law, fun s v => by rw [e]; exact .of_eq rfl, fun base _ _ => ok_law T⟩

end K11
open PySem PySem.W PyProof.Rows
set_option maxHeartbeats 0 in
theorem PySem.Challenge.cw_textwhole_k11_records_holds : PySem.Challenge.rw_textwhole_k11_records.Holds := by
  w_on; o_law; k_head; (case hw => w_witness2)
  k_fill
  refine L2.walk_of (l := PySem.Challenge.rw_textwhole_k11_records) (n := 63) (k := 15) (x := "script") (CX := fun w => L2.CX0) (sp := fun w => K11.sp_law _) rfl (by decide) rfl ⟨rfl, by decide, by decide⟩ (fun w h Y => PySem.W.kIn_of Y) ?F (fun _ _ a ns hl _ hS => ⟨a, ns, rfl, hS, hl, fun _ => rfl⟩) (fun _ _ _ _ _ h => h)
  case F =>
    intro w mg fa h KX G hmg
    refine' K11.all_ok hmg (K11.mk_txt KX G ?aC_DamagedPacket ?xE_DamagedPacket ?kC_DamagedPacket ?bE_DamagedPacket ?tE_DamagedPacket ?iE_DamagedPacket ?sE_DamagedPacket ?aC_Reader ?pg_Reader ?hd_Reader ?po_Reader ?sa_Reader ?mk_Reader ?kC_Reader ?nA_Reader_data ?nA_Reader_at ?a__wall ?l__wall ?c__wall ?k__wall ?a_Reader___init__ ?i_Reader___init__ ?l_Reader___init__ ?c_Reader___init__ ?k_Reader___init__ ?a_Reader_read_byte ?i_Reader_read_byte ?l_Reader_read_byte ?c_Reader_read_byte ?k_Reader_read_byte ?a_Reader_read_choice ?i_Reader_read_choice ?l_Reader_read_choice ?c_Reader_read_choice ?k_Reader_read_choice ?a_Reader_end ?i_Reader_end ?l_Reader_end ?c_Reader_end ?k_Reader_end ?a_Reader_read_number ?i_Reader_read_number ?l_Reader_read_number ?c_Reader_read_number ?k_Reader_read_number ?a_Reader_read_count ?i_Reader_read_count ?l_Reader_read_count ?c_Reader_read_count ?k_Reader_read_count ?a_Reader_read_character ?i_Reader_read_character ?l_Reader_read_character ?c_Reader_read_character ?k_Reader_read_character ?a_Reader_read_string ?i_Reader_read_string ?l_Reader_read_string ?c_Reader_read_string ?k_Reader_read_string ?a_Reader_read_mark ?i_Reader_read_mark ?l_Reader_read_mark ?c_Reader_read_mark ?k_Reader_read_mark ?a_Reader_read_deed ?i_Reader_read_deed ?l_Reader_read_deed ?c_Reader_read_deed ?k_Reader_read_deed ?a_Reader_read_deeds ?i_Reader_read_deeds ?l_Reader_read_deeds ?c_Reader_read_deeds ?k_Reader_read_deeds ?a_Reader_read_triple ?i_Reader_read_triple ?l_Reader_read_triple ?c_Reader_read_triple ?k_Reader_read_triple ?a_Reader_read_triples ?i_Reader_read_triples ?l_Reader_read_triples ?c_Reader_read_triples ?k_Reader_read_triples ?a_Reader_read_packet ?i_Reader_read_packet ?l_Reader_read_packet ?c_Reader_read_packet ?k_Reader_read_packet ?a_write_number ?l_write_number ?c_write_number ?k_write_number ?a_checksum ?l_checksum ?c_checksum ?k_checksum ?a_write_record ?l_write_record ?c_write_record ?k_write_record ?a__read_size ?l__read_size ?c__read_size ?k__read_size ?a_read_records ?l_read_records ?c_read_records ?k_read_records ?a__law_mix ?l__law_mix ?c__law_mix ?k__law_mix ?a__law_draws ?l__law_draws ?c__law_draws ?k__law_draws ?a__law_at ?l__law_at ?c__law_at ?k__law_at ?a__law_is_integer ?l__law_is_integer ?c__law_is_integer ?k__law_is_integer ?a__law_same ?l__law_same ?c__law_same ?k__law_same ?a__law_next ?l__law_next ?c__law_next ?k__law_next ?a__law_number ?l__law_number ?c__law_number ?k__law_number ?a__law_checksum ?l__law_checksum ?c__law_checksum ?k__law_checksum ?a__law_record ?l__law_record ?c__law_record ?k__law_record ?a__law_bytes ?l__law_bytes ?c__law_bytes ?k__law_bytes ?a__law_behind ?l__law_behind ?c__law_behind ?k__law_behind ?a_law ?l_law ?c_law ?k_law ?z_len ?z_min ?z_int ?z_list ?z_range ?z_isinstance ?z_bool ?z_str ?z_tuple ?aK_NUMBER_BYTES ?aK_CHECKSUM_LIMIT)
    (case aC_DamagedPacket => k_is)
    (case xE_DamagedPacket => k_exc)
    (case kC_DamagedPacket => k_is)
    (case bE_DamagedPacket => k_is)
    (case tE_DamagedPacket => k_is)
    (case iE_DamagedPacket => k_is)
    (case sE_DamagedPacket => first | rfl | k_is)
    (case aC_Reader => k_is)
    (case pg_Reader => k_is)
    (case hd_Reader => k_is)
    (case po_Reader => k_is)
    (case sa_Reader => k_is)
    (case mk_Reader => k_is)
    (case kC_Reader => k_is)
    (case nA_Reader_data => k_is)
    (case nA_Reader_at => k_is)
    (case a__wall => k_is)
    (case l__wall => k_is)
    (case c__wall => k_is)
    (case k__wall => k_is)
    (case a_Reader___init__ => k_is)
    (case i_Reader___init__ => k_is)
    (case l_Reader___init__ => k_is)
    (case c_Reader___init__ => k_is)
    (case k_Reader___init__ => k_is)
    (case a_Reader_read_byte => k_is)
    (case i_Reader_read_byte => k_is)
    (case l_Reader_read_byte => k_is)
    (case c_Reader_read_byte => k_is)
    (case k_Reader_read_byte => k_is)
    (case a_Reader_read_choice => k_is)
    (case i_Reader_read_choice => k_is)
    (case l_Reader_read_choice => k_is)
    (case c_Reader_read_choice => k_is)
    (case k_Reader_read_choice => k_is)
    (case a_Reader_end => k_is)
    (case i_Reader_end => k_is)
    (case l_Reader_end => k_is)
    (case c_Reader_end => k_is)
    (case k_Reader_end => k_is)
    (case a_Reader_read_number => k_is)
    (case i_Reader_read_number => k_is)
    (case l_Reader_read_number => k_is)
    (case c_Reader_read_number => k_is)
    (case k_Reader_read_number => k_is)
    (case a_Reader_read_count => k_is)
    (case i_Reader_read_count => k_is)
    (case l_Reader_read_count => k_is)
    (case c_Reader_read_count => k_is)
    (case k_Reader_read_count => k_is)
    (case a_Reader_read_character => k_is)
    (case i_Reader_read_character => k_is)
    (case l_Reader_read_character => k_is)
    (case c_Reader_read_character => k_is)
    (case k_Reader_read_character => k_is)
    (case a_Reader_read_string => k_is)
    (case i_Reader_read_string => k_is)
    (case l_Reader_read_string => k_is)
    (case c_Reader_read_string => k_is)
    (case k_Reader_read_string => k_is)
    (case a_Reader_read_mark => k_is)
    (case i_Reader_read_mark => k_is)
    (case l_Reader_read_mark => k_is)
    (case c_Reader_read_mark => k_is)
    (case k_Reader_read_mark => k_is)
    (case a_Reader_read_deed => k_is)
    (case i_Reader_read_deed => k_is)
    (case l_Reader_read_deed => k_is)
    (case c_Reader_read_deed => k_is)
    (case k_Reader_read_deed => k_is)
    (case a_Reader_read_deeds => k_is)
    (case i_Reader_read_deeds => k_is)
    (case l_Reader_read_deeds => k_is)
    (case c_Reader_read_deeds => k_is)
    (case k_Reader_read_deeds => k_is)
    (case a_Reader_read_triple => k_is)
    (case i_Reader_read_triple => k_is)
    (case l_Reader_read_triple => k_is)
    (case c_Reader_read_triple => k_is)
    (case k_Reader_read_triple => k_is)
    (case a_Reader_read_triples => k_is)
    (case i_Reader_read_triples => k_is)
    (case l_Reader_read_triples => k_is)
    (case c_Reader_read_triples => k_is)
    (case k_Reader_read_triples => k_is)
    (case a_Reader_read_packet => k_is)
    (case i_Reader_read_packet => k_is)
    (case l_Reader_read_packet => k_is)
    (case c_Reader_read_packet => k_is)
    (case k_Reader_read_packet => k_is)
    (case a_write_number => k_is)
    (case l_write_number => k_is)
    (case c_write_number => k_is)
    (case k_write_number => k_is)
    (case a_checksum => k_is)
    (case l_checksum => k_is)
    (case c_checksum => k_is)
    (case k_checksum => k_is)
    (case a_write_record => k_is)
    (case l_write_record => k_is)
    (case c_write_record => k_is)
    (case k_write_record => k_is)
    (case a__read_size => k_is)
    (case l__read_size => k_is)
    (case c__read_size => k_is)
    (case k__read_size => k_is)
    (case a_read_records => k_is)
    (case l_read_records => k_is)
    (case c_read_records => k_is)
    (case k_read_records => k_is)
    (case a__law_mix => k_is)
    (case l__law_mix => k_is)
    (case c__law_mix => k_is)
    (case k__law_mix => k_is)
    (case a__law_draws => k_is)
    (case l__law_draws => k_is)
    (case c__law_draws => k_is)
    (case k__law_draws => k_is)
    (case a__law_at => k_is)
    (case l__law_at => k_is)
    (case c__law_at => k_is)
    (case k__law_at => k_is)
    (case a__law_is_integer => k_is)
    (case l__law_is_integer => k_is)
    (case c__law_is_integer => k_is)
    (case k__law_is_integer => k_is)
    (case a__law_same => k_is)
    (case l__law_same => k_is)
    (case c__law_same => k_is)
    (case k__law_same => k_is)
    (case a__law_next => k_is)
    (case l__law_next => k_is)
    (case c__law_next => k_is)
    (case k__law_next => k_is)
    (case a__law_number => k_is)
    (case l__law_number => k_is)
    (case c__law_number => k_is)
    (case k__law_number => k_is)
    (case a__law_checksum => k_is)
    (case l__law_checksum => k_is)
    (case c__law_checksum => k_is)
    (case k__law_checksum => k_is)
    (case a__law_record => k_is)
    (case l__law_record => k_is)
    (case c__law_record => k_is)
    (case k__law_record => k_is)
    (case a__law_bytes => k_is)
    (case l__law_bytes => k_is)
    (case c__law_bytes => k_is)
    (case k__law_bytes => k_is)
    (case a__law_behind => k_is)
    (case l__law_behind => k_is)
    (case c__law_behind => k_is)
    (case k__law_behind => k_is)
    (case a_law => k_is)
    (case l_law => k_is)
    (case c_law => k_is)
    (case k_law => k_is)
    (case z_len => k_is)
    (case z_min => k_is)
    (case z_int => k_is)
    (case z_list => k_is)
    (case z_range => k_is)
    (case z_isinstance => k_is)
    (case z_bool => k_is)
    (case z_str => k_is)
    (case z_tuple => k_is)
    (case aK_NUMBER_BYTES => k_is)
    (case aK_CHECKSUM_LIMIT => k_is)
