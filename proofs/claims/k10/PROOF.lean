import PyProof.Rows.All
import Wide.All
import OpenK.AllK
import Wide.FinOn
import HandS.ForMost
import HandS.TryOnly
import HandS.IsInst
import HandS.Deep
import HandS.Steps
import HandS.Flow
import HandS.Style
import HandS.Zip
import HandS.TupAny
import HandS.More
import HandS.Walk
import HandS.Evl
import PySem.Challenge.RW_textwhole_k10_files_keep_a_beginning
set_option Elab.async false
set_option linter.all false
set_option maxRecDepth 100000
set_option maxHeartbeats 4000000

/-! Zl: a small layer over HandS: what is owned (Own), data (Dp) over what stays, readings with names and their steps. -/
namespace Zl
open PySem PySem.Spec PyProof.Rows L2

/-! ### what is owned: cells cs apart from the frame B -/
structure Own (B : Hp) (cs : List (Addr × HO)) (H : Hp) : Prop where
  fr : Same B H
  out : ∀ c ∈ cs, B c.1 = none
  have_ : ∀ c ∈ cs, H c.1 = some c.2
  nd : (cs.map (·.1)).Nodup
theorem Own.start (H : Hp) : Own H [] H := ⟨Same.refl H, fun _ h => (nomatch h), fun _ h => (nomatch h), List.nodup_nil⟩
section
variable {B B' H H' : Hp} {cs cs' : List (Addr × HO)} {a p : Addr} {o o' : HO} {j : Nat} {K : PySem.W.Frag}
theorem Own.get (O : Own B cs H) (j : Nat) (h : cs[j]? = some (a, o) := by rfl) : H a = some o := O.have_ (a, o) (List.mem_of_getElem? h)
theorem Own.lst {xs : List V} (O : Own B cs H) (j : Nat) (h : cs[j]? = some (a, .lst xs) := by rfl) : SqL K H a xs := .inl (.inl (O.get j h))
theorem Own.tup {xs : List V} (O : Own B cs H) (j : Nat) (h : cs[j]? = some (a, .tup xs) := by rfl) : SqT K H a xs := .inl (.inl (O.get j h))
theorem Own.ex (O : Own B cs H) (e : Same H H') : Own B cs H' := ⟨O.fr.trans e, O.out, fun c hc => e _ _ (O.have_ c hc), O.nd⟩
theorem Own.fresh (O : Own B cs H) (np : H p = none) : B p = none ∧ ∀ c ∈ cs, c.1 ≠ p := by
  refine ⟨O.fr.free np, fun c hc e => ?_⟩
  have h := O.have_ c hc
  rw [e, np] at h
  cases h
theorem Own.new (O : Own B cs H) (e : Same H H') (np : H p = none) (hp : H' p = some o) : Own B ((p, o) :: cs) H' := by
  obtain ⟨h1, h2⟩ := O.fresh np
  refine ⟨O.fr.trans e, fun c hc => ?_, fun c hc => ?_, ?_⟩
  · rcases List.mem_cons.mp hc with rfl | hc
    · exact h1
    · exact O.out c hc
  · rcases List.mem_cons.mp hc with rfl | hc
    · exact hp
    · exact e _ _ (O.have_ c hc)
  · refine List.nodup_cons.mpr ⟨fun hm => ?_, O.nd⟩
    obtain ⟨c, hc, e'⟩ := List.mem_map.mp hm
    exact h2 c hc e'
theorem Same.upd (np : H p = none) : Same H (upd H p o) := fun b x e => by
  rw [upd_ne (ne_of_none e np)]
  exact e
theorem Own.alloc (O : Own B cs H) (np : H p = none) : Own B ((p, o) :: cs) (upd H p o) := O.new (Same.upd np) np upd_same
theorem mem_set {α : Type} {l : List α} {j : Nat} {x y : α} (h : y ∈ l.set j x) : y = x ∨ ∃ i, i ≠ j ∧ l[i]? = some y := by
  obtain ⟨i, hi, e⟩ := List.mem_iff_getElem.mp h
  rw [List.getElem_set] at e
  split at e
  · exact .inl e.symm
  · rename_i hne
    refine .inr ⟨i, fun q => hne q.symm, ?_⟩
    rw [List.length_set] at hi
    rw [List.getElem?_eq_getElem hi, e]
theorem Own.mut (O : Own B cs H) (j : Nat) (h : cs[j]? = some (a, o)) (e : ∀ b u, b ≠ a → H b = some u → H' b = some u) (ha : H' a = some o') : Own B (cs.set j (a, o')) H' := by
  have hm : (a, o) ∈ cs := List.mem_of_getElem? h
  have hB : B a = none := O.out _ hm
  have key : (cs.set j (a, o')).map (·.1) = cs.map (·.1) := by
    rw [List.map_set]
    apply List.ext_getElem?
    intro i
    rw [List.getElem?_set]
    split
    · rename_i hij
      subst hij
      rw [List.getElem?_map, h]
      split
      · rfl
      · rename_i hl
        have := (List.getElem?_eq_some_iff.mp h).1
        rw [List.length_map] at hl
        exact absurd this hl
    · rfl
  have apart : ∀ i c, i ≠ j → cs[i]? = some c → c.1 ≠ a := by
    intro i c hij hc e'
    have h1 : (cs.map (·.1))[i]? = some a := by rw [List.getElem?_map, hc, ← e'] <;> rfl
    have h2 : (cs.map (·.1))[j]? = some a := by rw [List.getElem?_map, h] <;> rfl
    exact hij (nd_ix O.nd h1 h2)
  refine ⟨fun b x hb => ?_, fun c hc => ?_, fun c hc => ?_, by rw [key]; exact O.nd⟩
  · refine e b x (fun q => ?_) (O.fr b x hb)
    rw [q, hB] at hb
    cases hb
  · rcases mem_set hc with rfl | ⟨i, hi, hg⟩
    · exact hB
    · exact O.out c (List.mem_of_getElem? hg)
  · rcases mem_set hc with rfl | ⟨i, hi, hg⟩
    · exact ha
    · exact e _ _ (apart i c hi hg) (O.have_ c (List.mem_of_getElem? hg))
theorem Own.ne {b : Addr} {o2 : HO} (O : Own B cs H) (i j : Nat) (hi : cs[i]? = some (a, o)) (hj : cs[j]? = some (b, o2)) (hij : i ≠ j) : a ≠ b := by
  intro e
  subst e
  have h1 : (cs.map (·.1))[i]? = some a := by rw [List.getElem?_map, hi] <;> rfl
  have h2 : (cs.map (·.1))[j]? = some a := by rw [List.getElem?_map, hj] <;> rfl
  exact hij (nd_ix O.nd h1 h2)
theorem Own.neB {b : Addr} {o2 : HO} (O : Own B cs H) (i : Nat) (hi : cs[i]? = some (a, o)) (hb : B b = some o2) : b ≠ a := by
  intro e
  subst e
  rw [O.out _ (List.mem_of_getElem? hi)] at hb
  cases hb
theorem Own.set (O : Own B cs H) (j : Nat) (h : cs[j]? = some (a, o)) : Own B (cs.set j (a, o')) (upd H a o') :=
  O.mut j h (fun b u hb hu => by rw [upd_ne hb]; exact hu) upd_same
theorem Own.sub (O : Own B cs H) (s : cs'.Sublist cs) : Own B cs' H :=
  ⟨O.fr, fun c hc => O.out c (s.subset hc), fun c hc => O.have_ c (s.subset hc), O.nd.sublist (s.map _)⟩
theorem Own.tail {c : Addr × HO} (O : Own B (c :: cs) H) : Own B cs H := O.sub (List.sublist_cons_self _ _)
theorem Own.swap {c d : Addr × HO} (O : Own B (c :: d :: cs) H) : Own B (d :: c :: cs) H :=
  ⟨O.fr, fun x hx => O.out x (by simp only [List.mem_cons] at hx ⊢; rcases hx with h | h | h <;> simp [h]), fun x hx => O.have_ x (by simp only [List.mem_cons] at hx ⊢; rcases hx with h | h | h <;> simp [h]), by
    have h := O.nd
    simp only [List.map_cons, List.nodup_cons, List.mem_cons, not_or] at h ⊢
    exact ⟨⟨fun e => h.1.1 e.symm, h.2.1⟩, h.1.2, h.2.2⟩⟩
/-- the cells that are kept, in any order -/
theorem Own.sel (O : Own B cs H) (h : ∀ c ∈ cs', c ∈ cs) (nd : (cs'.map (·.1)).Nodup) : Own B cs' H := ⟨O.fr, fun c hc => O.out c (h c hc), fun c hc => O.have_ c (h c hc), nd⟩
theorem Own.perm (O : Own B cs H) (s : cs'.Perm cs) : Own B cs' H :=
  ⟨O.fr, fun c hc => O.out c (s.subset hc), fun c hc => O.have_ c (s.subset hc), (s.map _).nodup_iff.mpr O.nd⟩
theorem Own.rot (O : Own B cs H) (k : Nat) : Own B (cs.drop k ++ cs.take k) H := O.perm (by
  have h := List.perm_append_comm (l₁ := cs.drop k) (l₂ := cs.take k)
  rwa [List.take_append_drop] at h)
theorem Own.rotT {c : Addr × HO} (O : Own B (c :: cs) H) (k : Nat) : Own B (c :: (cs.drop k ++ cs.take k)) H := O.perm ((by
  have h := List.perm_append_comm (l₁ := cs.drop k) (l₂ := cs.take k)
  rwa [List.take_append_drop] at h : (cs.drop k ++ cs.take k).Perm cs).cons c)
/-- the first cell stays from now on -/
theorem Own.freeze (O : Own B ((p, o) :: cs) H) : Own (L2.upd B p o) cs H := by
  have hnd := List.nodup_cons.mp (show (p :: cs.map (·.1)).Nodup from O.nd)
  refine ⟨fun b x hb => ?_, fun c hc => ?_, fun c hc => O.have_ c (.tail _ hc), hnd.2⟩
  · by_cases hbp : b = p
    · subst hbp
      rw [upd_same] at hb
      cases hb
      exact O.have_ _ (.head _)
    · rw [upd_ne hbp] at hb
      exact O.fr b x hb
  · rw [upd_ne (fun q => hnd.1 (by rw [← q]; exact List.mem_map.mpr ⟨c, hc, rfl⟩))]
    exact O.out c (.tail _ hc)
theorem Own.freezeB (O : Own B ((p, o) :: cs) H) : Same B (L2.upd B p o) := Same.upd (O.out _ (.head _))
/-- a callee's result: what stood stands, and is it a new thing -/
theorem Own.back (O : Own B cs H) (e : ∀ b u, B b = some u → H' b = some u) (k : ∀ c ∈ cs, H' c.1 = some c.2) : Own B cs H' := ⟨e, O.out, k, O.nd⟩
theorem own_new {Q : VK} (O : Own B cs H) (k : ∀ p H', H p = none → Own B ((p, o) :: cs) H' → Q (.ref p) H') : ∀ p, H p = none → Q (.ref p) (L2.upd H p o) :=
  fun p np => k p _ np (O.alloc np)
end

/-- the heap without some of its things: what a def may not touch -/
def dels (H : Hp) (as : List Addr) : Hp := fun b => if b ∈ as then none else H b
theorem dels_in {H : Hp} {as : List Addr} {b : Addr} (h : b ∈ as) : dels H as b = none := by unfold dels; rw [if_pos h]
theorem dels_out {H : Hp} {as : List Addr} {b : Addr} (h : b ∉ as) : dels H as b = H b := by unfold dels; rw [if_neg h]
theorem dels_same (H : Hp) (as : List Addr) : Same (dels H as) H := fun b o h => by
  unfold dels at h
  split at h
  · cases h
  · exact h
theorem Own.args {H : Hp} (cs : List (Addr × HO)) (h : ∀ c ∈ cs, H c.1 = some c.2) (nd : (cs.map (·.1)).Nodup) : Own (dels H (cs.map (·.1))) cs H :=
  ⟨dels_same _ _, fun c hc => dels_in (List.mem_map.mpr ⟨c, hc, rfl⟩), h, nd⟩
theorem Own.arg1 {H : Hp} {a : Addr} {o : HO} (h : H a = some o) : Own (dels H [a]) [(a, o)] H :=
  Own.args [(a, o)] (fun c hc => by rw [List.mem_singleton.mp hc]; exact h) (by simp)
/-- what a def that was handed some things leaves -/
theorem Own.give {H H' : Hp} {as : List Addr} {cs : List (Addr × HO)} (O : Own (dels H as) cs H') : ∀ b u, b ∉ as → H b = some u → H' b = some u :=
  fun b u hb h => O.fr b u (by rw [dels_out hb]; exact h)
theorem Own.give1 {H H' : Hp} {a : Addr} {cs : List (Addr × HO)} (O : Own (dels H [a]) cs H') : ∀ b u, b ≠ a → H b = some u → H' b = some u :=
  fun b u hb h => O.give b u (fun q => hb (List.mem_singleton.mp q)) h
theorem sq_dels {K : PySem.W.Frag} {H : Hp} {as : List Addr} {a : Addr} {xs : List V} (n : a ∉ as) (h : SqL K H a xs) : SqL K (dels H as) a xs := by
  rcases h with (h | ⟨o, h⟩) | h
  · exact .inl (.inl (by rw [dels_out n]; exact h))
  · exact .inl (.inr ⟨o, by rw [dels_out n]; exact h⟩)
  · exact .inr h

/-! ### data stays -/
theorem sq_t {K : PySem.W.Frag} {H H' : Hp} {a : Addr} {xs : List V} (e : Same H H') (h : SqT K H a xs) : SqT K H' a xs := by
  rcases h with (h | ⟨o, h⟩) | h
  · exact .inl (.inl (e _ _ h))
  · exact .inl (.inr ⟨o, e _ _ h⟩)
  · exact .inr h
mutual
theorem dp_ex {K : PySem.W.Frag} {H H' : Hp} (e : Same H H') : ∀ {v : V} {d : PyData}, Dp K H v d → Dp K H' v d
  | _, _, .non => .non
  | _, _, .bl b => .bl b
  | _, _, .int i => .int i
  | _, _, .str x => .str x
  | _, _, .lst h a => .lst (e.seq h) (dps_ex e a)
  | _, _, .tup h a => .tup (sq_t e h) (dps_ex e a)
theorem dps_ex {K : PySem.W.Frag} {H H' : Hp} (e : Same H H') : ∀ {vs : List V} {ds : List PyData}, DpAll K H vs ds → DpAll K H' vs ds
  | _, _, .nil => .nil
  | _, _, .cons h a => .cons (dp_ex e h) (dps_ex e a)
end
theorem dps_len {K : PySem.W.Frag} {H : Hp} : ∀ {vs : List V} {ds : List PyData}, DpAll K H vs ds → vs.length = ds.length
  | _, _, .nil => rfl
  | _, _, .cons _ a => congrArg (· + 1) (dps_len a)
theorem dps_get {K : PySem.W.Frag} {H : Hp} : ∀ {vs : List V} {ds : List PyData} {i : Nat} {v : V}, DpAll K H vs ds → vs[i]? = some v → ∃ d, ds[i]? = some d ∧ Dp K H v d
  | _, _, _, _, .nil, h => by simp at h
  | _, _, 0, _, .cons h _, e => by
    cases (show some _ = some _ from e)
    exact ⟨_, rfl, h⟩
  | _, _, i + 1, _, .cons _ a, e => dps_get (i := i) a (by simpa using e)
theorem dps_getD {K : PySem.W.Frag} {H : Hp} : ∀ {vs : List V} {ds : List PyData} {i : Nat} {d : PyData}, DpAll K H vs ds → ds[i]? = some d → ∃ v, vs[i]? = some v ∧ Dp K H v d
  | _, _, _, _, .nil, h => by simp at h
  | _, _, 0, _, .cons h _, e => by
    cases (show some _ = some _ from e)
    exact ⟨_, rfl, h⟩
  | _, _, i + 1, _, .cons _ a, e => dps_getD (i := i) a (by simpa using e)
theorem dps_app {K : PySem.W.Frag} {H : Hp} : ∀ {vs vs' : List V} {ds ds' : List PyData}, DpAll K H vs ds → DpAll K H vs' ds' → DpAll K H (vs ++ vs') (ds ++ ds')
  | _, _, _, _, .nil, b => b
  | _, _, _, _, .cons h a, b => .cons h (dps_app a b)
theorem dps_snoc {K : PySem.W.Frag} {H : Hp} {vs : List V} {ds : List PyData} {v : V} {d : PyData} (a : DpAll K H vs ds) (h : Dp K H v d) : DpAll K H (vs ++ [v]) (ds ++ [d]) := dps_app a (.cons h .nil)
theorem dps_take {K : PySem.W.Frag} {H : Hp} : ∀ {vs : List V} {ds : List PyData} (n : Nat), DpAll K H vs ds → DpAll K H (vs.take n) (ds.take n)
  | _, _, 0, _ => .nil
  | _, _, _ + 1, .nil => .nil
  | _, _, n + 1, .cons h a => .cons h (dps_take n a)
theorem dps_drop {K : PySem.W.Frag} {H : Hp} : ∀ {vs : List V} {ds : List PyData} (n : Nat), DpAll K H vs ds → DpAll K H (vs.drop n) (ds.drop n)
  | _, _, 0, a => a
  | _, _, _ + 1, .nil => .nil
  | _, _, n + 1, .cons _ a => dps_drop n a
theorem dps_int {K : PySem.W.Frag} {H : Hp} : ∀ ns : List Int, DpAll K H (ns.map V.int) (ns.map PyData.int)
  | [] => .nil
  | n :: ns => .cons (.int n) (dps_int ns)

/-! ### rules with names -/
section
variable {X : Cx}
def rAddU (K : PySem.W.Frag) : R2 := fun x y H Q => rI0 (fun i j => .int (i + j)) x y H Q ∨ ((∃ i j, x = .str i ∧ y = .str j ∧ i.length + j.length ≤ sizeLine ∧ Q (.str (i ++ j)) H) ∨ (rCat x y H Q ∨ rCatA K x y H Q))
theorem op_addU : OpR X (binaryOp .Add) (rAddU X.K) := OpR.or op_add (OpR.or op_add_str (OpR.or op_cat op_catA))
def rMulU : R2 := fun x y H Q => rI CMul (fun i j => .int (i * j)) x y H Q ∨ rRep x y H Q
theorem op_mulU : OpR X (binaryOp .Mult) rMulU := OpR.or op_mul op_rep
def rEqU (K : PySem.W.Frag) : R2 := fun x y H Q => rEq x y H Q ∨ rEqD K x y H Q
def rNeU (K : PySem.W.Frag) : R2 := fun x y H Q => rNe x y H Q ∨ rNeD K x y H Q
theorem op_eqU (hu : X.A.units + 64 < cLine) : OpR X (compareOp .Eq) (rEqU X.K) := OpR.or op_eq (op_eqD hu)
theorem op_neU (hu : X.A.units + 64 < cLine) : OpR X (compareOp .NotEq) (rNeU X.K) := OpR.or op_ne (op_neD hu)
def rInS : R2 := fun x y H Q => ∃ (c : Nat) (z : Str), x = .str ⟨#[c]⟩ ∧ y = .str z ∧ Q (.bl (decide (c ∈ z.cps.toList))) H
def rNotInS : R2 := fun x y H Q => ∃ (c : Nat) (z : Str), x = .str ⟨#[c]⟩ ∧ y = .str z ∧ Q (.bl (!decide (c ∈ z.cps.toList))) H
def rInU (K : PySem.W.Frag) : R2 := fun x y H Q => rIn K false x y H Q ∨ (rInS x y H Q ∨ rInD K x y H Q)
def rNotInU (K : PySem.W.Frag) : R2 := fun x y H Q => rIn K true x y H Q ∨ (rNotInS x y H Q ∨ rNotInD K x y H Q)
theorem op_inU (hu : X.A.units + 65 < cLine) : OpR X (compareOp .In) (rInU X.K) := OpR.or op_in_seq (OpR.or op_in_sign (op_inD hu))
theorem op_notInU (hu : X.A.units + 65 < cLine) : OpR X (compareOp .NotIn) (rNotInU X.K) := OpR.or op_notIn_seq (OpR.or op_notIn_sign (op_notInD hu))
def rIsN : R2 := fun x y H Q => y = .non ∧ Q (.bl (decide (x = .non))) H
def rNotN : R2 := fun x y H Q => y = .non ∧ Q (.bl (!decide (x = .non))) H
theorem op_isNU : OpR X (compareOp .Is) rIsN := op_isN
theorem op_notNU : OpR X (compareOp .IsNot) rNotN := op_notN
def rLenU (K : PySem.W.Frag) : List V → Hp → VK → Prop := fun xs H Q => ∃ x n, xs = [x] ∧ LenV K x H n ∧ Q (.int n) H
theorem call_lenU : CallR X (.builtin "len") (rLenU X.K) := call_len
def rLenDK : List V → Hp → VK → Prop := fun xs H Q => ∃ a kvs, xs = [V.ref a] ∧ H a = some (.dK kvs) ∧ Q (.int kvs.length) H
theorem call_lenDK : CallR X (.builtin "len") rLenDK := call_lenD
def rIntU : List V → Hp → VK → Prop := fun xs H Q => (∃ i, xs = [.int i] ∧ Q (.int i) H) ∨ ∃ k, xs = [.bl k] ∧ Q (.int (if k then 1 else 0)) H
theorem call_intU : CallR X (.type "int") rIntU := call_int1
def rMin2 : List V → Hp → VK → Prop := fun xs H Q => ∃ i j, xs = [.int i, .int j] ∧ Q (.int (if j < i then j else i)) H
theorem call_min2U (hc : X.calm = true) : CallR X (.builtin "min") rMin2 := call_min2 hc
def rMax2 : List V → Hp → VK → Prop := fun xs H Q => ∃ i j, xs = [.int i, .int j] ∧ Q (.int (if j > i then j else i)) H
theorem call_max2U (hc : X.calm = true) : CallR X (.builtin "max") rMax2 := call_max2 hc
def rListU (K : PySem.W.Frag) : List V → Hp → VK → Prop := fun xs H Q => ∃ p ys, xs = [.ref p] ∧ (SqL K H p ys ∨ SqT K H p ys) ∧ ∀ l, H l = none → Q (.ref l) (upd H l (.lst ys))
theorem call_listU : CallR X (.type "list") (rListU X.K) := call_list_of
def rTupleU (K : PySem.W.Frag) : List V → Hp → VK → Prop := fun xs H Q => ∃ p ys, xs = [.ref p] ∧ ((SqL K H p ys ∧ ∀ l, H l = none → Q (.ref l) (upd H l (.tup ys))) ∨ (SqT K H p ys ∧ Q (.ref p) H))
theorem call_tupleU : CallR X (.type "tuple") (rTupleU X.K) := call_tuple_of
def rIsiU (K : PySem.W.Frag) : List V → Hp → VK → Prop := fun xs H Q => rIsi K xs H Q ∨ rIsiT K xs H Q
theorem call_isiU : CallR X (.builtin "isinstance") (rIsiU X.K) := CallR.or call_isi call_isiT
def rInsert : V → List V → Hp → VK → Prop := fun x vs H Q => ∃ (l : Addr) (xs : List V) (i : Int) (y : V), x = .ref l ∧ vs = [.int i, y] ∧ H l = some (.lst xs) ∧ xs.length < sizeLine ∧ 0 ≤ i ∧ i < 2 ^ 63 ∧ Q .non (upd H l (.lst (xs.take i.toNat ++ [y] ++ xs.drop i.toNat)))
theorem mt_insertU : MtR X "list.insert" rInsert := mt_insert
def rSlU (K : PySem.W.Frag) : V → Option Int → Option Int → Hp → VK → Prop := fun x lo hi H Q => rSlL K x lo hi H Q ∨ (rSlS x lo hi H Q ∨ rSlA K x lo hi H Q)
theorem sl_U : SlR X (rSlU X.K) := SlR.or sl_list (SlR.or sl_str sl_tupA)
theorem PI.or {tg l : Expr} {w1 w2 : TI} (h1 : PI X tg l w1) (h2 : PI X tg l w2) : PI X tg l (fun σ H R => w1 σ H R ∨ w2 σ H R) := by
  refine ⟨fun pins s σ H R I h => ?_⟩
  rcases h with h | h
  · exact h1.run pins s σ H R I h
  · exact h2.run pins s σ H R I h
theorem get_list : PGet X (rIxL X.K) := by
  intro pins s σ H o i ov iv Q I ro ri h
  obtain ⟨p, xs, k, v, rfl, rfl, hq, he, q⟩ := h
  cases ro
  obtain ⟨t, rfl⟩ := ri
  obtain ⟨its, r, pl, hz⟩ := I.list hq
  obtain ⟨j, h1, h2, h3, h4, h5⟩ := atI_get he
  obtain ⟨w, ew, rw'⟩ := r.get h2
  have hl := r.length
  have hn := line63
  have fin : EP X pins σ Q w s := ⟨v, H, I, rw', q⟩
  by_cases h0 : 0 ≤ k
  · have hj : k.toNat = j := by
      rw [seqIndex_of h0 h5] at h1
      exact Option.some.inj h1
    exact wpAny_getItem_list pl.isList h0 (by omega) (by rw [hj]; simpa using ew) fin
  · have hj : (k + (its.toArray.size : Int)).toNat = j := by
      rw [seqIndex_neg (by omega) h4] at h1
      rw [List.size_toArray, ← hl]
      exact Option.some.inj h1
    exact wpAny_getItem_list_neg (Q := fun r s' => EP X pins σ Q r s') pl.isList (by omega) (by rw [List.size_toArray] <;> omega) (by omega) (by rw [hj]; simpa using ew) fin
end
end Zl

/-! Zg: the readings, step by step (what is to be shown of the values as they stand) -/
namespace Zl
open PySem PySem.Spec PyProof.Rows L2
section
variable {K : PySem.W.Frag} {σ : L2.St} {H : Hp} {Q : VK} {i : Nat} {v x y : V} {ta tb te tv : TE} {tt t u : TT} {as tr : TA} {D : Ends} {s1 s2 : TS} {g : TG} {tget : V → V → Hp → VK → Prop} {tip : TIp} {tset : TSet}
/-- a new thing -/
def newQ (o : HO) (Q : VK) (H : Hp) : Prop := ∀ p, H p = none → Q (.ref p) (upd H p o)
def newK (o : HO) (n : Nat) (Q : VK) (H : Hp) : Prop := n ≤ sizeLine ∧ newQ o Q H
def blK (Q : Bool → Hp → Prop) (x : V) (H : Hp) : Prop := ∃ k, x = .bl k ∧ Q k H
def andK (tb : TE) (σ : L2.St) (Q : VK) (x : V) (H1 : Hp) : Prop := ∃ c, x = .bl c ∧ if c = true then tb σ H1 Q else Q (.bl false) H1
def orK (tb : TE) (σ : L2.St) (Q : VK) (x : V) (H1 : Hp) : Prop := ∃ c, x = .bl c ∧ if c = true then Q (.bl true) H1 else tb σ H1 Q
def notK (Q : VK) (x : V) (H1 : Hp) : Prop := ∃ c, x = .bl c ∧ Q (.bl (!c)) H1
def partK (Q : Option Int → Hp → Prop) (x : V) (H1 : Hp) : Prop := ∃ i, x = .int i ∧ Q (some i) H1
def fldK (K : PySem.W.Frag) (f : Str) (Q : VK) (x : V) (H1 : Hp) : Prop := ∃ a C dx fs v, x = .ref a ∧ H1 a = some (.ins C dx fs) ∧ Cls K C ∧ NoAttr K C f ∧ fs.lookup f = some v ∧ Q v H1
def methK (m : Str) (C : Addr) (sp : Sp) (dvs : List V) (E : XK) (as : TA) (σ : L2.St) (Q : VK) (x : V) (H1 : Hp) : Prop := ∃ a dx fs, x = .ref a ∧ H1 a = some (.ins C dx fs) ∧ fs.lookup m = none ∧ as σ H1 fun vs H2 => sp (x :: (vs ++ dvs)) H2 Q E
def bmK (K : PySem.W.Frag) (T : String) (r : V → List V → Hp → VK → Prop) (as : TA) (σ : L2.St) (Q : VK) (x : V) (H1 : Hp) : Prop := tyV K T x H1 ∧ as σ H1 fun xs H2 => r x xs H2 Q
def bm0K (K : PySem.W.Frag) (T : String) (r : V → List V → Hp → VK → Prop) (Q : VK) (x : V) (H1 : Hp) : Prop := tyV K T x H1 ∧ r x [] H1 Q
theorem g_var (h : σ[i]? = some (some v)) (k : Q v H) : tVar i σ H Q := ⟨v, h, k⟩
theorem g_c (k : Q v H) : tC v σ H Q := k
theorem g_op {r : R2} (k : ta σ H fun x H1 => tb σ H1 fun y H2 => r x y H2 Q) : tOp r ta tb σ H Q := k
theorem g_un {r : V → Hp → VK → Prop} (k : ta σ H fun x H1 => r x H1 Q) : tUn r ta σ H Q := k
theorem g_test {Q : Bool → Hp → Prop} (k : te σ H (blK Q)) : tTest te σ H Q := k
theorem g_B {Q : Bool → Hp → Prop} (k : te σ H (blK Q)) : tB te σ H Q := k
theorem g_and {Q : Bool → Hp → Prop} (k : t σ H fun c H1 => if c = true then u σ H1 Q else Q false H1) : tAnd t u σ H Q := k
theorem g_or {Q : Bool → Hp → Prop} (k : t σ H fun c H1 => if c = true then Q true H1 else u σ H1 Q) : tOr t u σ H Q := k
theorem g_not {Q : Bool → Hp → Prop} (k : t σ H fun c H1 => Q (!c) H1) : tNot t σ H Q := k
theorem g_andV (k : ta σ H (andK tb σ Q)) : tAndV ta tb σ H Q := k
theorem g_orV (k : ta σ H (orK tb σ Q)) : tOrV ta tb σ H Q := k
theorem g_notV (k : ta σ H (notK Q)) : tNotV ta σ H Q := k
theorem g_if (k : t σ H fun c H1 => if c = true then ta σ H1 Q else tb σ H1 Q) : tIf t ta tb σ H Q := k
theorem g_nil {Q : List V → Hp → Prop} (k : Q [] H) : tNil σ H Q := k
theorem g_cons {Q : List V → Hp → Prop} (k : te σ H fun x H1 => tr σ H1 fun xs H2 => Q (x :: xs) H2) : tCons te tr σ H Q := k
theorem g_call {sp : Sp} {dvs : List V} {E : XK} (k : as σ H fun vs H1 => sp (vs ++ dvs) H1 Q E) : tCall sp dvs E as σ H Q := k
theorem g_cb {r : List V → Hp → VK → Prop} (k : as σ H fun vs H1 => r vs H1 Q) : tCB r as σ H Q := k
theorem g_tup (k : as σ H fun xs H1 => newK (.tup xs) xs.length Q H1) : tTup as σ H Q := k
theorem g_lst (k : as σ H fun xs H1 => newK (.lst xs) xs.length Q H1) : tLst as σ H Q := k
theorem g_sl {r : V → Option Int → Option Int → Hp → VK → Prop} {tl th : TO} (k : te σ H fun x H1 => tl σ H1 fun l H2 => th σ H2 fun u H3 => r x l u H3 Q) : tSl r te tl th σ H Q := k
theorem g_nopart {Q : Option Int → Hp → Prop} (k : Q none H) : tNoPart σ H Q := k
theorem g_part {Q : Option Int → Hp → Prop} (k : te σ H (partK Q)) : tPart te σ H Q := k
theorem g_bm {T : String} {r : V → List V → Hp → VK → Prop} (k : te σ H (bmK K T r as σ Q)) : tBM K T r te as σ H Q := k
theorem g_bm0 {T : String} {r : V → List V → Hp → VK → Prop} (k : te σ H (bm0K K T r Q)) : tBM0 K T r te σ H Q := k
theorem g_fld {f : Str} (k : te σ H (fldK K f Q)) : tFld K te f σ H Q := k
theorem g_meth {C : Addr} {m : Str} {sp : Sp} {dvs : List V} {E : XK} (k : te σ H (methK m C sp dvs E as σ Q)) : tMeth C m sp dvs E te as σ H Q := k
/-! statements -/
theorem g_seq (k : s1 { D with nx := s2 D } σ H) : tSeq s1 s2 D σ H := k
theorem g_next (k : D.nx σ H) : tNext D σ H := k
theorem g_brk (k : D.bk σ H) : tBreak D σ H := k
theorem g_cont (k : D.ct σ H) : tCont D σ H := k
theorem g_drop (k : te σ H fun _ H1 => D.nx σ H1) : tDrop te D σ H := k
theorem g_ret (k : te σ H D.rt) : tRet te D σ H := k
theorem g_retN (k : D.rt .non H) : tRetN D σ H := k
theorem g_asg (k : te σ H fun x H1 => g x σ H1 D.nx) : tAsg te g D σ H := k
theorem g_name {Q : L2.St → Hp → Prop} (k : Q (σ.set i (some v)) H) : gName i v σ H Q := k
theorem g_ifS (k : tt σ H fun b H1 => if b = true then s1 D σ H1 else s2 D σ H1) : tIfS tt s1 s2 D σ H := k
theorem g_aug (h : σ[i]? = some (some x)) (k : te σ H fun y H1 => tip x y H1 fun z H2 => D.nx (σ.set i (some z)) H2) : tAug i te tip D σ H := ⟨x, h, k⟩
theorem g_augS (k : ta σ H fun o H1 => tb σ H1 fun i H2 => tget o i H2 fun x H3 => te σ H3 fun y H4 => tip x y H4 fun z H5 => tset o i z H5 fun H6 => D.nx σ H6) : tAugS ta tb te tget tip tset D σ H := k
theorem g_gsub {Q : L2.St → Hp → Prop} (k : ta σ H fun o H1 => tb σ H1 fun i H2 => tset o i v H2 fun H3 => Q σ H3) : gSub ta tb tset v σ H Q := k
theorem g_gtup {n : Nat} {tg : TGs} {Q : L2.St → Hp → Prop} {a : Addr} {xs : List V} (h : SqT K H a xs) (hl : xs.length = n) (k : tg xs σ H Q) : gTup K n tg (.ref a) σ H Q := ⟨a, xs, rfl, h, hl, k⟩
theorem g_glst {n : Nat} {tg : TGs} {Q : L2.St → Hp → Prop} {a : Addr} {xs : List V} (h : SqL K H a xs) (hl : xs.length = n) (k : tg xs σ H Q) : gLst K n tg (.ref a) σ H Q := ⟨a, xs, rfl, h, hl, k⟩
theorem g_gcons {tg : TGs} {vs : List V} {Q : L2.St → Hp → Prop} (k : g v σ H fun σ' H' => tg vs σ' H' Q) : gCons g tg (v :: vs) σ H Q := ⟨v, vs, rfl, k⟩
theorem g_gnil {Q : L2.St → Hp → Prop} (k : Q σ H) : gNil [] σ H Q := ⟨rfl, k⟩
/-! values -/
theorem g_bl {b : Bool} {Q : Bool → Hp → Prop} (k : Q b H) : blK Q (.bl b) H := ⟨b, rfl, k⟩
theorem g_int {n : Int} {Q : Option Int → Hp → Prop} (k : Q (some n) H) : partK Q (.int n) H := ⟨n, rfl, k⟩
theorem g_andK {b : Bool} (k : if b = true then tb σ H Q else Q (.bl false) H) : andK tb σ Q (.bl b) H := ⟨b, rfl, k⟩
theorem g_orK {b : Bool} (k : if b = true then Q (.bl true) H else tb σ H Q) : orK tb σ Q (.bl b) H := ⟨b, rfl, k⟩
theorem g_notK {b : Bool} (k : Q (.bl (!b)) H) : notK Q (.bl b) H := ⟨b, rfl, k⟩
theorem g_fldK {a C dx : Addr} {fs : List (Str × V)} {f : Str} (h : H a = some (.ins C dx fs)) (cl : Cls K C) (na : NoAttr K C f) (hl : fs.lookup f = some v) (k : Q v H) : fldK K f Q (.ref a) H := ⟨a, C, dx, fs, v, rfl, h, cl, na, hl, k⟩
theorem g_methK {a C dx : Addr} {fs : List (Str × V)} {m : Str} {sp : Sp} {dvs : List V} {E : XK} (h : H a = some (.ins C dx fs)) (hl : fs.lookup m = none) (k : as σ H fun vs H2 => sp (.ref a :: (vs ++ dvs)) H2 Q E) : methK m C sp dvs E as σ Q (.ref a) H := ⟨a, dx, fs, rfl, h, hl, k⟩
variable {m n : Int} {z w : Str}
theorem g_addI (k : Q (.int (m + n)) H) : rAddU K (.int m) (.int n) H Q := .inl ⟨m, n, rfl, rfl, k⟩
theorem g_addS (h : z.length + w.length ≤ sizeLine) (k : Q (.str (z ++ w)) H) : rAddU K (.str z) (.str w) H Q := .inr (.inl ⟨z, w, rfl, rfl, h, k⟩)
theorem g_addL {a b : Addr} {xs ys : List V} (h1 : H a = some (.lst xs)) (h2 : H b = some (.lst ys)) (h : xs.length + ys.length ≤ sizeLine) (k : newQ (.lst (xs ++ ys)) Q H) : rAddU K (.ref a) (.ref b) H Q :=
  .inr (.inr (.inl ⟨a, b, xs, ys, rfl, rfl, h1, h2, h, k⟩))
theorem g_subI (k : Q (.int (m - n)) H) : rI0 (fun i j => .int (i - j)) (.int m) (.int n) H Q := ⟨m, n, rfl, rfl, k⟩
theorem g_mulI (h : CMul m n) (k : Q (.int (m * n)) H) : rMulU (.int m) (.int n) H Q := .inl ⟨m, n, rfl, rfl, h, k⟩
theorem g_modI (h : 0 < n) (k : Q (.int (m % n)) H) : rI (fun _ j => 0 < j) (fun i j => .int (i % j)) (.int m) (.int n) H Q := ⟨m, n, rfl, rfl, h, k⟩
theorem g_divI (h : CDiv m n) (k : Q (.int (m / n)) H) : rI CDiv (fun i j => .int (i / j)) (.int m) (.int n) H Q := ⟨m, n, rfl, rfl, h, k⟩
theorem g_powI (h : CPow m n) (k : Q (.int (m ^ n.toNat)) H) : rI CPow (fun i j => .int (i ^ j.toNat)) (.int m) (.int n) H Q := ⟨m, n, rfl, rfl, h, k⟩
theorem g_ltI (k : Q (.bl (decide (m < n))) H) : rI0 (fun i j => .bl (decide (i < j))) (.int m) (.int n) H Q := ⟨m, n, rfl, rfl, k⟩
theorem g_leI (k : Q (.bl (decide (m ≤ n))) H) : rI0 (fun i j => .bl (decide (i ≤ j))) (.int m) (.int n) H Q := ⟨m, n, rfl, rfl, k⟩
theorem g_gtI (k : Q (.bl (decide (n < m))) H) : rI0 (fun i j => .bl (decide (j < i))) (.int m) (.int n) H Q := ⟨m, n, rfl, rfl, k⟩
theorem g_geI (k : Q (.bl (decide (n ≤ m))) H) : rI0 (fun i j => .bl (decide (j ≤ i))) (.int m) (.int n) H Q := ⟨m, n, rfl, rfl, k⟩
theorem g_neg (k : Q (.int (-m)) H) : rU (fun i => .int (-i)) (.int m) H Q := ⟨m, rfl, k⟩
theorem g_ipadd (k : Q (.int (m + n)) H) : ipI (fun i j => i + j) (.int m) (.int n) H Q := ⟨m, n, rfl, rfl, k⟩
theorem g_ipsub (k : Q (.int (m - n)) H) : ipI (fun i j => i - j) (.int m) (.int n) H Q := ⟨m, n, rfl, rfl, k⟩
/-- equal, by the values themselves -/
theorem g_eqI (k : Q (.bl (decide (m = n))) H) : rEqU K (.int m) (.int n) H Q := .inl ⟨rfl, by
  have e : decide (V.int m = V.int n) = decide (m = n) := by
    by_cases h : m = n
    · rw [h]; simp
    · rw [decide_eq_false h, decide_eq_false fun q => h (V.int.inj q)]
  rw [e]; exact k⟩
theorem g_neI (k : Q (.bl (!decide (m = n))) H) : rNeU K (.int m) (.int n) H Q := .inl ⟨rfl, by
  have e : decide (V.int m = V.int n) = decide (m = n) := by
    by_cases h : m = n
    · rw [h]; simp
    · rw [decide_eq_false h, decide_eq_false fun q => h (V.int.inj q)]
  rw [e]; exact k⟩
theorem g_eqS (k : Q (.bl (decide (z = w))) H) : rEqU K (.str z) (.str w) H Q := .inl ⟨rfl, by
  have e : decide (V.str z = V.str w) = decide (z = w) := by
    by_cases h : z = w
    · rw [h]; simp
    · rw [decide_eq_false h, decide_eq_false fun q => h (V.str.inj q)]
  rw [e]; exact k⟩
theorem g_neS (k : Q (.bl (!decide (z = w))) H) : rNeU K (.str z) (.str w) H Q := .inl ⟨rfl, by
  have e : decide (V.str z = V.str w) = decide (z = w) := by
    by_cases h : z = w
    · rw [h]; simp
    · rw [decide_eq_false h, decide_eq_false fun q => h (V.str.inj q)]
  rw [e]; exact k⟩
theorem g_eqB {a b : Bool} (k : Q (.bl (a == b)) H) : rEqU K (.bl a) (.bl b) H Q := .inl ⟨rfl, by
  have e : decide (V.bl a = V.bl b) = (a == b) := by cases a <;> cases b <;> rfl
  rw [e]; exact k⟩
theorem g_neB {a b : Bool} (k : Q (.bl (a != b)) H) : rNeU K (.bl a) (.bl b) H Q := .inl ⟨rfl, by
  have e : (!decide (V.bl a = V.bl b)) = (a != b) := by cases a <;> cases b <;> rfl
  rw [e]; exact k⟩
theorem g_eqD {d e : PyData} (h1 : Dp K H x d) (h2 : Dp K H y e) (s1 : SeqAt.shaped d = true) (s2 : SeqAt.shaped e = true) (k : Q (.bl (PyData.eqv d e)) H) : rEqU K x y H Q := .inr ⟨d, e, h1, h2, s1, s2, k⟩
theorem g_neD {d e : PyData} (h1 : Dp K H x d) (h2 : Dp K H y e) (s1 : SeqAt.shaped d = true) (s2 : SeqAt.shaped e = true) (k : Q (.bl (!PyData.eqv d e)) H) : rNeU K x y H Q := .inr ⟨d, e, h1, h2, s1, s2, k⟩
theorem g_isN (k : Q (.bl (decide (x = .non))) H) : rIsN x .non H Q := ⟨rfl, k⟩
theorem g_notN (k : Q (.bl (!decide (x = .non))) H) : rNotN x .non H Q := ⟨rfl, k⟩
theorem g_lenL {a : Addr} {xs : List V} (h : SqL K H a xs) (k : Q (.int xs.length) H) : rLenU K [.ref a] H Q := ⟨.ref a, xs.length, rfl, .inl ⟨xs, h, rfl⟩, k⟩
theorem g_lenT {a : Addr} {xs : List V} (h : SqT K H a xs) (k : Q (.int xs.length) H) : rLenU K [.ref a] H Q := ⟨.ref a, xs.length, rfl, .inr ⟨xs, h, rfl⟩, k⟩
theorem g_lenS (h : z.length ≤ sizeLine) (k : Q (.int z.length) H) : rLenU K [.str z] H Q := ⟨.str z, z.length, rfl, ⟨h, rfl⟩, k⟩
theorem g_intI (k : Q (.int m) H) : rIntU [.int m] H Q := .inl ⟨m, rfl, k⟩
theorem g_intB {b : Bool} (k : Q (.int (if b then 1 else 0)) H) : rIntU [.bl b] H Q := .inr ⟨b, rfl, k⟩
theorem g_min2 (k : Q (.int (min m n)) H) : rMin2 [.int m, .int n] H Q := ⟨m, n, rfl, by
  have e : (if n < m then n else m) = min m n := by
    rw [Int.min_def]; split <;> split <;> omega
  rw [e]; exact k⟩
theorem g_max2 (k : Q (.int (max m n)) H) : rMax2 [.int m, .int n] H Q := ⟨m, n, rfl, by
  have e : (if n > m then n else m) = max m n := by
    rw [Int.max_def]; split <;> split <;> omega
  rw [e]; exact k⟩
theorem g_listL {a : Addr} {xs : List V} (h : SqL K H a xs) (k : newQ (.lst xs) Q H) : rListU K [.ref a] H Q := ⟨a, xs, rfl, .inl h, k⟩
theorem g_listT {a : Addr} {xs : List V} (h : SqT K H a xs) (k : newQ (.lst xs) Q H) : rListU K [.ref a] H Q := ⟨a, xs, rfl, .inr h, k⟩
theorem g_tupleL {a : Addr} {xs : List V} (h : SqL K H a xs) (k : newQ (.tup xs) Q H) : rTupleU K [.ref a] H Q := ⟨a, xs, rfl, .inl ⟨h, k⟩⟩
theorem g_ixL {a : Addr} {xs : List V} (h : SqL K H a xs) (hi : atI xs m = some v) (k : Q v H) : rIx K (.ref a) (.int m) H Q := .inl ⟨a, xs, m, v, rfl, rfl, h, hi, k⟩
theorem g_ixT {a : Addr} {xs : List V} (h : SqT K H a xs) (hi : atI xs m = some v) (k : Q v H) : rIx K (.ref a) (.int m) H Q := .inr (.inl ⟨a, xs, m, v, rfl, rfl, h, hi, k⟩)
theorem g_ixS {c : Nat} (h : z.length ≤ sizeLine) (hi : atI z.cps.toList m = some c) (k : Q (.str ⟨#[c]⟩) H) : rIx K (.str z) (.int m) H Q := .inr (.inr ⟨z, m, c, rfl, rfl, h, hi, k⟩)
theorem g_ixLL {a : Addr} {xs : List V} (h : SqL K H a xs) (hi : atI xs m = some v) (k : Q v H) : rIxL K (.ref a) (.int m) H Q := ⟨a, xs, m, v, rfl, rfl, h, hi, k⟩
theorem g_slL {a : Addr} {xs : List V} {lo hi : Option Int} (h : SqL K H a xs) (k : newQ (.lst (cutV xs lo hi)) Q H) : rSlU K (.ref a) lo hi H Q := .inl ⟨a, xs, rfl, h, k⟩
theorem g_slS {lo hi : Option Int} (h : z.length ≤ sizeLine) (k : Q (.str (cutS z lo hi)) H) : rSlU K (.str z) lo hi H Q := .inr (.inl ⟨z, rfl, h, k⟩)
end
/-! tests whose outcome is open -/
theorem ite_d {p A B : Prop} {_ : Decidable p} (h1 : p → A) (h2 : ¬ p → B) : if decide p = true then A else B := by
  by_cases h : p
  · rw [decide_eq_true h, if_pos rfl]; exact h1 h
  · rw [decide_eq_false h, if_neg Bool.false_ne_true]; exact h2 h
theorem ite_nd {p A B : Prop} {_ : Decidable p} (h1 : ¬ p → A) (h2 : p → B) : if (!decide p) = true then A else B := by
  by_cases h : p
  · rw [decide_eq_true h]; exact h2 h
  · rw [decide_eq_false h]; exact h1 h
theorem ite_b {b : Bool} {A B : Prop} (h1 : b = true → A) (h2 : b = false → B) : if b = true then A else B := by
  cases b
  · exact h2 rfl
  · exact h1 rfl
theorem ite_nb {b : Bool} {A B : Prop} (h1 : b = false → A) (h2 : b = true → B) : if (!b) = true then A else B := by
  cases b
  · exact h1 rfl
  · exact h2 rfl
theorem atI_of {α : Type} {xs : List α} {m : Int} {v : α} (h0 : 0 ≤ m) (h : xs[m.toNat]? = some v) : atI xs m = some v := by
  have e : ((m.toNat : Nat) : Int) = m := Int.toNat_of_nonneg h0
  have q := atI_nat h
  rw [e] at q
  exact q
theorem atI_int {ns : List Int} {m : Int} (h0 : 0 ≤ m) (h : m < ns.length) : atI (ns.map V.int) m = some (.int (ns.getD m.toNat 0)) := by
  refine atI_of h0 ?_
  have hl : m.toNat < ns.length := by omega
  rw [List.getElem?_map, List.getElem?_eq_getElem hl, List.getD_eq_getElem?_getD, List.getElem?_eq_getElem hl] <;> rfl
end Zl

/-! Zd: data of tuples, what is an instance of what, room -/
namespace Zl
open PySem PySem.Spec PyProof.Rows L2

theorem small_of {n : Nat} (h : n < 16777216) : n < sizeLine := by rw [sizeLine_eq]; exact h
theorem small_le {n : Nat} (h : n ≤ 16777216) : n ≤ sizeLine := by rw [sizeLine_eq]; exact h
theorem hu64 {A : Around} {k : Nat} (hr : Room k A) : A.units + 64 < cLine := hr.units
theorem hu65 {A : Around} {k : Nat} (hr : Room k A) : A.units + 65 < cLine := by have := hr.un; omega
def tTr (K : PySem.W.Frag) (ta : TE) : TT := fun σ H Q => ta σ H fun x H' => ∃ k, TruV K x H' k ∧ Q k H'
theorem pt_tr {X : Cx} {a : Expr} {ta : TE} (he : ∀ whole, isTrue a X.env whole = (do let v ← whole; standAt a.pos; holding [v] (truthy v))) (h : PE X a ta) : PT X a (tTr X.K ta) := pt_truth h he
def trK (K : PySem.W.Frag) (Q : Bool → Hp → Prop) (x : V) (H : Hp) : Prop := ∃ k, TruV K x H k ∧ Q k H
theorem g_tr {K : PySem.W.Frag} {ta : TE} {σ : L2.St} {H : Hp} {Q : Bool → Hp → Prop} (k : ta σ H (trK K Q)) : tTr K ta σ H Q := k
theorem g_trB {K : PySem.W.Frag} {H : Hp} {b : Bool} {Q : Bool → Hp → Prop} (k : Q b H) : trK K Q (.bl b) H := ⟨b, rfl, k⟩

/-! ### data that is made of tuples alone: it stays whatever is written -/
mutual
inductive Td (H : Hp) : V → PyData → Prop
  | non : Td H .non .none
  | bl (b : Bool) : Td H (.bl b) (.bool b)
  | int (i : Int) : Td H (.int i) (.int i)
  | str (x : Str) : Td H (.str x) (.str x)
  | tup {a : Addr} {xs : List V} {ds : List PyData} : H a = some (.tup xs) → TdAll H xs ds → Td H (.ref a) (.tuple ds)
inductive TdAll (H : Hp) : List V → List PyData → Prop
  | nil : TdAll H [] []
  | cons {v : V} {vs : List V} {d : PyData} {ds : List PyData} : Td H v d → TdAll H vs ds → TdAll H (v :: vs) (d :: ds)
end
/-- the tuples stay -/
def Tup (H H' : Hp) : Prop := ∀ a xs, H a = some (.tup xs) → H' a = some (.tup xs)
theorem Tup.refl (H : Hp) : Tup H H := fun _ _ h => h
theorem Tup.trans {H H1 H2 : Hp} (a : Tup H H1) (b : Tup H1 H2) : Tup H H2 := fun x o h => b x o (a x o h)
theorem Tup.of {H H' : Hp} (e : Same H H') : Tup H H' := fun a xs h => e a _ h
theorem Tup.mut {H H' : Hp} {l : Addr} (hl : ∀ xs, H l ≠ some (.tup xs)) (e : ∀ b u, b ≠ l → H b = some u → H' b = some u) : Tup H H' := fun a xs h => e a _ (fun q => hl xs (by rw [← q]; exact h)) h
mutual
theorem td_tup {H H' : Hp} (e : Tup H H') : ∀ {v : V} {d : PyData}, Td H v d → Td H' v d
  | _, _, .non => .non
  | _, _, .bl b => .bl b
  | _, _, .int i => .int i
  | _, _, .str x => .str x
  | _, _, .tup h a => .tup (e _ _ h) (tds_tup e a)
theorem tds_tup {H H' : Hp} (e : Tup H H') : ∀ {vs : List V} {ds : List PyData}, TdAll H vs ds → TdAll H' vs ds
  | _, _, .nil => .nil
  | _, _, .cons h a => .cons (td_tup e h) (tds_tup e a)
end
mutual
theorem td_dp {K : PySem.W.Frag} {H : Hp} : ∀ {v : V} {d : PyData}, Td H v d → Dp K H v d
  | _, _, .non => .non
  | _, _, .bl b => .bl b
  | _, _, .int i => .int i
  | _, _, .str x => .str x
  | _, _, .tup h a => .tup (.inl (.inl h)) (tds_dp a)
theorem tds_dp {K : PySem.W.Frag} {H : Hp} : ∀ {vs : List V} {ds : List PyData}, TdAll H vs ds → DpAll K H vs ds
  | _, _, .nil => .nil
  | _, _, .cons h a => .cons (td_dp h) (tds_dp a)
end
theorem td_ex {H H' : Hp} (e : Same H H') {v : V} {d : PyData} (h : Td H v d) : Td H' v d := td_tup (Tup.of e) h
theorem tds_ex {H H' : Hp} (e : Same H H') {vs : List V} {ds : List PyData} (h : TdAll H vs ds) : TdAll H' vs ds := tds_tup (Tup.of e) h
theorem tds_len {H : Hp} : ∀ {vs : List V} {ds : List PyData}, TdAll H vs ds → vs.length = ds.length
  | _, _, .nil => rfl
  | _, _, .cons _ a => congrArg (· + 1) (tds_len a)
theorem tds_get {H : Hp} : ∀ {vs : List V} {ds : List PyData} {i : Nat} {v : V}, TdAll H vs ds → vs[i]? = some v → ∃ d, ds[i]? = some d ∧ Td H v d
  | _, _, _, _, .nil, h => by simp at h
  | _, _, 0, _, .cons h _, e => by
    cases (show some _ = some _ from e)
    exact ⟨_, rfl, h⟩
  | _, _, i + 1, _, .cons _ a, e => tds_get (i := i) a (by simpa using e)
theorem tds_getD {H : Hp} : ∀ {vs : List V} {ds : List PyData} {i : Nat} {d : PyData}, TdAll H vs ds → ds[i]? = some d → ∃ v, vs[i]? = some v ∧ Td H v d
  | _, _, _, _, .nil, h => by simp at h
  | _, _, 0, _, .cons h _, e => by
    cases (show some _ = some _ from e)
    exact ⟨_, rfl, h⟩
  | _, _, i + 1, _, .cons _ a, e => tds_getD (i := i) a (by simpa using e)
theorem tds_app {H : Hp} : ∀ {vs vs' : List V} {ds ds' : List PyData}, TdAll H vs ds → TdAll H vs' ds' → TdAll H (vs ++ vs') (ds ++ ds')
  | _, _, _, _, .nil, b => b
  | _, _, _, _, .cons h a, b => .cons h (tds_app a b)
theorem tds_snoc {H : Hp} {vs : List V} {ds : List PyData} {v : V} {d : PyData} (a : TdAll H vs ds) (h : Td H v d) : TdAll H (vs ++ [v]) (ds ++ [d]) := tds_app a (.cons h .nil)
theorem tds_take {H : Hp} : ∀ {vs : List V} {ds : List PyData} (n : Nat), TdAll H vs ds → TdAll H (vs.take n) (ds.take n)
  | _, _, 0, _ => .nil
  | _, _, _ + 1, .nil => .nil
  | _, _, n + 1, .cons h a => .cons h (tds_take n a)
theorem tds_drop {H : Hp} : ∀ {vs : List V} {ds : List PyData} (n : Nat), TdAll H vs ds → TdAll H (vs.drop n) (ds.drop n)
  | _, _, 0, a => a
  | _, _, _ + 1, .nil => .nil
  | _, _, n + 1, .cons _ a => tds_drop n a
theorem tds_int {H : Hp} : ∀ ns : List Int, TdAll H (ns.map V.int) (ns.map PyData.int)
  | [] => .nil
  | n :: ns => .cons (.int n) (tds_int ns)
/-- the frame with all tuples of the heap -/
def tupsOf (H B : Hp) : Hp := fun a => match H a with
  | some (.tup xs) => some (.tup xs)
  | _ => B a
theorem tupsOf_same {B H : Hp} (e : Same B H) : Same B (tupsOf H B) := fun a o h => by
  have h' := e a o h
  unfold tupsOf
  rw [h']
  cases o <;> first | rfl | exact h
theorem tupsOf_tup {B H : Hp} : Tup H (tupsOf H B) := fun a xs h => by
  unfold tupsOf
  rw [h]
theorem tupsOf_sub {B H : Hp} (e : Same B H) : Same (tupsOf H B) H := fun a o h => by
  unfold tupsOf at h
  split at h
  · rename_i xs hx
    rw [hx]
    exact h
  · exact e a o h
theorem Own.tups {B H : Hp} {cs : List (Addr × HO)} (O : Own B cs H) (h : ∀ c ∈ cs, ∀ xs, c.2 ≠ .tup xs) : Own (tupsOf H B) cs H := by
  refine ⟨tupsOf_sub O.fr, fun c hc => ?_, O.have_, O.nd⟩
  have h1 := O.have_ c hc
  have h2 := h c hc
  unfold tupsOf
  rw [h1]
  split
  · rename_i xs hx
    exact absurd (Option.some.inj hx) (h2 xs)
  · exact O.out c hc

/-! ### loops, lists that are owned -/
section
variable {K : PySem.W.Frag} {B : Hp} {cs : List (Addr × HO)} {σ : L2.St} {H : Hp} {a : Addr} {xs : List V} {v : V} {Q : VK} {D : Ends} {tb : TS} {g : TG} {ta : TA} {te : TE}
theorem g_tyL {r : V → List V → Hp → VK → Prop} {as : TA} (h : SqL K H a xs) (k : as σ H fun xs H2 => r (.ref a) xs H2 Q) : bmK K "list" r as σ Q (.ref a) H := ⟨.inl ⟨rfl, xs, h⟩, k⟩
theorem g_tyL0 {r : V → List V → Hp → VK → Prop} (h : SqL K H a xs) (k : r (.ref a) [] H Q) : bm0K K "list" r Q (.ref a) H := ⟨.inl ⟨rfl, xs, h⟩, k⟩
theorem g_append (O : Own B cs H) (j : Nat) (h : cs[j]? = some (a, .lst xs)) (hz : xs.length < sizeLine) (k : ∀ H', Own B (cs.set j (a, .lst (xs ++ [v]))) H' → Q .non H') : rAppend (.ref a) [v] H Q :=
  ⟨a, xs, v, rfl, rfl, O.get j h, hz, k _ (O.set j h)⟩
theorem g_extend {b : Addr} {zs : List V} (O : Own B cs H) (j : Nat) (h : cs[j]? = some (a, .lst xs)) (hb : H b = some (.lst zs)) (hz : xs.length + zs.length ≤ sizeLine) (k : ∀ H', Own B (cs.set j (a, .lst (xs ++ zs))) H' → Q .non H') : rExtend (.ref a) [.ref b] H Q :=
  ⟨a, b, xs, zs, rfl, rfl, O.get j h, hb, hz, k _ (O.set j h)⟩
theorem g_insert {i : Int} (O : Own B cs H) (j : Nat) (h : cs[j]? = some (a, .lst xs)) (hz : xs.length < sizeLine) (h0 : 0 ≤ i) (h1 : i < 2 ^ 63) (k : ∀ H', Own B (cs.set j (a, .lst (xs.take i.toNat ++ [v] ++ xs.drop i.toNat))) H' → Q .non H') : rInsert (.ref a) [.int i, v] H Q :=
  ⟨a, xs, i, v, rfl, rfl, O.get j h, hz, h0, h1, k _ (O.set j h)⟩
theorem ixN_nat {n : Nat} {i : Int} (h0 : 0 ≤ i) (h : i < n) : ixN n i = some i.toNat := by
  unfold ixN
  rw [if_pos h0, if_pos h]
theorem g_setL {i : Int} {Q : Hp → Prop} (O : Own B cs H) (j : Nat) (h : cs[j]? = some (a, .lst xs)) (h0 : 0 ≤ i) (h1 : i < xs.length) (k : ∀ H', Own B (cs.set j (a, .lst (xs.set i.toNat v))) H' → Q H') : rSetL (.ref a) (.int i) v H Q :=
  ⟨a, xs, i, i.toNat, rfl, rfl, O.get j h, ixN_nat h0 h1, k _ (O.set j h)⟩
theorem g_new {n : Nat} {o : HO} (hz : n ≤ sizeLine) (O : Own B cs H) (k : ∀ p H', H p = none → Own B ((p, o) :: cs) H' → Q (.ref p) H') : newK o n Q H := ⟨hz, own_new O k⟩
theorem g_newQ {o : HO} (O : Own B cs H) (k : ∀ p H', H p = none → Own B ((p, o) :: cs) H' → Q (.ref p) H') : newQ o Q H := own_new O k
/-- what a for is to keep, whatever it walks -/
def forB (g : TG) (tb : TS) (D : Ends) (σ : L2.St) (J : It) (H1 : Hp) : Prop := ∃ W : Nat → Nat → L2.St → Hp → Prop, (∃ m, W 0 m σ H1) ∧ ∀ i m σ H, W i m σ H →
  (J.stop i H ∧ D.nx σ H) ∨ (J.go i H ∧ ∃ N : L2.St → Hp → Prop, (∀ σ' H', N σ' H' → ∃ m', m' < m ∧ W (i + 1) m' σ' H') ∧ ∀ x H', J.yld i H x H' → g x σ H' fun σ2 H2 => tb { D with nx := N, ct := N, bk := D.nx } σ2 H2)
theorem g_for {wi : TI} (k : wi σ H (forB g tb D σ)) : tFor wi g tb D σ H := k
def rng1K (R : It → Hp → Prop) (vs : List V) (H1 : Hp) : Prop := ∃ j : Int, vs = [.int j] ∧ -(2 ^ 62) ≤ j ∧ j < 2 ^ 62 ∧ R (Itr 0 j.toNat) H1
def rng2K (R : It → Hp → Prop) (vs : List V) (H1 : Hp) : Prop := ∃ i j : Int, vs = [.int i, .int j] ∧ (-(2 ^ 62) ≤ i ∧ i < 2 ^ 62 ∧ -(2 ^ 62) ≤ j ∧ j < 2 ^ 62) ∧ R (Itr i (j - i).toNat) H1
def rng3K (R : It → Hp → Prop) (vs : List V) (H1 : Hp) : Prop := ∃ (i j c : Int) (n : Nat), vs = [.int i, .int j, .int c] ∧ RgC i j c n ∧ R (Itc i c n) H1
def iLK (K : PySem.W.Frag) (R : It → Hp → Prop) (x : V) (H1 : Hp) : Prop := ∃ a, x = .ref a ∧ (∃ xs, SqL K H1 a xs) ∧ R (Itl K a) H1
def iTK (K : PySem.W.Frag) (R : It → Hp → Prop) (x : V) (H1 : Hp) : Prop := ∃ a, x = .ref a ∧ (∃ xs, SqT K H1 a xs) ∧ R (Itt K a) H1
def iSK (R : It → Hp → Prop) (v : V) (H1 : Hp) : Prop := ∃ x, v = .str x ∧ R (Its x) H1
def iZK (K : PySem.W.Frag) (R : It → Hp → Prop) (vs : List V) (H1 : Hp) : Prop := ∃ a b xs ys, vs = [.ref a, .ref b] ∧ SqL K H1 a xs ∧ SqL K H1 b ys ∧ R (Itz K a b) H1
def iEK (K : PySem.W.Frag) (R : It → Hp → Prop) (vs : List V) (H1 : Hp) : Prop := ∃ a xs, vs = [.ref a] ∧ SqL K H1 a xs ∧ R (Ite K a) H1
theorem g_rng1 {R : It → Hp → Prop} (k : ta σ H (rng1K R)) : iRng1 ta σ H R := k
theorem g_rng2 {R : It → Hp → Prop} (k : ta σ H (rng2K R)) : iRng2 ta σ H R := k
theorem g_rng3 {R : It → Hp → Prop} (k : ta σ H (rng3K R)) : iRng3 ta σ H R := k
theorem g_iList {R : It → Hp → Prop} (k : te σ H (iLK K R)) : iList K te σ H R := k
theorem g_iTup {R : It → Hp → Prop} (k : te σ H (iTK K R)) : iTup K te σ H R := k
theorem g_iStr {R : It → Hp → Prop} (k : te σ H (iSK R)) : iStr te σ H R := k
theorem g_iZip {R : It → Hp → Prop} (k : ta σ H (iZK K R)) : iZip K ta σ H R := k
theorem g_iEnum {R : It → Hp → Prop} (k : ta σ H (iEK K R)) : iEnum K ta σ H R := k
theorem g_rng1v {n : Int} {R : It → Hp → Prop} (h : -(2 ^ 62) ≤ n ∧ n < 2 ^ 62) (k : R (Itr 0 n.toNat) H) : rng1K R [V.int n] H := ⟨n, rfl, h.1, h.2, k⟩
theorem g_rng2v {m n : Int} {R : It → Hp → Prop} (h : -(2 ^ 62) ≤ m ∧ m < 2 ^ 62 ∧ -(2 ^ 62) ≤ n ∧ n < 2 ^ 62) (k : R (Itr m (n - m).toNat) H) : rng2K R [V.int m, V.int n] H := ⟨m, n, rfl, h, k⟩
theorem g_rng3v {m n c : Int} {N : Nat} {R : It → Hp → Prop} (h : RgC m n c N) (k : R (Itc m c N) H) : rng3K R [V.int m, V.int n, V.int c] H := ⟨m, n, c, N, rfl, h, k⟩
theorem g_iListv {R : It → Hp → Prop} (h : SqL K H a xs) (k : R (Itl K a) H) : iLK K R (.ref a) H := ⟨a, rfl, ⟨xs, h⟩, k⟩
theorem g_iTupv {R : It → Hp → Prop} (h : SqT K H a xs) (k : R (Itt K a) H) : iTK K R (.ref a) H := ⟨a, rfl, ⟨xs, h⟩, k⟩
theorem g_iStrv {z : Str} {R : It → Hp → Prop} (k : R (Its z) H) : iSK R (.str z) H := ⟨z, rfl, k⟩
theorem g_iZipv {b : Addr} {ys : List V} {R : It → Hp → Prop} (h : SqL K H a xs) (h2 : SqL K H b ys) (k : R (Itz K a b) H) : iZK K R [.ref a, .ref b] H := ⟨a, b, xs, ys, rfl, h, h2, k⟩
theorem g_iEnumv {R : It → Hp → Prop} (h : SqL K H a xs) (k : R (Ite K a) H) : iEK K R [.ref a] H := ⟨a, xs, rfl, h, k⟩
theorem forB_rng {lo : Int} {n : Nat} (Pv : Nat → L2.St → Hp → Prop) (h0 : Pv 0 σ H) (hs : ∀ (i : Nat) σ' H', i < n → Pv i σ' H' → g (.int (lo + (i : Int))) σ' H' fun σ2 H2 => tb { D with nx := Pv (i + 1), ct := Pv (i + 1), bk := D.nx } σ2 H2) (hd : ∀ σ' H', Pv n σ' H' → D.nx σ' H') : forB g tb D σ (Itr lo n) H :=
  for_it walk_range Pv h0 (fun _ _ _ _ _ => trivial) (fun i x σ' H1 H' hi p y => by obtain ⟨rfl, rfl⟩ := y; exact hs i σ' _ hi p) hd
theorem forB_rng0 {n : Int} (Pv : Nat → L2.St → Hp → Prop) (h0 : Pv 0 σ H) (hs : ∀ (i : Nat) σ' H', (i : Int) < n → Pv i σ' H' → g (.int (i : Int)) σ' H' fun σ2 H2 => tb { D with nx := Pv (i + 1), ct := Pv (i + 1), bk := D.nx } σ2 H2) (hd : ∀ σ' H', Pv n.toNat σ' H' → D.nx σ' H') : forB g tb D σ (Itr 0 n.toNat) H :=
  forB_rng Pv h0 (fun i σ' H' hi p => by rw [Int.zero_add]; exact hs i σ' H' (by omega) p) hd
theorem forB_list (xs : List V) (Pv : Nat → L2.St → Hp → Prop) (h0 : Pv 0 σ H) (hl : ∀ i σ' H', i ≤ xs.length → Pv i σ' H' → SqL K H' a xs) (hs : ∀ i x σ' H', xs[i]? = some x → Pv i σ' H' → g x σ' H' fun σ2 H2 => tb { D with nx := Pv (i + 1), ct := Pv (i + 1), bk := D.nx } σ2 H2) (hd : ∀ σ' H', Pv xs.length σ' H' → D.nx σ' H') : forB g tb D σ (Itl K a) H :=
  for_it walk_list Pv h0 hl (fun i x σ' H1 H' hi p y => by obtain ⟨rfl, e⟩ := y; exact hs i x σ' _ e p) hd
theorem forB_tup (xs : List V) (Pv : Nat → L2.St → Hp → Prop) (h0 : Pv 0 σ H) (hl : ∀ i σ' H', i ≤ xs.length → Pv i σ' H' → SqT K H' a xs) (hs : ∀ i x σ' H', xs[i]? = some x → Pv i σ' H' → g x σ' H' fun σ2 H2 => tb { D with nx := Pv (i + 1), ct := Pv (i + 1), bk := D.nx } σ2 H2) (hd : ∀ σ' H', Pv xs.length σ' H' → D.nx σ' H') : forB g tb D σ (Itt K a) H :=
  for_it walk_tup Pv h0 hl (fun i x σ' H1 H' hi p y => by obtain ⟨rfl, e⟩ := y; exact hs i x σ' _ e p) hd
theorem forB_str {z : Str} (Pv : Nat → L2.St → Hp → Prop) (h0 : Pv 0 σ H) (hs : ∀ i c σ' H', z.cps[i]? = some c → Pv i σ' H' → g (.str ⟨#[c]⟩) σ' H' fun σ2 H2 => tb { D with nx := Pv (i + 1), ct := Pv (i + 1), bk := D.nx } σ2 H2) (hd : ∀ σ' H', Pv z.cps.size σ' H' → D.nx σ' H') : forB g tb D σ (Its z) H :=
  for_it walk_str Pv h0 (fun _ _ _ _ _ => trivial) (fun i x σ' H1 H' hi p y => by obtain ⟨rfl, c, e, rfl⟩ := y; exact hs i c σ' _ e p) hd
/-- a comprehension, whatever it walks -/
def lcB (g : TG) (tt : TT) (te : TE) (vs : List Nat) (σ : L2.St) (Q : VK) (J : It) (H1 : Hp) : Prop := ∀ D, H1 D = none → ∃ W : Nat → Nat → Hp → Prop, (∃ m, W 0 m (upd H1 D (.lst []))) ∧ ∀ i m H, W i m H →
  (J.stop i H ∧ Q (.ref D) H) ∨ (J.go i H ∧ ∃ Nx : Hp → Prop, (∀ H', Nx H' → ∃ m', m' < m ∧ W (i + 1) m' H') ∧ ∀ x H', J.yld i H x H' → g x (wipe σ vs) H' fun σ2 H2 => wipe σ2 vs = wipe σ vs ∧ tt σ2 H2 fun b H3 =>
    if b = true then te σ2 H3 fun y H4 => ∃ acc, H4 D = some (.lst acc) ∧ acc.length < sizeLine ∧ Nx (upd H4 D (.lst (acc ++ [y]))) else Nx H3)
theorem g_lc {wi : TI} {tt : TT} {vs : List Nat} (k : wi σ H (lcB g tt te vs σ Q)) : tLc wi g tt te vs σ H Q := k
/-- the turn's end of a comprehension -/
def lcPut (D : Addr) (P : Hp → Prop) (y : V) (H4 : Hp) : Prop := ∃ acc, H4 D = some (.lst acc) ∧ acc.length < sizeLine ∧ P (upd H4 D (.lst (acc ++ [y])))
def lcT (D : Addr) (tt : TT) (te : TE) (vs : List Nat) (σ : L2.St) (P : Hp → Prop) (σ2 : L2.St) (H2 : Hp) : Prop := wipe σ2 vs = wipe σ vs ∧ tt σ2 H2 fun b H3 =>
    if b = true then te σ2 H3 (lcPut D P) else P H3
theorem lcB_rng {lo : Int} {n : Nat} {tt : TT} {vs : List Nat} (Pv : Addr → Nat → Hp → Prop) (h0 : ∀ D, H D = none → Pv D 0 (upd H D (.lst []))) (hs : ∀ D (i : Nat) H', i < n → Pv D i H' → g (.int (lo + (i : Int))) (wipe σ vs) H' (lcT D tt te vs σ (Pv D (i + 1)))) (hd : ∀ D H', H D = none → Pv D n H' → Q (.ref D) H') : lcB g tt te vs σ Q (Itr lo n) H :=
  fun D hD => lc_it walk_range (Pv D) (h0 D hD) (fun _ _ _ _ => trivial) (fun i x H1 H' hi p y => by obtain ⟨rfl, rfl⟩ := y; exact hs D i _ hi p) (fun H' p => hd D H' hD p)
theorem lcB_rng0 {n : Int} {tt : TT} {vs : List Nat} (Pv : Addr → Nat → Hp → Prop) (h0 : ∀ D, H D = none → Pv D 0 (upd H D (.lst []))) (hs : ∀ D (i : Nat) H', (i : Int) < n → Pv D i H' → g (.int (i : Int)) (wipe σ vs) H' (lcT D tt te vs σ (Pv D (i + 1)))) (hd : ∀ D H', H D = none → Pv D n.toNat H' → Q (.ref D) H') : lcB g tt te vs σ Q (Itr 0 n.toNat) H :=
  lcB_rng Pv h0 (fun D i H' hi p => by rw [Int.zero_add]; exact hs D i H' (by omega) p) hd
theorem lcB_list (xs : List V) {tt : TT} {vs : List Nat} (Pv : Addr → Nat → Hp → Prop) (h0 : ∀ D, H D = none → Pv D 0 (upd H D (.lst []))) (hl : ∀ D i H', i ≤ xs.length → Pv D i H' → SqL K H' a xs) (hs : ∀ D (i : Nat) x H', xs[i]? = some x → Pv D i H' → g x (wipe σ vs) H' (lcT D tt te vs σ (Pv D (i + 1)))) (hd : ∀ D H', H D = none → Pv D xs.length H' → Q (.ref D) H') : lcB g tt te vs σ Q (Itl K a) H :=
  fun D hD => lc_it walk_list (Pv D) (h0 D hD) (hl D) (fun i x H1 H' hi p y => by obtain ⟨rfl, e⟩ := y; exact hs D i x _ e p) (fun H' p => hd D H' hD p)
theorem lcB_tup (xs : List V) {tt : TT} {vs : List Nat} (Pv : Addr → Nat → Hp → Prop) (h0 : ∀ D, H D = none → Pv D 0 (upd H D (.lst []))) (hl : ∀ D i H', i ≤ xs.length → Pv D i H' → SqT K H' a xs) (hs : ∀ D (i : Nat) x H', xs[i]? = some x → Pv D i H' → g x (wipe σ vs) H' (lcT D tt te vs σ (Pv D (i + 1)))) (hd : ∀ D H', H D = none → Pv D xs.length H' → Q (.ref D) H') : lcB g tt te vs σ Q (Itt K a) H :=
  fun D hD => lc_it walk_tup (Pv D) (h0 D hD) (hl D) (fun i x H1 H' hi p y => by obtain ⟨rfl, e⟩ := y; exact hs D i x _ e p) (fun H' p => hd D H' hD p)
theorem g_lcT {Dl : Addr} {tt : TT} {vs : List Nat} {σ2 : L2.St} {P : Hp → Prop} (hw : wipe σ2 vs = wipe σ vs) (k : tt σ2 H fun b H3 => if b = true then te σ2 H3 (lcPut Dl P) else P H3) : lcT Dl tt te vs σ P σ2 H := ⟨hw, k⟩
theorem g_yes {Q : Bool → Hp → Prop} (k : Q true H) : tYes σ H Q := k
/-- the item goes onto the list at D, which is the first cell -/
theorem g_lcPut {Dl : Addr} {acc : List V} {P : Hp → Prop} (O : Own B cs H) (j : Nat) (h : cs[j]? = some (Dl, .lst acc)) (hz : acc.length < sizeLine) (k : ∀ H', Own B (cs.set j (Dl, .lst (acc ++ [v]))) H' → P H') : lcPut Dl P v H :=
  ⟨acc, O.get j h, hz, k _ (O.set j h)⟩
end
/-! ### objects -/
section
variable {K : PySem.W.Frag} {B : Hp} {cs : List (Addr × HO)} {σ : L2.St} {H : Hp} {a C dx : Addr} {fs : List (Str × V)} {f : Str} {v x : V} {Q : VK} {D : Ends} {ta tv : TE} {as : TA}
def sFldK (K : PySem.W.Frag) (y : V) (f : Str) (D : Ends) (σ : L2.St) (x : V) (H2 : Hp) : Prop := ∃ a C dx fs, x = .ref a ∧ H2 a = some (.ins C dx fs) ∧ Cls K C ∧ NoAttr K C f ∧ fs.length < 1000 ∧ D.nx σ (upd H2 a (.ins C dx (putF f y fs)))
theorem g_sFld (k : tv σ H fun y H1 => ta σ H1 (sFldK K y f D σ)) : sFld K ta tv f D σ H := k
theorem g_sFldK (O : Own B cs H) (j : Nat) (h : cs[j]? = some (a, .ins C dx fs)) (cl : Cls K C) (na : NoAttr K C f) (hl : fs.length < 1000) (k : ∀ H', Own B (cs.set j (a, .ins C dx (putF f v fs))) H' → D.nx σ H') : sFldK K v f D σ (.ref a) H :=
  ⟨a, C, dx, fs, rfl, O.get j h, cl, na, hl, k _ (O.set j h)⟩
def makeK (C : Addr) (sp : Sp) (dvs : List V) (E : XK) (Q : VK) (vs : List V) (H1 : Hp) : Prop := ∀ x dx, H1 x = none → H1 dx = none → dx ≠ x → sp (.ref x :: (vs ++ dvs)) (upd (upd H1 dx (.own x)) x (.ins C dx [])) (fun v H2 => v = .non ∧ Q (.ref x) H2) E
theorem g_make {sp : Sp} {dvs : List V} {E : XK} (k : as σ H (makeK C sp dvs E Q)) : tMake C sp dvs E as σ H Q := k
theorem g_makeK {sp : Sp} {dvs vs : List V} {E : XK} (O : Own B cs H) (k : ∀ x dx H', H x = none → Own B ((x, .ins C dx []) :: cs) H' → sp (.ref x :: (vs ++ dvs)) H' (fun v H2 => v = .non ∧ Q (.ref x) H2) E) : makeK C sp dvs E Q vs H := by
  intro x dx hx hdx hne
  have O1 : Own B ((dx, .own x) :: cs) (upd H dx (.own x)) := O.alloc hdx
  have hx1 : (upd H dx (.own x)) x = none := by rw [upd_ne hne.symm]; exact hx
  have O2 : Own B ((x, .ins C dx []) :: (dx, .own x) :: cs) (upd (upd H dx (.own x)) x (.ins C dx [])) := O1.alloc hx1
  exact k x dx _ hx (O2.sub ((List.sublist_cons_self _ _).cons_cons _))
theorem g_eqNon {n : Int} (k : Q (.bl false) H) : rEqU K .non (.int n) H Q := .inl ⟨rfl, k⟩
/-- a call that changes one cell, and makes tuples -/
theorem Own.mutT {H' : Hp} {o o' : HO} (O : Own B cs H) (j : Nat) (h : cs[j]? = some (a, o)) (e : ∀ b u, b ≠ a → H b = some u → H' b = some u) (ha : H' a = some o') (nt : ∀ c ∈ cs.set j (a, o'), ∀ xs, c.2 ≠ .tup xs) :
    ∃ B', Same B B' ∧ Own B' (cs.set j (a, o')) H' ∧ Tup H' B' := by
  have O' := O.mut j h e ha
  exact ⟨tupsOf H' B, tupsOf_same O'.fr, O'.tups nt, tupsOf_tup⟩
/-- a call that makes tuples -/
theorem Own.exT {H' : Hp} (O : Own B cs H) (e : Same H H') (nt : ∀ c ∈ cs, ∀ xs, c.2 ≠ .tup xs) : ∃ B', Same B B' ∧ Own B' cs H' ∧ Tup H' B' := by
  have O' := O.ex e
  exact ⟨tupsOf H' B, tupsOf_same O'.fr, O'.tups nt, tupsOf_tup⟩
end
theorem canLay_ints : ∀ ns : List Int, PyData.canLayAll0 (ns.map PyData.int) = true
  | [] => rfl
  | n :: ns => by
    show (PyData.canLay0 (.int n) && PyData.canLayAll0 (ns.map PyData.int)) = true
    rw [canLay_ints ns]
    rfl
theorem depth_ints : ∀ ns : List Int, PyData.depthAll (ns.map PyData.int) ≤ 1
  | [] => by simp [PyData.depthAll]
  | n :: ns => by
    have h := depth_ints ns
    simp only [List.map_cons, PyData.depthAll, PyData.depth]
    omega
theorem shaped_ints (ns : List Int) : SeqAt.shaped (.list (ns.map PyData.int)) = true := by
  have h := depth_ints ns
  have h2 := canLay_ints ns
  show (PyData.canLay0 (.list (ns.map PyData.int)) && decide (PyData.depth (.list (ns.map PyData.int)) ≤ 64)) = true
  rw [show PyData.canLay0 (.list (ns.map PyData.int)) = true from by simp only [PyData.canLay0]; exact h2, Bool.true_and]
  refine decide_eq_true ?_
  simp only [PyData.depth]
  omega
theorem lay_ints (ns : List Int) : PyData.canLay0 (.list (ns.map PyData.int)) = true := by simp only [PyData.canLay0]; exact canLay_ints ns
theorem eqv_ints (ns : List Int) : PyData.eqv (.list (ns.map PyData.int)) (.list (ns.map PyData.int)) = true := by
  rw [SeqAt.eqv_refl]
  exact lay_ints ns
theorem cut_take {xs : List V} {n : Int} (h : 0 ≤ n) : cutV xs none (some n) = xs.take n.toNat := by
  unfold cutV
  have e : ((n.toNat : Nat) : Int) = n := Int.toNat_of_nonneg h
  rw [← e, HT.sIx_nat, HT.sIx_none, List.drop_zero, Nat.sub_zero, Int.toNat_natCast]
  by_cases hl : n.toNat ≤ xs.length
  · rw [Nat.min_eq_left hl]
  · rw [Nat.min_eq_right (by omega), List.take_of_length_le (Nat.le_refl _), List.take_of_length_le (by omega)]
theorem cut_drop {xs : List V} {n : Int} (h : 0 ≤ n) : cutV xs (some n) none = xs.drop n.toNat := by
  unfold cutV
  have e : ((n.toNat : Nat) : Int) = n := Int.toNat_of_nonneg h
  rw [← e, HT.sIx_nat, HT.sIx_none, Int.toNat_natCast]
  by_cases hl : n.toNat ≤ xs.length
  · rw [Nat.min_eq_left hl, List.take_of_length_le (by rw [List.length_drop]; exact Nat.le_refl _)]
  · rw [Nat.min_eq_right (by omega), List.drop_length, List.drop_of_length_le (by omega)] <;> simp
/-! ### isinstance -/
def tyName : PyData → String
  | .none => "NoneType"
  | .bool _ => "bool"
  | .int _ => "int"
  | .str _ => "str"
  | .list _ => "list"
  | .tuple _ => "tuple"
  | .dict _ => "dict"
theorem tyx_dp {K : PySem.W.Frag} {H : Hp} {x : V} {d : PyData} (h : Dp K H x d) : TyX K H x (.type (tyName d)) := by
  cases h with
  | non => exact .base .non
  | bl b => exact .base (.bl b)
  | int i => exact .base (.int i)
  | str s => exact .base (.str s)
  | lst h _ =>
    rcases h with (h | ⟨o, h⟩) | ⟨o, its, n, h, hc, _⟩
    · exact .base (.lst h)
    · exact .base (.frz h)
    · exact .kList h hc
  | tup h _ =>
    rcases h with (h | ⟨o, h⟩) | ⟨o, its, n, h, hc, _⟩
    · exact .base (.tup h)
    · exact .fTuple h
    · exact .kTuple h hc
theorem g_isi {K : PySem.W.Frag} {H : Hp} {x : V} {d : PyData} {T : String} {Q : VK} {b : Bool} (h : Dp K H x d) (hb : kitB (tyName d) T = some b) (k : Q (.bl b) H) : rIsiU K [x, .ty T] H Q :=
  .inl ⟨x, .ty T, .type (tyName d), .type T, b, rfl, .ty T, tyx_dp h, kit_ty hb, k⟩
theorem g_isi2 {K : PySem.W.Frag} {H : Hp} {x : V} {d : PyData} {T U : String} {t : Addr} {Q : VK} {b c : Bool} (ht : H t = some (.tup [.ty T, .ty U])) (h : Dp K H x d) (hb : kitB (tyName d) T = some b) (hc : kitB (tyName d) U = some c) (k : Q (.bl (b || c)) H) : rIsiU K [x, .ref t] H Q := by
  refine .inr ⟨x, t, [.ty T, .ty U], .type (tyName d), [.type T, .type U], b || c, rfl, ht, .cons (.ty T) (.cons (.ty U) .nil), tyx_dp h, ?_, k⟩
  refine kitAny_cons (kit_ty hb) (fun e => ?_) (fun e => by rw [e] <;> rfl)
  refine kitAny_cons (kit_ty hc) (fun e2 => ?_) (fun e2 => by rw [e2, e] <;> rfl)
  rw [e, e2]
  exact kitAny_nil
/-- nothing is promised -/
theorem fn_none {P : Program} {w : World} {K : PySem.W.Frag} {mg : Str → Option Value} {base : Heap} {CX : CXT} {k : Nat} {f : Addr} {fd : FuncData} {ps : List Str} {sp : Sp} (h : ∀ vs H Q E, ¬ sp vs H Q E) : FnOk P w K mg base CX k f fd ps sp :=
  ⟨fun vs H Q E q => absurd q (h vs H Q E), fun _ _ _ H _ _ vs Q E _ _ _ _ q => absurd q (h vs H Q E)⟩
/-- not deeper than -/
inductive Dl : Nat → PyData → Prop
  | non {n : Nat} : Dl (n + 1) .none
  | bl {n : Nat} {b : Bool} : Dl (n + 1) (.bool b)
  | int {n : Nat} {i : Int} : Dl (n + 1) (.int i)
  | str {n : Nat} {s : Str} : Dl (n + 1) (.str s)
  | lst {n : Nat} {ds : List PyData} : ds.length ≤ 16777216 → (∀ d ∈ ds, Dl n d) → Dl (n + 1) (.list ds)
  | tup {n : Nat} {ds : List PyData} : ds.length ≤ 16777216 → (∀ d ∈ ds, Dl n d) → Dl (n + 1) (.tuple ds)
theorem dl_ints {n : Nat} (ns : List Int) (h : ns.length ≤ 16777216) : Dl (n + 2) (.list (ns.map PyData.int)) := .lst (by rw [List.length_map]; exact h) (fun d hd => by
  obtain ⟨i, _, rfl⟩ := List.mem_map.mp hd
  exact .int)
theorem iff_false_of {p : Prop} (h : ¬ p) : (false = true ↔ p) := ⟨(fun e => nomatch e), fun e => absurd e h⟩
theorem iff_true_of {p : Prop} (h : p) : (true = true ↔ p) := ⟨fun _ => h, fun _ => rfl⟩
/-- the two answers for the five kinds -/
def isK : PyData → String → Bool
  | .bool _, "int" => true
  | d, T => tyName d == T
end Zl

open Zl in
local macro_rules | `(tactic| walk_at "zb") => `(tactic| (first | decide | omega | exact .inr ⟨by decide, by decide⟩ | exact .inl ⟨by decide, by decide⟩ | exact .inl ⟨by omega, by omega⟩ | exact .inr ⟨by omega, by omega⟩ | exact ⟨by omega, by omega⟩ | exact ⟨by decide, by decide, by decide⟩))
open Zl in
local macro_rules | `(tactic| walk_at "z1") => `(tactic| (first
  | with_reducible refine g_seq ?_ | with_reducible refine g_asg ?_ | with_reducible refine g_var rfl ?_ | with_reducible refine g_c ?_ | with_reducible refine g_name ?_
  | with_reducible refine g_op ?_ | with_reducible refine g_addI ?_ | with_reducible refine g_subI ?_ | with_reducible refine g_cons ?_ | with_reducible refine g_nil ?_
  | with_reducible refine g_cb ?_ | with_reducible refine g_call ?_ | with_reducible refine g_intI ?_ | with_reducible refine g_ret ?_ | with_reducible refine g_drop ?_ | with_reducible refine g_ifS ?_
  | with_reducible refine g_test ?_ | with_reducible refine g_B ?_ | with_reducible refine g_bl ?_ | with_reducible refine g_andK ?_ | with_reducible refine g_orK ?_ | with_reducible refine g_notK ?_ | with_reducible refine g_next ?_ | with_reducible refine g_ltI ?_ | with_reducible refine g_leI ?_
  | with_reducible refine g_gtI ?_ | with_reducible refine g_geI ?_ | with_reducible refine g_eqI ?_ | with_reducible refine g_neI ?_ | with_reducible refine g_isN ?_ | with_reducible refine g_notN ?_
  | with_reducible refine g_and ?_ | with_reducible refine g_or ?_ | with_reducible refine g_not ?_ | with_reducible refine g_andV ?_ | with_reducible refine g_orV ?_ | with_reducible refine g_notV ?_
  | with_reducible refine g_if ?_ | with_reducible refine g_min2 ?_ | with_reducible refine g_max2 ?_ | with_reducible refine g_un ?_ | with_reducible refine g_neg ?_
  | with_reducible refine g_tup ?_ | with_reducible refine g_lst ?_ | with_reducible refine g_sl ?_ | with_reducible refine g_nopart ?_ | with_reducible refine g_part ?_ | with_reducible refine g_int ?_
  | with_reducible refine g_bm ?_ | with_reducible refine g_bm0 ?_ | with_reducible refine g_fld ?_ | with_reducible refine g_sFld ?_ | with_reducible refine g_make ?_ | with_reducible refine g_eqNon ?_ | with_reducible refine g_meth ?_ | with_reducible refine g_brk ?_ | with_reducible refine g_cont ?_
  | with_reducible refine g_retN ?_ | with_reducible refine g_aug rfl ?_ | with_reducible refine g_augS ?_ | with_reducible refine g_gsub ?_ | with_reducible refine g_ipadd ?_ | with_reducible refine g_ipsub ?_
  | with_reducible refine g_gcons ?_ | with_reducible refine g_gnil ?_
  | with_reducible refine g_for ?_ | with_reducible refine g_rng1 ?_ | with_reducible refine g_rng2 ?_ | with_reducible refine g_rng3 ?_ | with_reducible refine g_iList ?_ | with_reducible refine g_iTup ?_ | with_reducible refine g_iStr ?_ | with_reducible refine g_iZip ?_ | with_reducible refine g_iEnum ?_
  | with_reducible refine g_lc ?_ | with_reducible refine g_lcT rfl ?_ | with_reducible refine g_yes ?_ | with_reducible refine g_iStrv ?_ | with_reducible refine g_tr ?_ | with_reducible refine g_trB ?_
  | ((with_reducible refine g_rng1v ?_ ?_); · walk_at "zb") | ((with_reducible refine g_rng2v ?_ ?_); · walk_at "zb")
  | ((with_reducible refine g_mulI ?_ ?_); · walk_at "zb") | ((with_reducible refine g_modI ?_ ?_); · walk_at "zb") | ((with_reducible refine g_divI ?_ ?_); · walk_at "zb") | ((with_reducible refine g_powI ?_ ?_); · walk_at "zb")))
local macro_rules | `(tactic| walk_at "z") => `(tactic| (repeat walk_at "z1"))

namespace K10
open PySem PySem.Spec PyProof.Rows L2 Zl

def topS (i : Nat) : Stmt := PySem.Challenge.pw_textwhole_k10_files_keep_a_beginning.main.body.getD i (.Pass ⟨0, 0, 0, 0⟩)
abbrev s__applied : Stmt := (topS 1)
abbrev N__applied : List Str := ["data", "steps", "result", "name", "number"]
abbrev P__applied : List Str := ["data", "steps"]
theorem sc__applied : FnScope N__applied P__applied (defScope s__applied) := ⟨rfl, rfl, rfl, by decide +kernel, rfl, by decide +kernel, by decide +kernel⟩
abbrev s_File___init__ : Stmt := (inClass (topS 2) 0)
abbrev N_File___init__ : List Str := ["self"]
abbrev P_File___init__ : List Str := ["self"]
theorem sc_File___init__ : FnScope N_File___init__ P_File___init__ (defScope s_File___init__) := ⟨rfl, rfl, rfl, by decide +kernel, rfl, by decide +kernel, by decide +kernel⟩
abbrev s_File_write : Stmt := (inClass (topS 2) 1)
abbrev N_File_write : List Str := ["self", "data", "steps", "count", "byte"]
abbrev P_File_write : List Str := ["self", "data", "steps"]
theorem sc_File_write : FnScope N_File_write P_File_write (defScope s_File_write) := ⟨rfl, rfl, rfl, by decide +kernel, rfl, by decide +kernel, by decide +kernel⟩
abbrev s_File_shorten : Stmt := (inClass (topS 2) 2)
abbrev N_File_shorten : List Str := ["self", "size", "steps"]
abbrev P_File_shorten : List Str := ["self", "size", "steps"]
theorem sc_File_shorten : FnScope N_File_shorten P_File_shorten (defScope s_File_shorten) := ⟨rfl, rfl, rfl, by decide +kernel, rfl, by decide +kernel, by decide +kernel⟩
abbrev s_File_flush : Stmt := (inClass (topS 2) 3)
abbrev N_File_flush : List Str := ["self", "steps"]
abbrev P_File_flush : List Str := ["self", "steps"]
theorem sc_File_flush : FnScope N_File_flush P_File_flush (defScope s_File_flush) := ⟨rfl, rfl, rfl, by decide +kernel, rfl, by decide +kernel, by decide +kernel⟩
abbrev s_File_content : Stmt := (inClass (topS 2) 4)
abbrev N_File_content : List Str := ["self"]
abbrev P_File_content : List Str := ["self"]
theorem sc_File_content : FnScope N_File_content P_File_content (defScope s_File_content) := ⟨rfl, rfl, rfl, by decide +kernel, rfl, by decide +kernel, by decide +kernel⟩
abbrev s_File_pending : Stmt := (inClass (topS 2) 5)
abbrev N_File_pending : List Str := ["self"]
abbrev P_File_pending : List Str := ["self"]
theorem sc_File_pending : FnScope N_File_pending P_File_pending (defScope s_File_pending) := ⟨rfl, rfl, rfl, by decide +kernel, rfl, by decide +kernel, by decide +kernel⟩
abbrev s_File_lose : Stmt := (inClass (topS 2) 6)
abbrev N_File_lose : List Str := ["self", "steps"]
abbrev P_File_lose : List Str := ["self", "steps"]
theorem sc_File_lose : FnScope N_File_lose P_File_lose (defScope s_File_lose) := ⟨rfl, rfl, rfl, by decide +kernel, rfl, by decide +kernel, by decide +kernel⟩
abbrev s__law_mix : Stmt := (topS 4)
abbrev N__law_mix : List Str := ["cell", "k", "value"]
abbrev P__law_mix : List Str := ["cell", "k"]
theorem sc__law_mix : FnScope N__law_mix P__law_mix (defScope s__law_mix) := ⟨rfl, rfl, rfl, by decide +kernel, rfl, by decide +kernel, by decide +kernel⟩
abbrev s__law_draws : Stmt := (topS 5)
abbrev N__law_draws : List Str := ["script", "draws", "k", "cell", "place"]
abbrev P__law_draws : List Str := ["script"]
theorem sc__law_draws : FnScope N__law_draws P__law_draws (defScope s__law_draws) := ⟨rfl, rfl, rfl, by decide +kernel, rfl, by decide +kernel, by decide +kernel⟩
abbrev s__law_at : Stmt := (topS 6)
abbrev N__law_at : List Str := ["draws", "index"]
abbrev P__law_at : List Str := ["draws", "index"]
theorem sc__law_at : FnScope N__law_at P__law_at (defScope s__law_at) := ⟨rfl, rfl, rfl, by decide +kernel, rfl, by decide +kernel, by decide +kernel⟩
abbrev s__law_is_integer : Stmt := (topS 7)
abbrev N__law_is_integer : List Str := ["actual"]
abbrev P__law_is_integer : List Str := ["actual"]
theorem sc__law_is_integer : FnScope N__law_is_integer P__law_is_integer (defScope s__law_is_integer) := ⟨rfl, rfl, rfl, by decide +kernel, rfl, by decide +kernel, by decide +kernel⟩
abbrev s__law_same : Stmt := (topS 8)
abbrev N__law_same : List Str := ["actual", "expected", "k"]
abbrev P__law_same : List Str := ["actual", "expected"]
theorem sc__law_same : FnScope N__law_same P__law_same (defScope s__law_same) := ⟨rfl, rfl, rfl, by decide +kernel, rfl, by decide +kernel, by decide +kernel⟩
abbrev s__law_next : Stmt := (topS 9)
abbrev N__law_next : List Str := ["state", "limit"]
abbrev P__law_next : List Str := ["state", "limit"]
theorem sc__law_next : FnScope N__law_next P__law_next (defScope s__law_next) := ⟨rfl, rfl, rfl, by decide +kernel, rfl, by decide +kernel, by decide +kernel⟩
abbrev s__law_after : Stmt := (topS 10)
abbrev N__law_after : List Str := ["data", "steps", "kind", "number"]
abbrev P__law_after : List Str := ["data", "steps"]
theorem sc__law_after : FnScope N__law_after P__law_after (defScope s__law_after) := ⟨rfl, rfl, rfl, by decide +kernel, rfl, by decide +kernel, by decide +kernel⟩
abbrev s__law_deed : Stmt := (topS 11)
abbrev N__law_deed : List Str := ["state", "file", "lasting", "steps", "pick", "limit", "data", "count", "passed", "done", "size", "k", "byte"]
abbrev P__law_deed : List Str := ["state", "file", "lasting", "steps"]
theorem sc__law_deed : FnScope N__law_deed P__law_deed (defScope s__law_deed) := ⟨rfl, rfl, rfl, by decide +kernel, rfl, by decide +kernel, by decide +kernel⟩
abbrev s_law : Stmt := (topS 12)
abbrev N_law : List Str := ["script", "state", "file", "lasting", "steps", "other", "still", "k", "right"]
abbrev P_law : List Str := ["script"]
theorem sc_law : FnScope N_law P_law (defScope s_law) := ⟨rfl, rfl, rfl, by decide +kernel, rfl, by decide +kernel, by decide +kernel⟩
structure Txt (K : PySem.W.Frag) (mg : Str → Option Value) where
  a_File : Addr
  cl_File : Cls K a_File
  g_File : mg "File" = some (.ref a_File)
  n_File__lasting : NoAttr K a_File "_lasting"
  n_File__steps : NoAttr K a_File "_steps"
  a__applied : Addr
  d__applied : FuncData
  F__applied : Fun K "_applied" "_applied" s__applied a__applied d__applied
  b__applied : Binds K d__applied P__applied []
  g__applied : mg "_applied" = some (.ref a__applied)
  a_File___init__ : Addr
  d_File___init__ : FuncData
  F_File___init__ : Fun K "__init__" "File.__init__" s_File___init__ a_File___init__ d_File___init__
  b_File___init__ : Binds K d_File___init__ P_File___init__ []
  M_File : Mk K a_File a_File___init__
  a_File_write : Addr
  d_File_write : FuncData
  F_File_write : Fun K "write" "File.write" s_File_write a_File_write d_File_write
  b_File_write : Binds K d_File_write P_File_write []
  m_File_write : Meth K a_File "write" a_File_write
  a_File_shorten : Addr
  d_File_shorten : FuncData
  F_File_shorten : Fun K "shorten" "File.shorten" s_File_shorten a_File_shorten d_File_shorten
  b_File_shorten : Binds K d_File_shorten P_File_shorten []
  m_File_shorten : Meth K a_File "shorten" a_File_shorten
  a_File_flush : Addr
  d_File_flush : FuncData
  F_File_flush : Fun K "flush" "File.flush" s_File_flush a_File_flush d_File_flush
  b_File_flush : Binds K d_File_flush P_File_flush []
  m_File_flush : Meth K a_File "flush" a_File_flush
  a_File_content : Addr
  d_File_content : FuncData
  F_File_content : Fun K "content" "File.content" s_File_content a_File_content d_File_content
  b_File_content : Binds K d_File_content P_File_content []
  m_File_content : Meth K a_File "content" a_File_content
  a_File_pending : Addr
  d_File_pending : FuncData
  F_File_pending : Fun K "pending" "File.pending" s_File_pending a_File_pending d_File_pending
  b_File_pending : Binds K d_File_pending P_File_pending []
  m_File_pending : Meth K a_File "pending" a_File_pending
  a_File_lose : Addr
  d_File_lose : FuncData
  F_File_lose : Fun K "lose" "File.lose" s_File_lose a_File_lose d_File_lose
  b_File_lose : Binds K d_File_lose P_File_lose []
  m_File_lose : Meth K a_File "lose" a_File_lose
  a__law_mix : Addr
  d__law_mix : FuncData
  F__law_mix : Fun K "_law_mix" "_law_mix" s__law_mix a__law_mix d__law_mix
  b__law_mix : Binds K d__law_mix P__law_mix []
  g__law_mix : mg "_law_mix" = some (.ref a__law_mix)
  a__law_draws : Addr
  d__law_draws : FuncData
  F__law_draws : Fun K "_law_draws" "_law_draws" s__law_draws a__law_draws d__law_draws
  b__law_draws : Binds K d__law_draws P__law_draws []
  g__law_draws : mg "_law_draws" = some (.ref a__law_draws)
  a__law_at : Addr
  d__law_at : FuncData
  F__law_at : Fun K "_law_at" "_law_at" s__law_at a__law_at d__law_at
  b__law_at : Binds K d__law_at P__law_at []
  g__law_at : mg "_law_at" = some (.ref a__law_at)
  a__law_is_integer : Addr
  d__law_is_integer : FuncData
  F__law_is_integer : Fun K "_law_is_integer" "_law_is_integer" s__law_is_integer a__law_is_integer d__law_is_integer
  b__law_is_integer : Binds K d__law_is_integer P__law_is_integer []
  g__law_is_integer : mg "_law_is_integer" = some (.ref a__law_is_integer)
  a__law_same : Addr
  d__law_same : FuncData
  F__law_same : Fun K "_law_same" "_law_same" s__law_same a__law_same d__law_same
  b__law_same : Binds K d__law_same P__law_same []
  g__law_same : mg "_law_same" = some (.ref a__law_same)
  a__law_next : Addr
  d__law_next : FuncData
  F__law_next : Fun K "_law_next" "_law_next" s__law_next a__law_next d__law_next
  b__law_next : Binds K d__law_next P__law_next []
  g__law_next : mg "_law_next" = some (.ref a__law_next)
  a__law_after : Addr
  d__law_after : FuncData
  F__law_after : Fun K "_law_after" "_law_after" s__law_after a__law_after d__law_after
  b__law_after : Binds K d__law_after P__law_after []
  g__law_after : mg "_law_after" = some (.ref a__law_after)
  a__law_deed : Addr
  d__law_deed : FuncData
  F__law_deed : Fun K "_law_deed" "_law_deed" s__law_deed a__law_deed d__law_deed
  b__law_deed : Binds K d__law_deed P__law_deed []
  g__law_deed : mg "_law_deed" = some (.ref a__law_deed)
  a_law : Addr
  d_law : FuncData
  F_law : Fun K "law" "law" s_law a_law d_law
  b_law : Binds K d_law P_law []
  g_law : mg "law" = some (.ref a_law)
  z_len : mg "len" = none
  z_min : mg "min" = none
  z_int : mg "int" = none
  z_list : mg "list" = none
  z_range : mg "range" = none
  z_isinstance : mg "isinstance" = none
  z_bool : mg "bool" = none
  z_str : mg "str" = none
  z_tuple : mg "tuple" = none

section
variable {P : Program} {w : World} {K : PySem.W.Frag} {mg : Str → Option Value} {base : Heap}

/-! ### draws -/

def sp__law_mix : Sp := fun vs H Q _ => ∃ c k : Int, vs = [.int c, .int k] ∧ ∀ n, 0 ≤ n → n < 9973 → Q (.int n) H

theorem ok__law_mix (T : Txt K mg) : FnOk P w K mg base CX0 1 T.a__law_mix T.d__law_mix P__law_mix sp__law_mix := by
  refine T.F__law_mix.ok sc__law_mix (fun vs H Q E h => ?_) (fun cdv A outer s H vs Q E hr h => ?_)
  · obtain ⟨c, k, rfl, _⟩ := h
    rfl
  · obtain ⟨c, k, rfl, q⟩ := h
    refine ⟨_, (pss_cons (ps_set (i := 2) sc__law_mix.nd rfl (Or.inl rfl) (pe_op op_mod (pe_callTy call_intU (by rfl) T.z_int (by decide +kernel) (pa_cons (pe_op op_addU (pe_op op_addU (pe_op op_mulU (pe_callTy call_intU (by rfl) T.z_int (by decide +kernel) (pa_cons (pv 0) pa_nil)) pe_int) (pe_op op_mulU (pv 1) pe_int)) pe_int) pa_nil)) pe_int))
        (pss_cons (ps_set (i := 2) sc__law_mix.nd rfl (Or.inl rfl) (pe_op op_mod (pe_callTy call_intU (by rfl) T.z_int (by decide +kernel) (pa_cons (pe_op op_addU (pe_op op_addU (pe_op op_mulU (pv 2) (pv 2)) (pe_op op_mulU (pv 1) pe_int)) pe_int) pa_nil)) pe_int))
        (pss_one (ps_ret (pe_op op_mod (pe_op op_fdiv (pv 2) pe_int) pe_int))))), ?_⟩
    walk_at "z"
    refine q _ ?_ ?_ <;> omega
def DrawsOk (ds : List Int) : Prop := (∀ d ∈ ds, 0 ≤ d ∧ d < 9973) ∧ ds.length ≤ 3780
def sp__law_draws (K : PySem.W.Frag) : Sp := fun vs H Q _ => ∃ (a : Addr) (ns : List Int), vs = [.ref a] ∧ SqL K H a (ns.map V.int) ∧ ∀ (p : Addr) (H' : Hp) (ds : List Int), Same H H' → H p = none → H' p = some (.lst (ds.map V.int)) → DrawsOk ds → Q (.ref p) H'

theorem ok__law_draws (T : Txt K mg) : FnOk P w K mg base CX0 2 T.a__law_draws T.d__law_draws P__law_draws (sp__law_draws K) := by
  refine T.F__law_draws.ok sc__law_draws (fun vs H Q E h => ?_) (fun cdv A outer s H vs Q E hr h => ?_)
  · obtain ⟨a, ns, rfl, _⟩ := h
    rfl
  · obtain ⟨a, ns, rfl, hS, q⟩ := h
    refine ⟨_, (pss_cons (ps_set (i := 1) sc__law_draws.nd rfl (Or.inl rfl) (pe_lst pa_nil))
        (pss_cons (ps_for PassesOwn.never rfl (pi_range1 (by rfl) T.z_range (pa_cons (pe_callB (call_min2U rfl) (by rfl) T.z_min (by decide +kernel) (pa_cons pe_int (pa_cons (pe_callB call_lenU (by rfl) T.z_len PySem.boot_len (pa_cons (pv 0) pa_nil)) pa_nil))) pa_nil)) (pg_name (i := 2) sc__law_draws.nd rfl (Or.inl rfl))
          (pss_cons (ps_set (i := 3) sc__law_draws.nd rfl (Or.inl rfl) (pe_callTy call_intU (by rfl) T.z_int (by decide +kernel) (pa_cons (pe_ix ix_seq (pv 0) (pv 2) (fun _ _ => rfl)) pa_nil)))
        (pss_one (ps_if (pt_cmpR op_lt (pv 3) (pe_op op_pow pe_int pe_int) (nomark _))
          (pss_one (ps_expr (pe_bm PySem.F.plainAttrs_list PySem.F.slot_list_append PySem.F.type_list_append mt_append (pv 1) (pa_cons (pe_call (ok__law_mix T) (hr.mono (by omega)) (by rfl) T.g__law_mix T.F__law_mix.kp T.b__law_mix .nil pass0 (pa_cons (pv 3) (pa_cons (pv 2) pa_nil))) pa_nil))))
          (pss_one (ps_for PassesOwn.never rfl (pi_range1 (by rfl) T.z_range (pa_cons pe_int pa_nil)) (pg_name (i := 4) sc__law_draws.nd rfl (Or.inl rfl))
          (pss_one (ps_if (pt_cmpR op_gt (pv 3) pe_int (nomark _))
          (pss_cons (ps_expr (pe_bm PySem.F.plainAttrs_list PySem.F.slot_list_append PySem.F.type_list_append mt_append (pv 1) (pa_cons (pe_op op_mod (pe_callTy call_intU (by rfl) T.z_int (by decide +kernel) (pa_cons (pv 3) pa_nil)) pe_int) pa_nil)))
        (pss_one (ps_set (i := 3) sc__law_draws.nd rfl (Or.inl rfl) (pe_op op_fdiv (pv 3) pe_int))))
          pss_nil))))))))
        (pss_one (ps_ret (pv 1))))), ?_⟩
    walk_at "z"
    refine g_new (Nat.zero_le _) (Own.start H) fun p H1 np O => ?_
    walk_at "z"
    refine g_lenL (O.fr.seq hS) ?_
    walk_at "z"
    have hlm : (List.map V.int ns).length = ns.length := List.length_map ..
    refine forB_rng0 (fun i σ H' => ∃ (ds : List Int) (x2 x3 x4 : Option V), σ = [some (.ref a), some (.ref p), x2, x3, x4] ∧ (∀ d ∈ ds, 0 ≤ d ∧ d < 9973) ∧ ds.length ≤ 60 * i ∧ Own H [(p, .lst (ds.map V.int))] H') ?_ ?_ ?_
    · exact ⟨[], none, none, none, rfl, by simp, by simp, O⟩
    · rintro i σ H2 hi ⟨ds, x2, x3, x4, rfl, hd, hl, O⟩
      walk_at "z"
      refine g_ixL (O.fr.seq hS) (atI_int (by omega) (by omega)) ?_
      walk_at "z"
      refine ite_d (fun hc => ?_) (fun hc => ?_)
      · walk_at "z"
        refine g_tyL (O.lst 0) ?_
        walk_at "z"
        refine ⟨_, _, rfl, fun n h0 h1 => ?_⟩
        walk_at "z"
        refine g_append O 0 rfl (small_of (by rw [List.length_map]; omega)) fun H3 O => ?_
        refine ⟨ds ++ [n], _, _, _, rfl, ?_, by rw [List.length_append]; show ds.length + 1 ≤ _; omega, by rw [List.map_append]; exact O⟩
        intro d hm
        rcases List.mem_append.mp hm with hm | hm
        · exact hd d hm
        · rw [List.mem_singleton.mp hm]; exact ⟨h0, h1⟩
      · walk_at "z"
        refine forB_rng0 (fun j σ H' => ∃ (ds : List Int) (c : Int) (x4 : Option V), σ = [some (.ref a), some (.ref p), some (.int (i : Int)), some (.int c), x4] ∧ (∀ d ∈ ds, 0 ≤ d ∧ d < 9973) ∧ ds.length ≤ 60 * i + j ∧ Own H [(p, .lst (ds.map V.int))] H') ?_ ?_ ?_
        · exact ⟨ds, _, x4, rfl, hd, hl, O⟩
        · rintro j σ H3 hj ⟨ds, c, x4, rfl, hd, hl, O⟩
          walk_at "z"
          refine ite_d (fun hc => ?_) (fun hc => ?_)
          · walk_at "z"
            refine g_tyL (O.lst 0) ?_
            walk_at "z"
            refine g_append O 0 rfl (small_of (by rw [List.length_map]; omega)) fun H3 O => ?_
            walk_at "z"
            refine ⟨ds ++ [_], _, _, rfl, ?_, by rw [List.length_append]; show ds.length + 1 ≤ _; omega, by rw [List.map_append]; exact O⟩
            intro d hm
            rcases List.mem_append.mp hm with hm | hm
            · exact hd d hm
            · rw [List.mem_singleton.mp hm]; exact ⟨by omega, by omega⟩
          · exact ⟨ds, c, _, rfl, hd, by omega, O⟩
        · rintro σ H3 ⟨ds, c, x4, rfl, hd, hl, O⟩
          exact ⟨ds, _, _, _, rfl, hd, by omega, O⟩
    · rintro σ H2 ⟨ds, x2, x3, x4, rfl, hd, hl, O⟩
      walk_at "z"
      exact q p H2 ds O.fr np (O.get 0) ⟨hd, by omega⟩
def sp__law_at (K : PySem.W.Frag) : Sp := fun vs H Q _ => ∃ (a : Addr) (ds : List Int) (i : Int), vs = [.ref a, .int i] ∧ SqL K H a (ds.map V.int) ∧ DrawsOk ds ∧ 0 ≤ i ∧ ∀ n, 0 ≤ n → n < 9973 → Q (.int n) H

theorem ok__law_at (T : Txt K mg) : FnOk P w K mg base CX0 2 T.a__law_at T.d__law_at P__law_at (sp__law_at K) := by
  refine T.F__law_at.ok sc__law_at (fun vs H Q E h => ?_) (fun cdv A outer s H vs Q E hr h => ?_)
  · obtain ⟨a, ds, i, rfl, _⟩ := h
    rfl
  · obtain ⟨a, ds, i, rfl, hS, hd, hi, q⟩ := h
    refine ⟨_, (pss_cons (ps_if (pt_cmpR op_lt (pv 1) (pe_callB call_lenU (by rfl) T.z_len PySem.boot_len (pa_cons (pv 0) pa_nil)) (nomark _))
          (pss_one (ps_ret (pe_ix ix_seq (pv 0) (pv 1) (fun _ _ => rfl))))
          pss_nil)
        (pss_cons (ps_if (pt_cmpR (op_eqU (hu64 hr)) (pe_callB call_lenU (by rfl) T.z_len PySem.boot_len (pa_cons (pv 0) pa_nil)) pe_int (nomark _))
          (pss_one (ps_ret (pe_call (ok__law_mix T) (hr.mono (by omega)) (by rfl) T.g__law_mix T.F__law_mix.kp T.b__law_mix .nil pass0 (pa_cons (pv 1) (pa_cons pe_int pa_nil)))))
          pss_nil)
        (pss_one (ps_ret (pe_call (ok__law_mix T) (hr.mono (by omega)) (by rfl) T.g__law_mix T.F__law_mix.kp T.b__law_mix .nil pass0 (pa_cons (pe_op op_addU (pe_ix ix_seq (pv 0) (pe_op op_mod (pe_callTy call_intU (by rfl) T.z_int (by decide +kernel) (pa_cons (pv 1) pa_nil)) (pe_callB call_lenU (by rfl) T.z_len PySem.boot_len (pa_cons (pv 0) pa_nil))) (fun _ _ => rfl)) (pe_op op_mulU (pv 1) pe_int)) (pa_cons (pv 1) pa_nil))))))), ?_⟩
    have hlm : (List.map V.int ds).length = ds.length := List.length_map ..
    have hb : ∀ j : Nat, 0 ≤ ds.getD j 0 ∧ ds.getD j 0 < 9973 := fun j => by
      rw [List.getD_eq_getElem?_getD]
      cases e : ds[j]? with
      | none => exact ⟨by decide, by decide⟩
      | some x => exact hd.1 x (List.mem_of_getElem? e)
    walk_at "z"
    refine g_lenL hS ?_
    walk_at "z"
    refine ite_d (fun hc => ?_) (fun hc => ?_)
    · walk_at "z"
      refine g_ixL hS (atI_int hi (by omega)) ?_
      exact q _ (hb _).1 (hb _).2
    · walk_at "z"
      refine g_lenL hS ?_
      walk_at "z"
      refine ite_d (fun hc2 => ?_) (fun hc2 => ?_)
      · walk_at "z"
        exact ⟨_, _, rfl, q⟩
      · walk_at "z"
        refine g_lenL hS ?_
        walk_at "z"
        have h1 : 0 ≤ i % (((List.map V.int ds).length : Nat) : Int) := Int.emod_nonneg _ (by omega)
        have h2 : i % (((List.map V.int ds).length : Nat) : Int) < (((List.map V.int ds).length : Nat) : Int) := Int.emod_lt_of_pos _ (by omega)
        refine g_ixL hS (atI_int h1 (by omega)) ?_
        walk_at "z"
        exact ⟨_, _, rfl, q⟩
def isInt : PyData → Bool
  | .int _ => true
  | _ => false
def sp__law_is_integer (K : PySem.W.Frag) : Sp := fun vs H Q _ => ∃ (x : V) (d : PyData), vs = [x] ∧ Dp K H x d ∧ Q (.bl (isInt d)) H

theorem ok__law_is_integer (T : Txt K mg) : FnOk P w K mg base CX0 1 T.a__law_is_integer T.d__law_is_integer P__law_is_integer (sp__law_is_integer K) := by
  refine T.F__law_is_integer.ok sc__law_is_integer (fun vs H Q E h => ?_) (fun cdv A outer s H vs Q E hr h => ?_)
  · obtain ⟨x, d, rfl, _⟩ := h
    rfl
  · obtain ⟨x, d, rfl, hx, q⟩ := h
    refine ⟨_, (pss_one (ps_ret (pe_and (pe_callB call_isiU (by rfl) T.z_isinstance (by decide +kernel) (pa_cons (pv 0) (pa_cons (pe_bltn (v := .ty "int") (by rfl) T.z_int (by decide +kernel) rfl) pa_nil))) (pe_one (pe_not (pe_callB call_isiU (by rfl) T.z_isinstance (by decide +kernel) (pa_cons (pv 0) (pa_cons (pe_bltn (v := .ty "bool") (by rfl) T.z_bool (by decide +kernel) rfl) pa_nil)))))))), ?_⟩
    walk_at "z"
    cases hx with
    | non => exact g_isi (b := false) .non rfl (by walk_at "z"; exact q)
    | bl b => exact g_isi (b := true) (.bl b) rfl (by walk_at "z"; exact iteT (by walk_at "z"; exact g_isi (b := true) (.bl b) rfl (by walk_at "z"; exact q)))
    | int i => exact g_isi (b := true) (.int i) rfl (by walk_at "z"; exact iteT (by walk_at "z"; exact g_isi (b := false) (.int i) rfl (by walk_at "z"; exact q)))
    | str s => exact g_isi (b := false) (.str s) rfl (by walk_at "z"; exact q)
    | lst h1 h2 => exact g_isi (b := false) (.lst h1 h2) rfl (by walk_at "z"; exact q)
    | tup h1 h2 => exact g_isi (b := false) (.tup h1 h2) rfl (by walk_at "z"; exact q)
def sp__law_same (n : Nat) (K : PySem.W.Frag) : Sp := fun vs H Q _ => ∃ (x y : V) (d e : PyData), vs = [x, y] ∧ Dp K H x d ∧ Dp K H y e ∧ Dl n e ∧ ∀ b H', (b = true ↔ d = e) → Same H H' → Q (.bl b) H'

theorem step__law_same (T : Txt K mg) (n : Nat) (ih : FnOk P w K mg base CX0 (n + 1) T.a__law_same T.d__law_same P__law_same (sp__law_same n K)) : FnOk P w K mg base CX0 (n + 2) T.a__law_same T.d__law_same P__law_same (sp__law_same (n + 1) K) := by
  refine T.F__law_same.ok sc__law_same (fun vs H Q E h => ?_) (fun cdv A outer s H vs Q E hr h => ?_)
  · obtain ⟨x, y, d, e, rfl, _⟩ := h
    rfl
  · obtain ⟨x, y, d, e, rfl, hx, hy, he, q⟩ := h
    refine ⟨_, (pss_cons (ps_if (pt_val (pe_callB call_isiU (by rfl) T.z_isinstance (by decide +kernel) (pa_cons (pv 1) (pa_cons (pe_tup (pa_cons (pe_bltn (v := .ty "list") (by rfl) T.z_list (by decide +kernel) rfl) (pa_cons (pe_bltn (v := .ty "tuple") (by rfl) T.z_tuple (by decide +kernel) rfl) pa_nil))) pa_nil))))
          (pss_cons (ps_if (PW.pt (pw_or (pt_cmpR (op_neU (hu64 hr)) (pe_callB call_isiU (by rfl) T.z_isinstance (by decide +kernel) (pa_cons (pv 1) (pa_cons (pe_bltn (v := .ty "list") (by rfl) T.z_list (by decide +kernel) rfl) pa_nil))) (pe_callB call_isiU (by rfl) T.z_isinstance (by decide +kernel) (pa_cons (pv 0) (pa_cons (pe_bltn (v := .ty "list") (by rfl) T.z_list (by decide +kernel) rfl) pa_nil))) (nomark _)) (pw_or1 (pt_cmpR (op_neU (hu64 hr)) (pe_callB call_isiU (by rfl) T.z_isinstance (by decide +kernel) (pa_cons (pv 1) (pa_cons (pe_bltn (v := .ty "tuple") (by rfl) T.z_tuple (by decide +kernel) rfl) pa_nil))) (pe_callB call_isiU (by rfl) T.z_isinstance (by decide +kernel) (pa_cons (pv 0) (pa_cons (pe_bltn (v := .ty "tuple") (by rfl) T.z_tuple (by decide +kernel) rfl) pa_nil))) (nomark _)))))
          (pss_one (ps_ret pe_bl))
          pss_nil)
        (pss_cons (ps_if (pt_cmpR (op_neU (hu64 hr)) (pe_callB call_lenU (by rfl) T.z_len PySem.boot_len (pa_cons (pv 0) pa_nil)) (pe_callB call_lenU (by rfl) T.z_len PySem.boot_len (pa_cons (pv 1) pa_nil)) (nomark _))
          (pss_one (ps_ret pe_bl))
          pss_nil)
        (pss_cons (ps_for PassesOwn.never rfl (pi_range1 (by rfl) T.z_range (pa_cons (pe_callB call_lenU (by rfl) T.z_len PySem.boot_len (pa_cons (pv 1) pa_nil)) pa_nil)) (pg_name (i := 2) sc__law_same.nd rfl (Or.inl rfl))
          (pss_one (ps_if (pt_not (pt_val (pe_call ih (hr.mono (by omega)) (by rfl) T.g__law_same T.F__law_same.kp T.b__law_same .nil pass0 (pa_cons (pe_ix ix_seq (pv 0) (pv 2) (fun _ _ => rfl)) (pa_cons (pe_ix ix_seq (pv 1) (pv 2) (fun _ _ => rfl)) pa_nil)))))
          (pss_one (ps_ret pe_bl))
          pss_nil)))
        (pss_one (ps_ret pe_bl)))))
          pss_nil)
        (pss_cons (ps_if (pt_cmpR op_isNU (pv 1) pe_non (nomark _))
          (pss_one (ps_ret (pe_cmpR op_isNU (pv 0) pe_non (nomark _))))
          pss_nil)
        (pss_cons (ps_if (pt_val (pe_callB call_isiU (by rfl) T.z_isinstance (by decide +kernel) (pa_cons (pv 1) (pa_cons (pe_bltn (v := .ty "bool") (by rfl) T.z_bool (by decide +kernel) rfl) pa_nil))))
          (pss_one (ps_ret (pe_and (pe_callB call_isiU (by rfl) T.z_isinstance (by decide +kernel) (pa_cons (pv 0) (pa_cons (pe_bltn (v := .ty "bool") (by rfl) T.z_bool (by decide +kernel) rfl) pa_nil))) (pe_one (pe_cmpR (op_eqU (hu64 hr)) (pv 0) (pv 1) (nomark _))))))
          pss_nil)
        (pss_cons (ps_if (pt_val (pe_callB call_isiU (by rfl) T.z_isinstance (by decide +kernel) (pa_cons (pv 1) (pa_cons (pe_bltn (v := .ty "int") (by rfl) T.z_int (by decide +kernel) rfl) pa_nil))))
          (pss_one (ps_ret (pe_and (pe_call (ok__law_is_integer T) (hr.mono (by omega)) (by rfl) T.g__law_is_integer T.F__law_is_integer.kp T.b__law_is_integer .nil pass0 (pa_cons (pv 0) pa_nil)) (pe_one (pe_cmpR (op_eqU (hu64 hr)) (pv 0) (pv 1) (nomark _))))))
          pss_nil)
        (pss_one (ps_ret (pe_and (pe_callB call_isiU (by rfl) T.z_isinstance (by decide +kernel) (pa_cons (pv 0) (pa_cons (pe_bltn (v := .ty "str") (by rfl) T.z_str (by decide +kernel) rfl) pa_nil))) (pe_one (pe_cmpR (op_eqU (hu64 hr)) (pv 0) (pv 1) (nomark _)))))))))), ?_⟩
    walk_at "z"
    refine g_new (by decide) (Own.start H) fun t H1 nt O => ?_
    walk_at "z"
    have q : ∀ b H', (b = true ↔ d = e) → Same H1 H' → Q (.bl b) H' := fun b H' hb e => q b H' hb (O.fr.trans e)
    have hx := dp_ex O.fr hx
    have hy := dp_ex O.fr hy
    cases hy with
    | non =>
      refine g_isi2 (O.get 0) .non rfl rfl ?_
      walk_at "z"
      refine iteF ?_
      walk_at "z"
      refine ite_d (fun _ => ?_) (fun h => absurd rfl h)
      walk_at "z"
      refine q _ _ ?_ (Same.refl _)
      cases hx <;> simp
    | bl b =>
      refine g_isi2 (O.get 0) (.bl b) rfl rfl ?_
      walk_at "z"
      refine iteF ?_
      walk_at "z"
      refine ite_d (fun h => nomatch h) (fun _ => ?_)
      walk_at "z"
      refine g_isi (.bl b) rfl ?_
      walk_at "z"
      refine iteT ?_
      walk_at "z"
      cases hx with
      | bl b' =>
        refine g_isi (.bl b') rfl ?_
        walk_at "z"
        refine iteT ?_
        walk_at "z"
        refine g_eqB (q _ _ ?_ (Same.refl _))
        simp
      | non => exact g_isi (b := false) .non rfl (by walk_at "z"; exact iteF (q _ _ (by simp) (Same.refl _)))
      | int i => exact g_isi (b := false) (.int i) rfl (by walk_at "z"; exact iteF (q _ _ (by simp) (Same.refl _)))
      | str s => exact g_isi (b := false) (.str s) rfl (by walk_at "z"; exact iteF (q _ _ (by simp) (Same.refl _)))
      | lst h1 h2 => exact g_isi (b := false) (.lst h1 h2) rfl (by walk_at "z"; exact iteF (q _ _ (by simp) (Same.refl _)))
      | tup h1 h2 => exact g_isi (b := false) (.tup h1 h2) rfl (by walk_at "z"; exact iteF (q _ _ (by simp) (Same.refl _)))
    | int b =>
      refine g_isi2 (O.get 0) (.int b) rfl rfl ?_
      walk_at "z"
      refine iteF ?_
      walk_at "z"
      refine ite_d (fun h => nomatch h) (fun _ => ?_)
      walk_at "z"
      refine g_isi (.int b) rfl ?_
      walk_at "z"
      refine iteF ?_
      walk_at "z"
      refine g_isi (.int b) rfl ?_
      walk_at "z"
      refine iteT ?_
      walk_at "z"
      refine ⟨_, _, rfl, hx, ?_⟩
      walk_at "z"
      cases hx with
      | int i =>
        refine iteT ?_
        walk_at "z"
        refine q _ _ ?_ (Same.refl _)
        simp
      | non => exact iteF (q _ _ (by simp) (Same.refl _))
      | bl i => exact iteF (q _ _ (by simp) (Same.refl _))
      | str s => exact iteF (q _ _ (by simp) (Same.refl _))
      | lst h1 h2 => exact iteF (q _ _ (by simp) (Same.refl _))
      | tup h1 h2 => exact iteF (q _ _ (by simp) (Same.refl _))
    | str b =>
      refine g_isi2 (O.get 0) (.str b) rfl rfl ?_
      walk_at "z"
      refine iteF ?_
      walk_at "z"
      refine ite_d (fun h => nomatch h) (fun _ => ?_)
      walk_at "z"
      refine g_isi (.str b) rfl ?_
      walk_at "z"
      refine iteF ?_
      walk_at "z"
      refine g_isi (.str b) rfl ?_
      walk_at "z"
      refine iteF ?_
      walk_at "z"
      cases hx with
      | str b' =>
        refine g_isi (.str b') rfl ?_
        walk_at "z"
        refine iteT ?_
        walk_at "z"
        refine g_eqS (q _ _ ?_ (Same.refl _))
        simp
      | non => exact g_isi (b := false) .non rfl (by walk_at "z"; exact iteF (q _ _ (by simp) (Same.refl _)))
      | int i => exact g_isi (b := false) (.int i) rfl (by walk_at "z"; exact iteF (q _ _ (by simp) (Same.refl _)))
      | bl s => exact g_isi (b := false) (.bl s) rfl (by walk_at "z"; exact iteF (q _ _ (by simp) (Same.refl _)))
      | lst h1 h2 => exact g_isi (b := false) (.lst h1 h2) rfl (by walk_at "z"; exact iteF (q _ _ (by simp) (Same.refl _)))
      | tup h1 h2 => exact g_isi (b := false) (.tup h1 h2) rfl (by walk_at "z"; exact iteF (q _ _ (by simp) (Same.refl _)))
    | @lst b ys es hS hA =>
      cases he with
      | lst hz he =>
      refine g_isi2 (O.get 0) (.lst hS hA) rfl rfl ?_
      walk_at "z"
      refine iteT ?_
      walk_at "z"
      refine g_isi (.lst hS hA) rfl ?_
      walk_at "z"
      cases hx with
      | non => exact g_isi (b := false) .non rfl (g_neB (by walk_at "z"; exact iteT (by walk_at "z"; exact iteT (by walk_at "z"; exact q _ _ (by simp) (Same.refl _)))))
      | bl i => exact g_isi (b := false) (.bl i) rfl (g_neB (by walk_at "z"; exact iteT (by walk_at "z"; exact iteT (by walk_at "z"; exact q _ _ (by simp) (Same.refl _)))))
      | int i => exact g_isi (b := false) (.int i) rfl (g_neB (by walk_at "z"; exact iteT (by walk_at "z"; exact iteT (by walk_at "z"; exact q _ _ (by simp) (Same.refl _)))))
      | str i => exact g_isi (b := false) (.str i) rfl (g_neB (by walk_at "z"; exact iteT (by walk_at "z"; exact iteT (by walk_at "z"; exact q _ _ (by simp) (Same.refl _)))))
      | tup h1 h2 => exact g_isi (b := false) (.tup h1 h2) rfl (g_neB (by walk_at "z"; exact iteT (by walk_at "z"; exact iteT (by walk_at "z"; exact q _ _ (by simp) (Same.refl _)))))
      | @lst a xs ds h1 h2 =>
        refine g_isi (.lst h1 h2) rfl (g_neB ?_)
        walk_at "z"
        refine iteF ?_
        walk_at "z"
        refine g_isi (.lst hS hA) rfl ?_
        walk_at "z"
        refine g_isi (.lst h1 h2) rfl (g_neB ?_)
        walk_at "z"
        refine iteF ?_
        walk_at "z"
        refine g_lenL h1 ?_
        walk_at "z"
        refine g_lenL hS ?_
        walk_at "z"
        have l1 := dps_len h2
        have l2 := dps_len hA
        refine ite_nd (fun hne => ?_) (fun hlen => ?_)
        · walk_at "z"
          refine q _ _ (iff_false_of fun e => hne ?_) (Same.refl _)
          injection e with e
          rw [l1, l2, e]
        · walk_at "z"
          refine g_lenL hS ?_
          refine g_rng1v ⟨by omega, by omega⟩ ?_
          refine forB_rng0 (fun i σ H' => ∃ x2, σ = [some (.ref a), some (.ref b), x2] ∧ Same H1 H' ∧ ∀ j, j < i → ds[j]? = es[j]?) ?_ ?_ ?_
          · exact ⟨_, rfl, Same.refl _, fun j hj => absurd hj (Nat.not_lt_zero j)⟩
          · rintro i σ H2 hi ⟨x2, rfl, eH, hj⟩
            walk_at "z"
            have hi1 : i < xs.length := by omega
            have hi2 : i < ys.length := by omega
            refine g_ixL (eH.seq h1) (atI_nat (List.getElem?_eq_getElem hi1)) ?_
            walk_at "z"
            refine g_ixL (eH.seq hS) (atI_nat (List.getElem?_eq_getElem hi2)) ?_
            walk_at "z"
            obtain ⟨d, ed, hd⟩ := dps_get h2 (List.getElem?_eq_getElem hi1)
            obtain ⟨e, ee, hee⟩ := dps_get hA (List.getElem?_eq_getElem hi2)
            refine ⟨_, _, d, e, rfl, dp_ex eH hd, dp_ex eH hee, he e (List.mem_of_getElem? ee), fun c H3 hc e3 => ?_⟩
            walk_at "z"
            refine ite_nb (fun hcb => ?_) (fun hcb => ?_)
            · walk_at "z"
              refine q _ _ (iff_false_of fun e' => ?_) (eH.trans e3)
              injection e' with e'
              rw [e', ee] at ed
              rw [hcb] at hc
              exact absurd (hc.mpr (Option.some.inj ed).symm) (by simp)
            · walk_at "z"
              refine ⟨_, rfl, eH.trans e3, fun j hji => ?_⟩
              by_cases hjj : j < i
              · exact hj j hjj
              · have : j = i := by omega
                subst this
                rw [ed, ee, hc.mp hcb]
          · rintro σ H2 ⟨x2, rfl, eH, hj⟩
            walk_at "z"
            refine q _ _ (iff_true_of ?_) eH
            congr 1
            apply List.ext_getElem?
            intro j
            by_cases hjl : j < ys.length
            · exact hj j (by omega)
            · rw [List.getElem?_eq_none (by omega), List.getElem?_eq_none (by omega)]
    | @tup b ys es hS hA =>
      cases he with
      | tup hz he =>
      refine g_isi2 (O.get 0) (.tup hS hA) rfl rfl ?_
      walk_at "z"
      refine iteT ?_
      walk_at "z"
      refine g_isi (.tup hS hA) rfl ?_
      walk_at "z"
      cases hx with
      | non => exact g_isi (b := false) .non rfl (g_neB (by walk_at "z"; exact iteF (by walk_at "z"; exact g_isi (.tup hS hA) rfl (by walk_at "z"; exact g_isi (b := false) .non rfl (g_neB (by walk_at "z"; exact iteT (by walk_at "z"; exact q _ _ (by simp) (Same.refl _))))))))
      | bl i => exact g_isi (b := false) (.bl i) rfl (g_neB (by walk_at "z"; exact iteF (by walk_at "z"; exact g_isi (.tup hS hA) rfl (by walk_at "z"; exact g_isi (b := false) (.bl i) rfl (g_neB (by walk_at "z"; exact iteT (by walk_at "z"; exact q _ _ (by simp) (Same.refl _))))))))
      | int i => exact g_isi (b := false) (.int i) rfl (g_neB (by walk_at "z"; exact iteF (by walk_at "z"; exact g_isi (.tup hS hA) rfl (by walk_at "z"; exact g_isi (b := false) (.int i) rfl (g_neB (by walk_at "z"; exact iteT (by walk_at "z"; exact q _ _ (by simp) (Same.refl _))))))))
      | str i => exact g_isi (b := false) (.str i) rfl (g_neB (by walk_at "z"; exact iteF (by walk_at "z"; exact g_isi (.tup hS hA) rfl (by walk_at "z"; exact g_isi (b := false) (.str i) rfl (g_neB (by walk_at "z"; exact iteT (by walk_at "z"; exact q _ _ (by simp) (Same.refl _))))))))
      | lst h1 h2 => exact g_isi (b := true) (.lst h1 h2) rfl (g_neB (by walk_at "z"; exact iteT (by walk_at "z"; exact iteT (by walk_at "z"; exact q _ _ (by simp) (Same.refl _)))))
      | @tup a xs ds h1 h2 =>
        refine g_isi (.tup h1 h2) rfl (g_neB ?_)
        walk_at "z"
        refine iteF ?_
        walk_at "z"
        refine g_isi (.tup hS hA) rfl ?_
        walk_at "z"
        refine g_isi (.tup h1 h2) rfl (g_neB ?_)
        walk_at "z"
        refine iteF ?_
        walk_at "z"
        refine g_lenT h1 ?_
        walk_at "z"
        refine g_lenT hS ?_
        walk_at "z"
        have l1 := dps_len h2
        have l2 := dps_len hA
        refine ite_nd (fun hne => ?_) (fun hlen => ?_)
        · walk_at "z"
          refine q _ _ (iff_false_of fun e => hne ?_) (Same.refl _)
          injection e with e
          rw [l1, l2, e]
        · walk_at "z"
          refine g_lenT hS ?_
          refine g_rng1v ⟨by omega, by omega⟩ ?_
          refine forB_rng0 (fun i σ H' => ∃ x2, σ = [some (.ref a), some (.ref b), x2] ∧ Same H1 H' ∧ ∀ j, j < i → ds[j]? = es[j]?) ?_ ?_ ?_
          · exact ⟨_, rfl, Same.refl _, fun j hj => absurd hj (Nat.not_lt_zero j)⟩
          · rintro i σ H2 hi ⟨x2, rfl, eH, hj⟩
            walk_at "z"
            have hi1 : i < xs.length := by omega
            have hi2 : i < ys.length := by omega
            refine g_ixT (sq_t eH h1) (atI_nat (List.getElem?_eq_getElem hi1)) ?_
            walk_at "z"
            refine g_ixT (sq_t eH hS) (atI_nat (List.getElem?_eq_getElem hi2)) ?_
            walk_at "z"
            obtain ⟨d, ed, hd⟩ := dps_get h2 (List.getElem?_eq_getElem hi1)
            obtain ⟨e, ee, hee⟩ := dps_get hA (List.getElem?_eq_getElem hi2)
            refine ⟨_, _, d, e, rfl, dp_ex eH hd, dp_ex eH hee, he e (List.mem_of_getElem? ee), fun c H3 hc e3 => ?_⟩
            walk_at "z"
            refine ite_nb (fun hcb => ?_) (fun hcb => ?_)
            · walk_at "z"
              refine q _ _ (iff_false_of fun e' => ?_) (eH.trans e3)
              injection e' with e'
              rw [e', ee] at ed
              rw [hcb] at hc
              exact absurd (hc.mpr (Option.some.inj ed).symm) (by simp)
            · walk_at "z"
              refine ⟨_, rfl, eH.trans e3, fun j hji => ?_⟩
              by_cases hjj : j < i
              · exact hj j hjj
              · have : j = i := by omega
                subst this
                rw [ed, ee, hc.mp hcb]
          · rintro σ H2 ⟨x2, rfl, eH, hj⟩
            walk_at "z"
            refine q _ _ (iff_true_of ?_) eH
            congr 1
            apply List.ext_getElem?
            intro j
            by_cases hjl : j < ys.length
            · exact hj j (by omega)
            · rw [List.getElem?_eq_none (by omega), List.getElem?_eq_none (by omega)]
theorem ok__law_same_n (T : Txt K mg) : ∀ n : Nat, FnOk P w K mg base CX0 (n + 1) T.a__law_same T.d__law_same P__law_same (sp__law_same n K)
  | 0 => fn_none fun vs H Q E h => by
    obtain ⟨x, y, d, e, _, _, _, he, _⟩ := h
    cases he
  | n + 1 => step__law_same T n (ok__law_same_n T n)
theorem ok__law_same (T : Txt K mg) : FnOk P w K mg base CX0 13 T.a__law_same T.d__law_same P__law_same (sp__law_same 12 K) := ok__law_same_n T 12


/-! ### the next draw of a state [draws, index] -/
def sp__law_next (K : PySem.W.Frag) : Sp := fun vs H Q _ => ∃ (s d : Addr) (i lim : Int) (ds : List Int), vs = [.ref s, .int lim] ∧ 0 < lim ∧ H s = some (.lst [.ref d, .int i]) ∧ 0 ≤ i ∧ d ≠ s ∧ SqL K H d (ds.map V.int) ∧ DrawsOk ds ∧
  ∀ n H', 0 ≤ n → n < lim → (∀ b u, b ≠ s → H b = some u → H' b = some u) → H' s = some (.lst [.ref d, .int (i + 1)]) → Q (.int n) H'

theorem ok__law_next (T : Txt K mg) : FnOk P w K mg base CX0 3 T.a__law_next T.d__law_next P__law_next (sp__law_next K) := by
  refine T.F__law_next.ok sc__law_next (fun vs H Q E h => ?_) (fun cdv A outer s H vs Q E hr h => ?_)
  · obtain ⟨s, d, i, lim, ds, rfl, _⟩ := h
    rfl
  · obtain ⟨s, d, i, lim, ds, rfl, hlim, hs, hi, hne, hS, hd, q⟩ := h
    refine ⟨_, (pss_cons (ps_augS (pv 0) pe_int get_list pe_int ip_add set_list)
        (pss_one (ps_ret (pe_op op_mod (pe_call (ok__law_at T) (hr.mono (by omega)) (by rfl) T.g__law_at T.F__law_at.kp T.b__law_at .nil pass0 (pa_cons (pe_ix ix_seq (pv 0) pe_int (fun _ _ => rfl)) (pa_cons (pe_ix ix_seq (pv 0) pe_int (fun _ _ => rfl)) pa_nil))) (pv 1))))), ?_⟩
    have O := Own.arg1 hs
    have hS := sq_dels (as := [s]) (fun h => hne (List.mem_singleton.mp h)) hS
    walk_at "z"
    refine g_ixLL (m := 1) (O.lst 0) (atI_nat (j := 1) rfl) ?_
    walk_at "z"
    refine g_setL (i := 1) O 0 rfl (by decide) (by simp) fun H1 O => ?_
    walk_at "z"
    refine g_ixL (m := 0) (O.lst 0) (atI_nat (j := 0) rfl) ?_
    walk_at "z"
    refine g_ixL (m := 1) (O.lst 0) (atI_nat (j := 1) rfl) ?_
    walk_at "z"
    refine ⟨d, ds, i + 1, rfl, O.fr.seq hS, hd, by omega, fun n h0 h1 => ?_⟩
    walk_at "z"
    exact q _ _ (Int.emod_nonneg _ (by omega)) (Int.emod_lt_of_pos _ hlim) O.give1 (O.get 0)
theorem nxt {B : Hp} {cs : List (Addr × HO)} {H : Hp} {Q : VK} {E : XK} {s d : Addr} {i lim : Int} {ds : List Int} (O : Own B cs H) (j : Nat) (hj : cs[j]? = some (s, .lst [.ref d, .int i])) (hi : 0 ≤ i) (hB : B d = some (.lst (ds.map V.int))) (hd : DrawsOk ds) (hl : 0 < lim)
    (k : ∀ n H', 0 ≤ n → n < lim → Own B (cs.set j (s, .lst [.ref d, .int (i + 1)])) H' → Q (.int n) H') : sp__law_next K [.ref s, .int lim] H Q E :=
  ⟨s, d, i, lim, ds, rfl, hl, O.get j hj, hi, O.neB j hj hB, .inl (.inl (O.fr _ _ hB)), hd, fun n H' h0 h1 e hs => k n H' h0 h1 (O.mut j hj e hs)⟩


/-! ### files: what their steps make -/
def stepOf (l : List Int) : Bool × Int → List Int
  | (true, n) => l ++ [n]
  | (false, n) => l.take n.toNat
def applied (l : List Int) (st : List (Bool × Int)) : List Int := st.foldl stepOf l
theorem applied_snoc (l : List Int) (st : List (Bool × Int)) (s : Bool × Int) : applied l (st ++ [s]) = stepOf (applied l st) s := by
  unfold applied
  rw [List.foldl_append]
  rfl
theorem applied_app (l : List Int) (st st' : List (Bool × Int)) : applied l (st ++ st') = applied (applied l st) st' := by
  unfold applied
  rw [List.foldl_append]
theorem applied_len (l : List Int) (st : List (Bool × Int)) : (applied l st).length ≤ l.length + st.length := by
  induction st generalizing l with
  | nil => exact Nat.le_refl _
  | cons s r ih =>
    have h := ih (stepOf l s)
    have h2 : (stepOf l s).length ≤ l.length + 1 := by
      obtain ⟨b, n⟩ := s
      cases b
      · show (l.take n.toNat).length ≤ _
        rw [List.length_take]; omega
      · show (l ++ [n]).length ≤ _
        rw [List.length_append]; exact Nat.le_refl _
    show (applied (stepOf l s) r).length ≤ _
    rw [List.length_cons]
    omega
def encF : Bool × Int → PyData
  | (b, n) => .tuple [.str (if b then "append" else "truncate"), .int n]
def encL : Bool × Int → PyData
  | (b, n) => .tuple [.int (if b then 0 else 1), .int n]
def Pos (st : List (Bool × Int)) : Prop := ∀ s ∈ st, 0 ≤ s.2
theorem Pos.app {a b : List (Bool × Int)} (ha : Pos a) (hb : Pos b) : Pos (a ++ b) := fun s hs => (List.mem_append.mp hs).elim (ha s) (hb s)
theorem Pos.take {a : List (Bool × Int)} (ha : Pos a) (n : Nat) : Pos (a.take n) := fun s hs => ha s (List.mem_of_mem_take hs)
def fl (a b : Addr) : List (Str × V) := [("_lasting", .ref a), ("_steps", .ref b)]
theorem fl_l (a b : Addr) : (fl a b).lookup ("_lasting" : Str) = some (.ref a) := by
  unfold fl
  rw [List.lookup_cons, show (("_lasting" : Str) == ("_lasting" : Str)) = true from by decide +kernel]
theorem fl_s (a b : Addr) : (fl a b).lookup ("_steps" : Str) = some (.ref b) := by
  unfold fl
  rw [List.lookup_cons, show (("_steps" : Str) == ("_lasting" : Str)) = false from by decide +kernel, List.lookup_cons, show (("_steps" : Str) == ("_steps" : Str)) = true from by decide +kernel]
theorem fl_n (a b : Addr) {m : Str} (h1 : (m == ("_lasting" : Str)) = false) (h2 : (m == ("_steps" : Str)) = false) : (fl a b).lookup m = none := by
  unfold fl
  rw [List.lookup_cons, h1, List.lookup_cons, h2]
  rfl
theorem ne_sl : ¬ (("_steps" : Str) = "_lasting") := by decide +kernel
theorem ne_ls : ¬ (("_lasting" : Str) = "_steps") := by decide +kernel
theorem fl_new (a b : Addr) : putF "_steps" (.ref b) (putF "_lasting" (.ref a) []) = fl a b := by
  show (if ("_lasting" : Str) = "_steps" then _ else _) = _
  rw [if_neg ne_ls]
  rfl
theorem fl_put (a b a' b' : Addr) : putF "_steps" (.ref b') (putF "_lasting" (.ref a') (fl a b)) = fl a' b' := by
  show putF "_steps" (.ref b') (if ("_lasting" : Str) = "_lasting" then (("_lasting" : Str), V.ref a') :: [("_steps", V.ref b)] else _) = _
  rw [if_pos rfl]
  show (if ("_lasting" : Str) = "_steps" then _ else (("_lasting" : Str), V.ref a') :: (if ("_steps" : Str) = "_steps" then _ else _)) = _
  rw [if_neg ne_ls, if_pos rfl]
  rfl
def sp__applied (K : PySem.W.Frag) : Sp := fun vs H Q _ => ∃ (a b : Addr) (l : List Int) (ws : List V) (st : List (Bool × Int)), vs = [.ref a, .ref b] ∧ SqL K H a (l.map V.int) ∧ SqL K H b ws ∧ TdAll H ws (st.map encF) ∧ Pos st ∧ l.length + st.length ≤ 1000000 ∧
  ∀ (p : Addr) (H' : Hp), Same H H' → H p = none → H' p = some (.lst ((applied l st).map V.int)) → Q (.ref p) H'
theorem td_pair {H : Hp} {x : V} {d1 d2 : PyData} (h : Td H x (.tuple [d1, d2])) : ∃ (t : Addr) (x1 x2 : V), x = .ref t ∧ H t = some (.tup [x1, x2]) ∧ Td H x1 d1 ∧ Td H x2 d2 := by
  cases h with
  | tup h1 h2 =>
    cases h2 with
    | cons a b =>
      cases b with
      | cons c d =>
        cases d
        exact ⟨_, _, _, rfl, h1, a, c⟩
theorem map_get {α β : Type} {f : α → β} {l : List α} {i : Nat} {y : β} (h : (l.map f)[i]? = some y) : ∃ x, l[i]? = some x ∧ f x = y := by
  rw [List.getElem?_map] at h
  cases e : l[i]? with
  | none => rw [e] at h; cases h
  | some x => rw [e] at h; exact ⟨x, rfl, Option.some.inj h⟩

theorem ok__applied (T : Txt K mg) : FnOk P w K mg base CX0 1 T.a__applied T.d__applied P__applied (sp__applied K) := by
  refine T.F__applied.ok sc__applied (fun vs H Q E h => ?_) (fun cdv A outer s H vs Q E hr h => ?_)
  · obtain ⟨a, b, l, ws, st, rfl, _⟩ := h
    rfl
  · obtain ⟨a, b, l, ws, st, rfl, hS, hW, hT, hp, hz, q⟩ := h
    refine ⟨_, (pss_cons (ps_set (i := 2) sc__applied.nd rfl (Or.inl rfl) (pe_callTy call_listU (by rfl) T.z_list (by decide +kernel) (pa_cons (pv 0) pa_nil)))
        (pss_cons (ps_for PassesOwn.never rfl (pi_list (pv 1)) (pg_tup rfl (pgs_cons (pg_name (i := 3) sc__applied.nd rfl (Or.inl rfl)) (pgs_cons (pg_name (i := 4) sc__applied.nd rfl (Or.inl rfl)) pgs_nil)))
          (pss_one (ps_if (pt_cmpR (op_eqU (hu64 hr)) (pv 3) pe_str (nomark _))
          (pss_one (ps_expr (pe_bm PySem.F.plainAttrs_list PySem.F.slot_list_append PySem.F.type_list_append mt_append (pv 2) (pa_cons (pv 4) pa_nil))))
          (pss_one (ps_set (i := 2) sc__applied.nd rfl (Or.inl rfl) (pe_slice sl_U (pv 2) po_none (po_some (pv 4))))))))
        (pss_one (ps_ret (pv 2))))), ?_⟩
    walk_at "z"
    refine g_listL hS (g_newQ (Own.start H) fun p H1 np O => ?_)
    walk_at "z"
    refine g_iListv (O.fr.seq hW) ?_
    have hl := tds_len hT
    rw [List.length_map] at hl
    refine forB_list ws (fun i σ H' => ∃ (p : Addr) (x3 x4 : Option V), σ = [some (.ref a), some (.ref b), some (.ref p), x3, x4] ∧ Own H [(p, .lst ((applied l (st.take i)).map V.int))] H') ?_ ?_ ?_ ?_
    · exact ⟨p, none, none, rfl, O⟩
    · rintro i σ H2 hi ⟨p, x3, x4, rfl, O⟩
      exact O.fr.seq hW
    · rintro i x σ H2 hi ⟨p, x3, x4, rfl, O⟩
      obtain ⟨d, ed, hx⟩ := tds_get hT hi
      obtain ⟨⟨k, n⟩, es, rfl⟩ := map_get ed
      obtain ⟨t, x1, x2, rfl, ht, h1, h2⟩ := td_pair hx
      cases h2
      cases h1
      have hn : 0 ≤ n := hp _ (List.mem_of_getElem? es)
      have e1 : applied l (st.take (i + 1)) = stepOf (applied l (st.take i)) (k, n) := by
        rw [List.take_add_one, es]
        exact applied_snoc _ _ _
      have hz2 := applied_len l (st.take i)
      rw [List.length_take] at hz2
      refine g_gtup (.inl (.inl (O.fr _ _ ht))) rfl ?_
      walk_at "z"
      refine g_eqS ?_
      walk_at "z"
      cases k with
      | true =>
        refine ite_d (fun _ => ?_) (fun h => absurd rfl h)
        walk_at "z"
        refine g_tyL (O.lst 0) ?_
        walk_at "z"
        refine g_append O 0 rfl (small_of (by rw [List.length_map]; omega)) fun H3 O => ?_
        refine ⟨p, _, _, rfl, ?_⟩
        rw [e1]
        show Own H [(p, .lst ((applied l (st.take i) ++ [n]).map V.int))] H3
        rw [List.map_append]
        exact O
      | false =>
        refine ite_d (fun h => absurd h (by decide +kernel)) (fun _ => ?_)
        walk_at "z"
        refine g_slL (O.lst 0) (g_newQ O fun p2 H3 np2 O => ?_)
        walk_at "z"
        refine ⟨p2, _, _, rfl, ?_⟩
        rw [e1, cut_take hn] at *
        show Own H [(p2, .lst (((applied l (st.take i)).take n.toNat).map V.int))] H3
        rw [List.map_take]
        exact O.sub ((List.nil_sublist _).cons_cons _)
    · rintro σ H2 ⟨p, x3, x4, rfl, O⟩
      walk_at "z"
      rw [List.take_of_length_le (by omega)] at O
      exact q p H2 O.fr (O.out _ (.head _)) (O.get 0)
def sp_File___init__ (C : Addr) : Sp := fun vs H Q _ => ∃ (p dx : Addr), vs = [.ref p] ∧ H p = some (.ins C dx []) ∧ ∀ (a b : Addr) (H' : Hp), Own (dels H [p]) [(b, .lst []), (a, .lst []), (p, .ins C dx (fl a b))] H' → Q .non H'

theorem ok_File___init__ (T : Txt K mg) : FnOk P w K mg base CX0 1 T.a_File___init__ T.d_File___init__ P_File___init__ (sp_File___init__ T.a_File) := by
  refine T.F_File___init__.ok sc_File___init__ (fun vs H Q E h => ?_) (fun cdv A outer s H vs Q E hr h => ?_)
  · obtain ⟨p, dx, rfl, _⟩ := h
    rfl
  · obtain ⟨p, dx, rfl, hp, q⟩ := h
    refine ⟨_, (pss_cons (ps_fld (pv 0) (pe_lst pa_nil) rfl)
        (pss_one (ps_fld (pv 0) (pe_lst pa_nil) rfl))), ?_⟩
    have O := Own.arg1 hp
    walk_at "z"
    refine g_new (Nat.zero_le _) O fun a H1 na O => ?_
    walk_at "z"
    refine g_sFldK O 1 rfl T.cl_File T.n_File__lasting (by decide) fun H2 O => ?_
    walk_at "z"
    refine g_new (Nat.zero_le _) O fun b H3 nb O => ?_
    walk_at "z"
    refine g_sFldK O 2 rfl T.cl_File T.n_File__steps (by show 1 < 1000; decide) fun H4 O => ?_
    walk_at "z"
    refine q a b H4 ?_
    rw [← fl_new]
    exact O
def limV : Option Int → V
  | none => .non
  | some n => .int n
def limN (len : Nat) : Option Int → Nat
  | none => len
  | some n => min n.toNat len
def sp_File_write (C : Addr) (K : PySem.W.Frag) : Sp := fun vs H Q _ => ∃ (p a b l dx : Addr) (bs : List Int) (ws : List V) (lim : Option Int), vs = [.ref p, .ref l, limV lim] ∧ H p = some (.ins C dx (fl a b)) ∧ H b = some (.lst ws) ∧ SqL K H l (bs.map V.int) ∧ l ≠ b ∧ (∀ n, lim = some n → 0 ≤ n) ∧
  ws.length + bs.length ≤ 1000000 ∧ ∀ (ws' : List V) (H' : Hp), (∀ c u, c ≠ b → H c = some u → H' c = some u) → H' b = some (.lst (ws ++ ws')) → TdAll H' ws' ((bs.take (limN bs.length lim)).map fun n => encF (true, n)) → Q (.int (limN bs.length lim)) H'
theorem cutI {ns : List Int} {n : Nat} : cutV (ns.map V.int) none (some (n : Int)) = (ns.take n).map V.int := by
  rw [cut_take (by omega), Int.toNat_natCast, List.map_take]

theorem ok_File_write (T : Txt K mg) : FnOk P w K mg base CX0 2 T.a_File_write T.d_File_write P_File_write (sp_File_write T.a_File K) := by
  refine T.F_File_write.ok sc_File_write (fun vs H Q E h => ?_) (fun cdv A outer s H vs Q E hr h => ?_)
  · obtain ⟨p, a, b, l, dx, bs, ws, lim, rfl, _⟩ := h
    rfl
  · obtain ⟨p, a, b, l, dx, bs, ws, lim, rfl, hp, hb, hS, hne, hlim, hz, q⟩ := h
    refine ⟨_, (pss_cons (ps_set (i := 3) sc_File_write.nd rfl (Or.inl rfl) (pe_ifExp (pt_cmpR op_isNU (pv 2) pe_non (nomark _)) (pe_callB call_lenU (by rfl) T.z_len PySem.boot_len (pa_cons (pv 1) pa_nil)) (pe_callB (call_min2U rfl) (by rfl) T.z_min (by decide +kernel) (pa_cons (pv 2) (pa_cons (pe_callB call_lenU (by rfl) T.z_len PySem.boot_len (pa_cons (pv 1) pa_nil)) pa_nil)))))
        (pss_cons (ps_expr (pe_bm PySem.F.plainAttrs_list PySem.F.slot_list_extend PySem.F.type_list_extend mt_extend (pe_fld (pv 0) rfl) (pa_cons (pe_lc (own := [("byte", 4)]) rfl sc_File_write.nd (pi_list (pe_slice sl_U (pv 1) po_none (po_some (pv 3)))) (blkOk_by (own := [("byte", 4)]) (N := N_File_write) (sc := defScope s_File_write) (by decide +kernel)) (fun _ _ _ _ _ => (pg_name (i := 4) sc_File_write.nd rfl (Or.inl rfl))) (fun _ _ _ _ _ => pts_nil) (fun _ _ _ _ _ => (pe_tup (pa_cons pe_str (pa_cons (pv 4) pa_nil))))) pa_nil)))
        (pss_one (ps_ret (pv 3))))), ?_⟩
    have hpb : p ≠ b := ne_of hp hb (by intro z; cases z)
    have O := Own.arg1 hb
    have hS := sq_dels (as := [b]) (fun h => hne (List.mem_singleton.mp h)) hS
    have hp' : dels H [b] p = some (.ins T.a_File dx (fl a b)) := by rw [dels_out (fun h => hpb (List.mem_singleton.mp h))]; exact hp
    have hlm : (List.map V.int bs).length = bs.length := List.length_map ..
    -- count
    have key : ∀ H1, Own (dels H [b]) [(b, .lst ws)] H1 → ∀ (n : Int), n = (limN bs.length lim : Int) → tSeq (tDrop (tBM K "list" rExtend (tFld K (tVar 0) "_steps") (tCons (tLc (iList K (tSl (rSlU K) (tVar 1) tNoPart (tPart (tVar 3)))) (gName 4) tYes (tTup (tCons (tC (.str "append")) (tCons (tVar 4) tNil))) [4]) tNil))) (tRet (tVar 3)) { nx := fun _ H' => Q .non H', rt := Q } [some (.ref p), some (.ref l), some (limV lim), some (.int n), none] H1 := by
      rintro H1 O n rfl
      walk_at "z"
      refine g_fldK (O.fr _ _ hp') T.cl_File T.n_File__steps (fl_s a b) ?_
      refine g_tyL (O.lst 0) ?_
      walk_at "z"
      refine g_slL (O.fr.seq hS) (g_newQ O fun c H2 nc O => ?_)
      rw [cutI] at O
      refine g_iListv (O.lst 0) ?_
      refine lcB_list ((bs.take (limN bs.length lim)).map V.int) (fun D i H' => ∃ (B' : Hp) (us : List V), Same (dels H [b]) B' ∧ Own B' [(D, .lst us), (c, .lst ((bs.take (limN bs.length lim)).map V.int)), (b, .lst ws)] H' ∧ TdAll B' us ((bs.take i).map fun n => encF (true, n))) ?_ ?_ ?_ ?_
      · intro D hD
        exact ⟨_, [], Same.refl _, O.alloc hD, .nil⟩
      · rintro D i H' hi ⟨B', us, e, O, hT⟩
        exact O.lst 1
      · rintro D i x H' hi ⟨B', us, e, O, hT⟩
        obtain ⟨n, en, rfl⟩ := map_get hi
        have hl := tds_len hT
        rw [List.length_map, List.length_take] at hl
        walk_at "z"
        refine iteT ?_
        walk_at "z"
        refine g_new (small_le (by simp)) O fun t H2 nt O => ?_
        refine g_lcPut O 1 rfl (small_of (by omega)) fun H3 O => ?_
        have hD0 : B' t = none := O.out _ (.head _)
        refine ⟨upd B' t (.tup [.str "append", .int n]), us ++ [V.ref t], e.trans O.freezeB, O.freeze, ?_⟩
        have en2 : bs[i]? = some n := by
          rw [List.getElem?_take] at en
          split at en
          · exact en
          · cases en
        rw [List.take_add_one, en2, List.map_append]
        exact tds_app (tds_ex O.freezeB hT) (.cons (.tup upd_same (.cons (.str _) (.cons (.int _) .nil))) .nil)
      · rintro D H' hD ⟨B', us, e, O, hT⟩
        rw [List.length_map, List.length_take] at hT
        have e2 : min (limN bs.length lim) bs.length = limN bs.length lim := by
          unfold limN
          cases lim <;> simp
        rw [e2] at hT
        have hl := tds_len hT
        rw [List.length_map, List.length_take] at hl
        walk_at "z"
        refine g_extend O 2 rfl (O.get 0) (small_le (by omega)) fun H3 O => ?_
        walk_at "z"
        refine q us H3 (fun d u hd h => O.fr _ _ (e _ _ (by rw [dels_out (fun h => hd (List.mem_singleton.mp h))]; exact h))) (O.get 2) (tds_ex O.fr hT)
    cases lim with
    | none =>
      dsimp only [limV]
      walk_at "z"
      refine ite_d (fun _ => ?_) (fun h => absurd rfl h)
      walk_at "z"
      refine g_lenL (O.fr.seq hS) ?_
      exact key H O _ (by rw [hlm]; rfl)
    | some m =>
      have h0 := hlim m rfl
      dsimp only [limV]
      walk_at "z"
      refine ite_d (fun h => nomatch h) (fun _ => ?_)
      walk_at "z"
      refine g_lenL (O.fr.seq hS) (g_nil (g_min2 ?_))
      refine key H O _ ?_
      show _ = ((min m.toNat bs.length : Nat) : Int)
      rw [hlm]
      omega
def limOk (lim : Option Int) : Prop := ∀ n, lim = some n → 0 ≤ n
def sp_File_shorten (C : Addr) : Sp := fun vs H Q _ => ∃ (p a b dx : Addr) (n : Int) (ws : List V) (lim : Option Int), vs = [.ref p, .int n, limV lim] ∧ H p = some (.ins C dx (fl a b)) ∧ H b = some (.lst ws) ∧ ws.length < 1000000 ∧
  (lim = some 0 → Q (.int 0) H) ∧ (lim ≠ some 0 → ∀ (w : V) (H' : Hp), (∀ c u, c ≠ b → H c = some u → H' c = some u) → H' b = some (.lst (ws ++ [w])) → Td H' w (encF (false, n)) → Q (.int 1) H')

theorem ok_File_shorten (T : Txt K mg) : FnOk P w K mg base CX0 2 T.a_File_shorten T.d_File_shorten P_File_shorten (sp_File_shorten T.a_File) := by
  refine T.F_File_shorten.ok sc_File_shorten (fun vs H Q E h => ?_) (fun cdv A outer s H vs Q E hr h => ?_)
  · obtain ⟨p, a, b, dx, n, ws, lim, rfl, _⟩ := h
    rfl
  · obtain ⟨p, a, b, dx, n, ws, lim, rfl, hp, hb, hz, q0, q1⟩ := h
    refine ⟨_, (pss_cons (ps_if (pt_cmpR (op_eqU (hu64 hr)) (pv 2) pe_int (nomark _))
          (pss_one (ps_ret pe_int))
          pss_nil)
        (pss_cons (ps_expr (pe_bm PySem.F.plainAttrs_list PySem.F.slot_list_append PySem.F.type_list_append mt_append (pe_fld (pv 0) rfl) (pa_cons (pe_tup (pa_cons pe_str (pa_cons (pv 1) pa_nil))) pa_nil)))
        (pss_one (ps_ret pe_int)))), ?_⟩
    have hpb : p ≠ b := ne_of hp hb (by intro z; cases z)
    have O := Own.arg1 hb
    have hp' : dels H [b] p = some (.ins T.a_File dx (fl a b)) := by rw [dels_out (fun h => hpb (List.mem_singleton.mp h))]; exact hp
    have go : lim ≠ some 0 → tSeq (tDrop (tBM K "list" rAppend (tFld K (tVar 0) "_steps") (tCons (tTup (tCons (tC (.str "truncate")) (tCons (tVar 1) tNil))) tNil))) (tRet (tC (.int 1))) { nx := fun _ H' => Q .non H', rt := Q } [some (.ref p), some (.int n), some (limV lim)] H := by
      intro hl
      walk_at "z"
      refine g_fldK hp T.cl_File T.n_File__steps (fl_s a b) ?_
      refine g_tyL (O.lst 0) ?_
      walk_at "z"
      refine g_new (small_le (by simp)) O fun t H2 nt O => ?_
      walk_at "z"
      refine g_append O 1 rfl (small_of (by omega)) fun H3 O => ?_
      walk_at "z"
      exact q1 hl (.ref t) H3 O.give1 (O.get 1) (.tup (O.get 0) (.cons (.str _) (.cons (.int _) .nil)))
    cases lim with
    | none =>
      dsimp only [limV]
      walk_at "z"
      refine iteF ?_
      exact go (by simp)
    | some m =>
      dsimp only [limV]
      walk_at "z"
      refine ite_d (fun h => ?_) (fun h => ?_)
      · subst h
        walk_at "z"
        exact q0 rfl
      · exact go (by simpa using h)
def sp_File_lose (C : Addr) (K : PySem.W.Frag) : Sp := fun vs H Q _ => ∃ (p a b dx : Addr) (n : Int) (l : List Int) (ws : List V) (st : List (Bool × Int)), vs = [.ref p, .int n] ∧ 0 ≤ n ∧ H p = some (.ins C dx (fl a b)) ∧ SqL K H a (l.map V.int) ∧ H b = some (.lst ws) ∧ TdAll H ws (st.map encF) ∧ Pos st ∧ l.length + st.length ≤ 1000000 ∧
  ∀ (a' b' : Addr) (H' : Hp), Own (dels H [p]) [(b', .lst []), (a', .lst ((applied l (st.take n.toNat)).map V.int)), (p, .ins C dx (fl a' b'))] H' → Q .non H'

theorem ok_File_lose (T : Txt K mg) : FnOk P w K mg base CX0 2 T.a_File_lose T.d_File_lose P_File_lose (sp_File_lose T.a_File K) := by
  refine T.F_File_lose.ok sc_File_lose (fun vs H Q E h => ?_) (fun cdv A outer s H vs Q E hr h => ?_)
  · obtain ⟨p, a, b, dx, n, l, ws, st, rfl, _⟩ := h
    rfl
  · obtain ⟨p, a, b, dx, n, l, ws, st, rfl, hn, hp, hS, hb, hT, hpos, hz, q⟩ := h
    refine ⟨_, (pss_cons (ps_fld (pv 0) (pe_call (ok__applied T) (hr.mono (by omega)) (by rfl) T.g__applied T.F__applied.kp T.b__applied .nil pass0 (pa_cons (pe_fld (pv 0) rfl) (pa_cons (pe_slice sl_U (pe_fld (pv 0) rfl) po_none (po_some (pv 1))) pa_nil))) rfl)
        (pss_one (ps_fld (pv 0) (pe_lst pa_nil) rfl))), ?_⟩
    have O := Own.arg1 hp
    have hl := tds_len hT
    rw [List.length_map] at hl
    walk_at "z"
    refine g_fldK hp T.cl_File T.n_File__lasting (fl_l a b) ?_
    walk_at "z"
    refine g_fldK hp T.cl_File T.n_File__steps (fl_s a b) ?_
    walk_at "z"
    refine g_slL (.inl (.inl hb)) (g_newQ (Own.start H) fun c H2 nc O2 => ?_)
    have O := O.ex O2.fr
    walk_at "z"
    rw [cut_take hn] at O2
    refine ⟨a, c, l, ws.take n.toNat, st.take n.toNat, rfl, O2.fr.seq hS, O2.lst 0, by rw [List.map_take]; exact tds_take _ (tds_ex O2.fr hT), hpos.take _, by rw [List.length_take]; omega, fun a' H3 e3 na h3 => ?_⟩
    have O := O.new e3 na h3
    walk_at "z"
    refine g_sFldK O 1 rfl T.cl_File T.n_File__lasting (by show 2 < 1000; decide) fun H4 O => ?_
    walk_at "z"
    refine g_new (Nat.zero_le _) O fun b' H5 nb O => ?_
    walk_at "z"
    refine g_sFldK O 2 rfl T.cl_File T.n_File__steps (by show 2 < 1000; decide) fun H6 O => ?_
    walk_at "z"
    refine q a' b' H6 ?_
    rw [← fl_put a b]
    exact O
def sp_File_flush (C : Addr) (K : PySem.W.Frag) : Sp := fun vs H Q _ => ∃ (p a b dx : Addr) (lim : Option Int) (l : List Int) (ws : List V) (st : List (Bool × Int)), vs = [.ref p, limV lim] ∧ H p = some (.ins C dx (fl a b)) ∧ SqL K H a (l.map V.int) ∧ H b = some (.lst ws) ∧ TdAll H ws (st.map encF) ∧ Pos st ∧ l.length + st.length ≤ 1000000 ∧
  (lim = some 0 → Q (.int 0) H) ∧ (lim ≠ some 0 → ∀ (a' b' : Addr) (H' : Hp), Own (dels H [p]) [(b', .lst []), (a', .lst ((applied l st).map V.int)), (p, .ins C dx (fl a' b'))] H' → Q (.int 1) H')

theorem ok_File_flush (T : Txt K mg) : FnOk P w K mg base CX0 3 T.a_File_flush T.d_File_flush P_File_flush (sp_File_flush T.a_File K) := by
  refine T.F_File_flush.ok sc_File_flush (fun vs H Q E h => ?_) (fun cdv A outer s H vs Q E hr h => ?_)
  · obtain ⟨p, a, b, dx, lim, l, ws, st, rfl, _⟩ := h
    rfl
  · obtain ⟨p, a, b, dx, lim, l, ws, st, rfl, hp, hS, hb, hT, hpos, hz, q0, q1⟩ := h
    refine ⟨_, (pss_cons (ps_if (pt_cmpR (op_eqU (hu64 hr)) (pv 1) pe_int (nomark _))
          (pss_one (ps_ret pe_int))
          pss_nil)
        (pss_cons (ps_expr (pe_meth (pv 0) T.cl_File T.m_File_lose (ok_File_lose T) (hr.mono (by omega)) T.b_File_lose .nil pass0 (pa_cons (pe_callB call_lenU (by rfl) T.z_len PySem.boot_len (pa_cons (pe_fld (pv 0) rfl) pa_nil)) pa_nil)))
        (pss_one (ps_ret pe_int)))), ?_⟩
    have hl := tds_len hT
    rw [List.length_map] at hl
    have go : lim ≠ some 0 → tSeq (tDrop (tMeth T.a_File "lose" (sp_File_lose T.a_File K) [] E0 (tVar 0) (tCons (tCB (rLenU K) (tCons (tFld K (tVar 0) "_steps") tNil)) tNil))) (tRet (tC (.int 1))) { nx := fun _ H' => Q .non H', rt := Q } [some (.ref p), some (limV lim)] H := by
      intro hlim
      walk_at "z"
      refine g_methK hp (fl_n a b (by decide +kernel) (by decide +kernel)) ?_
      walk_at "z"
      refine g_fldK hp T.cl_File T.n_File__steps (fl_s a b) ?_
      walk_at "z"
      refine g_lenL (.inl (.inl hb)) ?_
      walk_at "z"
      refine ⟨p, a, b, dx, _, l, ws, st, rfl, by omega, hp, hS, hb, hT, hpos, hz, fun a' b' H' O => ?_⟩
      walk_at "z"
      rw [List.take_of_length_le (by omega)] at O
      exact q1 hlim a' b' H' O
    cases lim with
    | none =>
      dsimp only [limV]
      walk_at "z"
      refine iteF ?_
      exact go (by simp)
    | some m =>
      dsimp only [limV]
      walk_at "z"
      refine ite_d (fun h => ?_) (fun h => ?_)
      · subst h
        walk_at "z"
        exact q0 rfl
      · exact go (by simpa using h)
def sp_File_content (C : Addr) (K : PySem.W.Frag) : Sp := fun vs H Q _ => ∃ (p a b dx : Addr) (l : List Int) (ws : List V) (st : List (Bool × Int)), vs = [.ref p] ∧ H p = some (.ins C dx (fl a b)) ∧ SqL K H a (l.map V.int) ∧ H b = some (.lst ws) ∧ TdAll H ws (st.map encF) ∧ Pos st ∧ l.length + st.length ≤ 1000000 ∧
  ∀ (r : Addr) (H' : Hp), Same H H' → H r = none → H' r = some (.lst ((applied l st).map V.int)) → Q (.ref r) H'

theorem ok_File_content (T : Txt K mg) : FnOk P w K mg base CX0 2 T.a_File_content T.d_File_content P_File_content (sp_File_content T.a_File K) := by
  refine T.F_File_content.ok sc_File_content (fun vs H Q E h => ?_) (fun cdv A outer s H vs Q E hr h => ?_)
  · obtain ⟨p, a, b, dx, l, ws, st, rfl, _⟩ := h
    rfl
  · obtain ⟨p, a, b, dx, l, ws, st, rfl, hp, hS, hb, hT, hpos, hz, q⟩ := h
    refine ⟨_, (pss_one (ps_ret (pe_call (ok__applied T) (hr.mono (by omega)) (by rfl) T.g__applied T.F__applied.kp T.b__applied .nil pass0 (pa_cons (pe_fld (pv 0) rfl) (pa_cons (pe_fld (pv 0) rfl) pa_nil))))), ?_⟩
    walk_at "z"
    refine g_fldK hp T.cl_File T.n_File__lasting (fl_l a b) ?_
    walk_at "z"
    refine g_fldK hp T.cl_File T.n_File__steps (fl_s a b) ?_
    walk_at "z"
    exact ⟨a, b, l, ws, st, rfl, hS, .inl (.inl hb), hT, hpos, hz, q⟩
def sp_File_pending (C : Addr) : Sp := fun vs H Q _ => ∃ (p a b dx : Addr) (ws : List V), vs = [.ref p] ∧ H p = some (.ins C dx (fl a b)) ∧ H b = some (.lst ws) ∧ Q (.int (ws.length : Int)) H

theorem ok_File_pending (T : Txt K mg) : FnOk P w K mg base CX0 1 T.a_File_pending T.d_File_pending P_File_pending (sp_File_pending T.a_File) := by
  refine T.F_File_pending.ok sc_File_pending (fun vs H Q E h => ?_) (fun cdv A outer s H vs Q E hr h => ?_)
  · obtain ⟨p, a, b, dx, ws, rfl, _⟩ := h
    rfl
  · obtain ⟨p, a, b, dx, ws, rfl, hp, hb, q⟩ := h
    refine ⟨_, (pss_one (ps_ret (pe_callB call_lenU (by rfl) T.z_len PySem.boot_len (pa_cons (pe_fld (pv 0) rfl) pa_nil)))), ?_⟩
    walk_at "z"
    refine g_fldK hp T.cl_File T.n_File__steps (fl_s a b) ?_
    walk_at "z"
    exact g_lenL (.inl (.inl hb)) q
def sp__law_after (K : PySem.W.Frag) : Sp := fun vs H Q _ => ∃ (a b : Addr) (l : List Int) (ws : List V) (st : List (Bool × Int)), vs = [.ref a, .ref b] ∧ SqL K H a (l.map V.int) ∧ SqL K H b ws ∧ TdAll H ws (st.map encL) ∧ Pos st ∧ l.length + st.length ≤ 1000000 ∧
  ∀ (p : Addr) (H' : Hp), Same H H' → H p = none → H' p = some (.lst ((applied l st).map V.int)) → Q (.ref p) H'

theorem ok__law_after (T : Txt K mg) : FnOk P w K mg base CX0 1 T.a__law_after T.d__law_after P__law_after (sp__law_after K) := by
  refine T.F__law_after.ok sc__law_after (fun vs H Q E h => ?_) (fun cdv A outer s H vs Q E hr h => ?_)
  · obtain ⟨a, b, l, ws, st, rfl, _⟩ := h
    rfl
  · obtain ⟨a, b, l, ws, st, rfl, hS, hW, hT, hp, hz, q⟩ := h
    refine ⟨_, (pss_cons (ps_set (i := 0) sc__law_after.nd rfl (Or.inl rfl) (pe_callTy call_listU (by rfl) T.z_list (by decide +kernel) (pa_cons (pv 0) pa_nil)))
        (pss_cons (ps_for PassesOwn.never rfl (pi_list (pv 1)) (pg_tup rfl (pgs_cons (pg_name (i := 2) sc__law_after.nd rfl (Or.inl rfl)) (pgs_cons (pg_name (i := 3) sc__law_after.nd rfl (Or.inl rfl)) pgs_nil)))
          (pss_one (ps_if (pt_cmpR (op_eqU (hu64 hr)) (pv 2) pe_int (nomark _))
          (pss_one (ps_expr (pe_bm PySem.F.plainAttrs_list PySem.F.slot_list_append PySem.F.type_list_append mt_append (pv 0) (pa_cons (pv 3) pa_nil))))
          (pss_one (ps_set (i := 0) sc__law_after.nd rfl (Or.inl rfl) (pe_slice sl_U (pv 0) po_none (po_some (pv 3))))))))
        (pss_one (ps_ret (pv 0))))), ?_⟩
    walk_at "z"
    refine g_listL hS (g_newQ (Own.start H) fun p H1 np O => ?_)
    walk_at "z"
    refine g_iListv (O.fr.seq hW) ?_
    have hl := tds_len hT
    rw [List.length_map] at hl
    refine forB_list ws (fun i σ H' => ∃ (p : Addr) (x3 x4 : Option V), σ = [some (.ref p), some (.ref b), x3, x4] ∧ Own H [(p, .lst ((applied l (st.take i)).map V.int))] H') ?_ ?_ ?_ ?_
    · exact ⟨p, none, none, rfl, O⟩
    · rintro i σ H2 hi ⟨p, x3, x4, rfl, O⟩
      exact O.fr.seq hW
    · rintro i x σ H2 hi ⟨p, x3, x4, rfl, O⟩
      obtain ⟨d, ed, hx⟩ := tds_get hT hi
      obtain ⟨⟨k, n⟩, es, rfl⟩ := map_get ed
      obtain ⟨t, x1, x2, rfl, ht, h1, h2⟩ := td_pair hx
      cases h2
      cases h1
      have hn : 0 ≤ n := hp _ (List.mem_of_getElem? es)
      have e1 : applied l (st.take (i + 1)) = stepOf (applied l (st.take i)) (k, n) := by
        rw [List.take_add_one, es]
        exact applied_snoc _ _ _
      have hz2 := applied_len l (st.take i)
      rw [List.length_take] at hz2
      refine g_gtup (.inl (.inl (O.fr _ _ ht))) rfl ?_
      walk_at "z"
      cases k with
      | true =>
        refine ite_d (fun _ => ?_) (fun h => absurd rfl h)
        walk_at "z"
        refine g_tyL (O.lst 0) ?_
        walk_at "z"
        refine g_append O 0 rfl (small_of (by rw [List.length_map]; omega)) fun H3 O => ?_
        refine ⟨p, _, _, rfl, ?_⟩
        rw [e1]
        show Own H [(p, .lst ((applied l (st.take i) ++ [n]).map V.int))] H3
        rw [List.map_append]
        exact O
      | false =>
        refine ite_d (fun h => absurd h (by decide)) (fun _ => ?_)
        walk_at "z"
        refine g_slL (O.lst 0) (g_newQ O fun p2 H3 np2 O => ?_)
        walk_at "z"
        refine ⟨p2, _, _, rfl, ?_⟩
        rw [e1, cut_take hn] at *
        show Own H [(p2, .lst (((applied l (st.take i)).take n.toNat).map V.int))] H3
        rw [List.map_take]
        exact O.sub ((List.nil_sublist _).cons_cons _)
    · rintro σ H2 ⟨p, x3, x4, rfl, O⟩
      walk_at "z"
      rw [List.take_of_length_le (by omega)] at O
      exact q p H2 O.fr (O.out _ (.head _)) (O.get 0)

def NoTup (cs : List (Addr × HO)) : Prop := ∀ c ∈ cs, ∀ xs, c.2 ≠ .tup xs
abbrev dcells (C s d p a b dx : Addr) (i : Int) (las : List Int) (ws : List V) (cs : List (Addr × HO)) : List (Addr × HO) := (s, .lst [.ref d, .int i]) :: (p, .ins C dx (fl a b)) :: (a, .lst (las.map V.int)) :: (b, .lst ws) :: cs
theorem NoTup.cons {cs : List (Addr × HO)} {a : Addr} {o : HO} (h : NoTup cs) (ho : ∀ xs, o ≠ .tup xs) : NoTup ((a, o) :: cs) := fun c hc xs => by
  rcases List.mem_cons.mp hc with rfl | hc
  · exact ho xs
  · exact h c hc xs
theorem NoTup.dcells {C s d p a b dx : Addr} {i : Int} {las : List Int} {ws : List V} {cs : List (Addr × HO)} (h : NoTup cs) : NoTup (dcells C s d p a b dx i las ws cs) :=
  (((h.cons (by simp)).cons (by simp)).cons (by simp)).cons (by simp)
/-- behind a loss: the object's two lists are new ones -/
theorem own_afterLose {B : Hp} {H H' : Hp} {cs : List (Addr × HO)} {s p a b a' b' : Addr} {os op oa ob op' oa' ob' : HO} (O : Own B ((s, os) :: (p, op) :: (a, oa) :: (b, ob) :: cs) H) (O' : Own (dels H [p]) [(b', ob'), (a', oa'), (p, op')] H') :
    Own B ((s, os) :: (p, op') :: (a', oa') :: (b', ob') :: cs) H' := by
  have hpB := O.out (p, op) (.tail _ (.head _))
  have fresh : ∀ x, dels H [p] x = none → x ≠ p → H x = none := fun x h n => by
    rw [dels_out (fun q => n (List.mem_singleton.mp q))] at h
    exact h
  have na : H a' = none := fresh a' (O'.out _ (.tail _ (.head _))) (O'.ne 1 2 rfl rfl (by decide))
  have nb : H b' = none := fresh b' (O'.out _ (.head _)) (O'.ne 0 2 rfl rfl (by decide))
  have keep : ∀ x u, x ≠ p → H x = some u → H' x = some u := O'.give1
  have O1 : Own B ((s, os) :: (p, op') :: (a, oa) :: (b, ob) :: cs) H' := O.mut 1 rfl keep (O'.get 2)
  have hnd := O1.nd
  have fa := O.fresh na
  have fb := O.fresh nb
  have hab : a' ≠ b' := O'.ne 1 0 rfl rfl (by decide)
  have hs := O.have_
  refine ⟨O1.fr, fun c hc => ?_, fun c hc => ?_, ?_⟩
  · simp only [List.mem_cons] at hc
    rcases hc with rfl | rfl | rfl | rfl | hc
    · exact O1.out _ (.head _)
    · exact O1.out _ (.tail _ (.head _))
    · exact fa.1
    · exact fb.1
    · exact O1.out _ (.tail _ (.tail _ (.tail _ (.tail _ hc))))
  · simp only [List.mem_cons] at hc
    rcases hc with rfl | rfl | rfl | rfl | hc
    · exact O1.have_ _ (.head _)
    · exact O1.have_ _ (.tail _ (.head _))
    · exact O'.get 1
    · exact O'.get 0
    · exact O1.have_ _ (.tail _ (.tail _ (.tail _ (.tail _ hc))))
  · simp only [List.map_cons, List.nodup_cons, List.mem_cons, not_or, List.mem_map, not_exists, not_and] at hnd ⊢
    have f1 := fa.2
    have f2 := fb.2
    refine ⟨⟨hnd.1.1, fun e => f1 (s, os) (.head _) e, fun e => f2 (s, os) (.head _) e, hnd.1.2.2.2⟩, ⟨fun e => f1 (p, op) (.tail _ (.head _)) e, fun e => f2 (p, op) (.tail _ (.head _)) e, hnd.2.1.2.2⟩, ⟨hab, fun x hx e => f1 x (.tail _ (.tail _ (.tail _ (.tail _ hx)))) e⟩, fun x hx e => f2 x (.tail _ (.tail _ (.tail _ (.tail _ hx)))) e, hnd.2.2.2.2⟩
/-- behind __init__ -/
theorem own_init {B : Hp} {H H' : Hp} {cs : List (Addr × HO)} {p a b : Addr} {op op' oa ob : HO} (O : Own B ((p, op) :: cs) H) (O' : Own (dels H [p]) [(b, ob), (a, oa), (p, op')] H') : Own B ((p, op') :: (a, oa) :: (b, ob) :: cs) H' := by
  have fresh : ∀ x, dels H [p] x = none → x ≠ p → H x = none := fun x h n => by
    rw [dels_out (fun q => n (List.mem_singleton.mp q))] at h
    exact h
  have hpa := O'.ne 1 2 rfl rfl (by decide)
  have hpb := O'.ne 0 2 rfl rfl (by decide)
  have fa := O.fresh (fresh a (O'.out _ (.tail _ (.head _))) hpa)
  have fb := O.fresh (fresh b (O'.out _ (.head _)) hpb)
  have hab : a ≠ b := O'.ne 1 0 rfl rfl (by decide)
  have O1 : Own B ((p, op') :: cs) H' := O.mut 0 rfl O'.give1 (O'.get 2)
  have hnd := O1.nd
  refine ⟨O1.fr, fun c hc => ?_, fun c hc => ?_, ?_⟩
  · simp only [List.mem_cons] at hc
    rcases hc with rfl | rfl | rfl | hc
    · exact O1.out _ (.head _)
    · exact fa.1
    · exact fb.1
    · exact O1.out _ (.tail _ hc)
  · simp only [List.mem_cons] at hc
    rcases hc with rfl | rfl | rfl | hc
    · exact O1.have_ _ (.head _)
    · exact O'.get 1
    · exact O'.get 0
    · exact O1.have_ _ (.tail _ hc)
  · simp only [List.map_cons, List.nodup_cons, List.mem_cons, not_or, List.mem_map, not_exists, not_and] at hnd ⊢
    exact ⟨⟨fun e => hpa e.symm, fun e => hpb e.symm, hnd.1⟩, ⟨hab, fun x hx e => fa.2 x (.tail _ hx) e⟩, fun x hx e => fb.2 x (.tail _ hx) e, hnd.2⟩
def sp__law_deed (C : Addr) (K : PySem.W.Frag) : Sp := fun vs H Q _ => ∃ (B : Hp) (cs : List (Addr × HO)) (s d : Addr) (i : Int) (ds : List Int) (p a b dx : Addr) (las : List Int) (ws : List V) (st : List (Bool × Int)) (l1 l2 : Addr) (ws2 : List V),
  vs = [.ref s, .ref p, .ref l1, .ref l2] ∧ Own B ((s, .lst [.ref d, .int i]) :: (p, .ins C dx (fl a b)) :: (a, .lst (las.map V.int)) :: (b, .lst ws) :: cs) H ∧ NoTup cs ∧ 0 ≤ i ∧ B d = some (.lst (ds.map V.int)) ∧ DrawsOk ds ∧
  TdAll B ws (st.map encF) ∧ Pos st ∧ B l1 = some (.lst (las.map V.int)) ∧ B l2 = some (.lst ws2) ∧ TdAll B ws2 (st.map encL) ∧ las.length + st.length ≤ 500000 ∧
  ∀ (B' H' : Hp) (r : Addr) (i : Int) (a b : Addr) (las' : List Int) (ws : List V) (st' : List (Bool × Int)) (l1 l2 : Addr) (ws2 : List V), Same B B' → Own B' ((s, .lst [.ref d, .int i]) :: (p, .ins C dx (fl a b)) :: (a, .lst (las'.map V.int)) :: (b, .lst ws) :: cs) H' → 0 ≤ i →
    TdAll B' ws (st'.map encF) → Pos st' → B' l1 = some (.lst (las'.map V.int)) → B' l2 = some (.lst ws2) → TdAll B' ws2 (st'.map encL) → las'.length + st'.length ≤ las.length + st.length + 60 → H' r = some (.lst [.bl true, .ref l1, .ref l2]) → Q (.ref r) H'

theorem ok__law_deed (T : Txt K mg) : FnOk P w K mg base CX0 14 T.a__law_deed T.d__law_deed P__law_deed (sp__law_deed T.a_File K) := by
  refine T.F__law_deed.ok sc__law_deed (fun vs H Q E h => ?_) (fun cdv A outer s H vs Q E hr h => ?_)
  · obtain ⟨B, cs, s, d, i, ds, p, a, b, dx, las, ws, st, l1, l2, ws2, rfl, _⟩ := h
    rfl
  · obtain ⟨B, cs, s, d, i, ds, p, a, b, dx, las, ws, st, l1, l2, ws2, rfl, O, nt, hi, hd, hds, hT, hp, h1, h2, hT2, hz, q⟩ := h
    refine ⟨_, (pss_cons (ps_set (i := 4) sc__law_deed.nd rfl (Or.inl rfl) (pe_call (ok__law_next T) (hr.mono (by omega)) (by rfl) T.g__law_next T.F__law_next.kp T.b__law_next .nil pass0 (pa_cons (pv 0) (pa_cons pe_int pa_nil))))
        (pss_cons (ps_set (i := 5) sc__law_deed.nd rfl (Or.inl rfl) pe_non)
        (Evl.pss_cut (ps_if (pt_cmpR (op_eqU (hu64 hr)) (pe_call (ok__law_next T) (hr.mono (by omega)) (by rfl) T.g__law_next T.F__law_next.kp T.b__law_next .nil pass0 (pa_cons (pv 0) (pa_cons pe_int pa_nil))) pe_int (nomark _))
          (pss_one (ps_set (i := 5) sc__law_deed.nd rfl (Or.inl rfl) (pe_ix ix_seq (pe_lst (pa_cons (pe_call (ok__law_next T) (hr.mono (by omega)) (by rfl) T.g__law_next T.F__law_next.kp T.b__law_next .nil pass0 (pa_cons (pv 0) (pa_cons pe_int pa_nil))) (pa_cons (pe_call (ok__law_next T) (hr.mono (by omega)) (by rfl) T.g__law_next T.F__law_next.kp T.b__law_next .nil pass0 (pa_cons (pv 0) (pa_cons pe_int pa_nil))) pa_nil))) (pe_call (ok__law_next T) (hr.mono (by omega)) (by rfl) T.g__law_next T.F__law_next.kp T.b__law_next .nil pass0 (pa_cons (pv 0) (pa_cons pe_int pa_nil))) (fun _ _ => rfl))))
          pss_nil)
        (pss_cons (ps_if (pt_cmpR op_lt (pv 4) pe_int (nomark _))
          (pss_cons (ps_setLc (i := 6) (own := [("k", 11)]) rfl sc__law_deed.nd rfl rfl (sw_true rfl rfl rfl (by decide +kernel)) (pi_range1 (by rfl) T.z_range (pa_cons (pe_op op_addU (pe_call (ok__law_next T) (hr.mono (by omega)) (by rfl) T.g__law_next T.F__law_next.kp T.b__law_next .nil pass0 (pa_cons (pv 0) (pa_cons pe_int pa_nil))) (pe_op op_mulU pe_int (pe_callTy call_intU (by rfl) T.z_int (by decide +kernel) (pa_cons (pe_cmpR (op_eqU (hu64 hr)) (pe_call (ok__law_next T) (hr.mono (by omega)) (by rfl) T.g__law_next T.F__law_next.kp T.b__law_next .nil pass0 (pa_cons (pv 0) (pa_cons pe_int pa_nil))) pe_int (nomark _)) pa_nil)))) pa_nil)) (blkOk_by (own := [("k", 11)]) (N := N__law_deed) (sc := defScope s__law_deed) (by decide +kernel)) (fun _ _ _ _ _ => (pg_name (i := 11) sc__law_deed.nd rfl (Or.inl rfl))) (fun _ _ _ _ _ => pts_nil) (fun _ _ _ _ _ => (pe_call (ok__law_next T) (hr.mono (by omega)) (by rfl) T.g__law_next T.F__law_next.kp T.b__law_next .nil pass0 (pa_cons (pv 0) (pa_cons pe_int pa_nil)))))
        (pss_cons (ps_set (i := 7) sc__law_deed.nd rfl (Or.inl rfl) (pe_callB call_lenU (by rfl) T.z_len PySem.boot_len (pa_cons (pv 6) pa_nil)))
        (Evl.pss_cut (ps_if (pt_cmpR op_notNU (pv 5) pe_non (nomark _))
          (pss_one (ps_set (i := 7) sc__law_deed.nd rfl (Or.inl rfl) (pe_callB (call_min2U rfl) (by rfl) T.z_min (by decide +kernel) (pa_cons (pv 7) (pa_cons (pv 5) pa_nil)))))
          pss_nil)
        (pss_cons (ps_set (i := 8) sc__law_deed.nd rfl (Or.inl rfl) (pe_callTy call_listU (by rfl) T.z_list (by decide +kernel) (pa_cons (pv 6) pa_nil)))
        (pss_cons (ps_set (i := 9) sc__law_deed.nd rfl (Or.inl rfl) (pe_meth (pv 1) T.cl_File T.m_File_write (ok_File_write T) (hr.mono (by omega)) T.b_File_write .nil pass0 (pa_cons (pv 8) (pa_cons (pv 5) pa_nil))))
        (pss_cons (ps_if (pt_cmpR (op_neU (hu64 hr)) (pv 8) (pv 6) (nomark _))
          (pss_one (ps_ret (pe_lst (pa_cons pe_bl (pa_cons (pv 2) (pa_cons (pv 3) pa_nil))))))
          pss_nil)
        (pss_cons (ps_expr (pe_bm PySem.F.plainAttrs_list PySem.F.slot_list_insert PySem.F.type_list_insert mt_insertU (pv 8) (pa_cons pe_int (pa_cons pe_int pa_nil))))
        (pss_cons (ps_expr (pe_bm PySem.F.plainAttrs_list PySem.F.slot_list_append PySem.F.type_list_append mt_append (pv 8) (pa_cons pe_int pa_nil)))
        (pss_one (ps_ret (pe_lst (pa_cons (pe_call (ok__law_same T) (hr.mono (by omega)) (by rfl) T.g__law_same T.F__law_same.kp T.b__law_same .nil pass0 (pa_cons (pv 9) (pa_cons (pv 7) pa_nil))) (pa_cons (pv 2) (pa_cons (pe_op op_addU (pv 3) (pe_lc (own := [("byte", 12)]) rfl sc__law_deed.nd (pi_list (pe_slice sl_U (pv 6) po_none (po_some (pv 7)))) (blkOk_by (own := [("byte", 12)]) (N := N__law_deed) (sc := defScope s__law_deed) (by decide +kernel)) (fun _ _ _ _ _ => (pg_name (i := 12) sc__law_deed.nd rfl (Or.inl rfl))) (fun _ _ _ _ _ => pts_nil) (fun _ _ _ _ _ => (pe_tup (pa_cons pe_int (pa_cons (pv 12) pa_nil)))))) pa_nil))))))))))))))
          pss_nil)
        (pss_cons (ps_if (pt_cmpR op_lt (pv 4) pe_int (nomark _))
          (pss_cons (ps_set (i := 10) sc__law_deed.nd rfl (Or.inl rfl) (pe_call (ok__law_next T) (hr.mono (by omega)) (by rfl) T.g__law_next T.F__law_next.kp T.b__law_next .nil pass0 (pa_cons (pv 0) (pa_cons (pe_op op_addU (pe_callB call_lenU (by rfl) T.z_len PySem.boot_len (pa_cons (pe_call (ok__law_after T) (hr.mono (by omega)) (by rfl) T.g__law_after T.F__law_after.kp T.b__law_after .nil pass0 (pa_cons (pv 2) (pa_cons (pv 3) pa_nil))) pa_nil)) pe_int) pa_nil))))
        (pss_cons (ps_set (i := 9) sc__law_deed.nd rfl (Or.inl rfl) (pe_meth (pv 1) T.cl_File T.m_File_shorten (ok_File_shorten T) (hr.mono (by omega)) T.b_File_shorten .nil pass0 (pa_cons (pv 10) (pa_cons (pv 5) pa_nil))))
        (pss_cons (ps_if (pt_cmpR (op_eqU (hu64 hr)) (pv 5) pe_int (nomark _))
          (pss_one (ps_ret (pe_lst (pa_cons (pe_call (ok__law_same T) (hr.mono (by omega)) (by rfl) T.g__law_same T.F__law_same.kp T.b__law_same .nil pass0 (pa_cons (pv 9) (pa_cons pe_int pa_nil))) (pa_cons (pv 2) (pa_cons (pv 3) pa_nil))))))
          pss_nil)
        (pss_one (ps_ret (pe_lst (pa_cons (pe_call (ok__law_same T) (hr.mono (by omega)) (by rfl) T.g__law_same T.F__law_same.kp T.b__law_same .nil pass0 (pa_cons (pv 9) (pa_cons pe_int pa_nil))) (pa_cons (pv 2) (pa_cons (pe_op op_addU (pv 3) (pe_lst (pa_cons (pe_tup (pa_cons pe_int (pa_cons (pv 10) pa_nil))) pa_nil))) pa_nil)))))))))
          pss_nil)
        (pss_cons (ps_if (pt_cmpR op_lt (pv 4) pe_int (nomark _))
          (pss_cons (ps_set (i := 9) sc__law_deed.nd rfl (Or.inl rfl) (pe_meth (pv 1) T.cl_File T.m_File_flush (ok_File_flush T) (hr.mono (by omega)) T.b_File_flush .nil pass0 (pa_cons (pv 5) pa_nil)))
        (pss_cons (ps_if (pt_cmpR (op_eqU (hu64 hr)) (pv 5) pe_int (nomark _))
          (pss_one (ps_ret (pe_lst (pa_cons (pe_call (ok__law_same T) (hr.mono (by omega)) (by rfl) T.g__law_same T.F__law_same.kp T.b__law_same .nil pass0 (pa_cons (pv 9) (pa_cons pe_int pa_nil))) (pa_cons (pv 2) (pa_cons (pv 3) pa_nil))))))
          pss_nil)
        (pss_one (ps_ret (pe_lst (pa_cons (pe_call (ok__law_same T) (hr.mono (by omega)) (by rfl) T.g__law_same T.F__law_same.kp T.b__law_same .nil pass0 (pa_cons (pv 9) (pa_cons pe_int pa_nil))) (pa_cons (pe_call (ok__law_after T) (hr.mono (by omega)) (by rfl) T.g__law_after T.F__law_after.kp T.b__law_after .nil pass0 (pa_cons (pv 2) (pa_cons (pv 3) pa_nil))) (pa_cons (pe_lst pa_nil) pa_nil))))))))
          pss_nil)
        (pss_cons (ps_set (i := 7) sc__law_deed.nd rfl (Or.inl rfl) (pe_call (ok__law_next T) (hr.mono (by omega)) (by rfl) T.g__law_next T.F__law_next.kp T.b__law_next .nil pass0 (pa_cons (pv 0) (pa_cons (pe_op op_addU (pe_callB call_lenU (by rfl) T.z_len PySem.boot_len (pa_cons (pv 3) pa_nil)) pe_int) pa_nil))))
        (pss_cons (ps_expr (pe_meth (pv 1) T.cl_File T.m_File_lose (ok_File_lose T) (hr.mono (by omega)) T.b_File_lose .nil pass0 (pa_cons (pv 7) pa_nil)))
        (pss_one (ps_ret (pe_lst (pa_cons pe_bl (pa_cons (pe_call (ok__law_after T) (hr.mono (by omega)) (by rfl) T.g__law_after T.F__law_after.kp T.b__law_after .nil pass0 (pa_cons (pv 2) (pa_cons (pe_slice sl_U (pv 3) po_none (po_some (pv 7))) pa_nil))) (pa_cons (pe_lst pa_nil) pa_nil)))))))))))))), ?_⟩
    walk_at "z"
    refine nxt O 0 rfl hi hd hds (by decide) fun pick H1 hp0 hp1 O => ?_
    walk_at "z"
    -- the limit
    refine ⟨fun σ H' => ∃ (i : Int) (lim : Option Int), σ = [some (.ref s), some (.ref p), some (.ref l1), some (.ref l2), some (.int pick), some (limV lim), none, none, none, none, none, none, none] ∧ 0 ≤ i ∧ limOk lim ∧ Own B (dcells T.a_File s d p a b dx i las ws cs) H', ?_, ?_⟩
    · walk_at "z"
      refine nxt O 0 rfl (by omega) hd hds (by decide) fun n H1 h0 h1 O => ?_
      walk_at "z"
      refine ite_d (fun _ => ?_) (fun _ => ?_)
      · walk_at "z"
        refine nxt O 0 rfl (by omega) hd hds (by decide) fun n1 H1 h10 h11 O => ?_
        walk_at "z"
        refine nxt O 0 rfl (by omega) hd hds (by decide) fun n2 H1 h20 h21 O => ?_
        walk_at "z"
        refine g_new (small_le (by simp)) O fun t H1 nt O => ?_
        walk_at "z"
        refine nxt O 1 rfl (by omega) hd hds (by decide) fun n3 H1 h30 h31 O => ?_
        have e3 : n3 = 0 ∨ n3 = 1 := by omega
        rcases e3 with rfl | rfl
        · refine g_ixL (O.lst 0) (atI_nat (j := 0) rfl) ?_
          refine ⟨_, some n1, rfl, ?_, fun n e => by cases e; exact h10, O.tail⟩
          omega
        · refine g_ixL (O.lst 0) (atI_nat (j := 1) rfl) ?_
          refine ⟨_, some n2, rfl, ?_, fun n e => by cases e; exact h20, O.tail⟩
          omega
      · walk_at "z"
        refine ⟨_, none, rfl, ?_, (fun n e => nomatch e), O⟩
        omega
    rintro σ H2 ⟨i, lim, rfl, hi, hlim, O⟩
    walk_at "z"
    refine ite_d (fun _ => ?_) (fun _ => ?_)
    · -- bytes are written
      walk_at "z"
      refine nxt O 0 rfl (by omega) hd hds (by decide) fun n1 H1 h10 h11 O => ?_
      walk_at "z"
      refine nxt O 0 rfl (by omega) hd hds (by decide) fun n2 H1 h20 h21 O => ?_
      walk_at "z"
      refine g_intB ?_
      have hb50 : 0 ≤ (if (decide (n2 = 0)) = true then (1 : Int) else 0) ∧ (if (decide (n2 = 0)) = true then (1 : Int) else 0) ≤ 1 := by
        split <;> exact ⟨by decide, by decide⟩
      generalize (if (decide (n2 = 0)) = true then (1 : Int) else 0) = b50 at hb50 ⊢
      walk_at "z"
      refine lcB_rng0 (fun D j H' => ∃ (us : List Int) (i : Int), us.length = j ∧ (∀ u ∈ us, 0 ≤ u) ∧ 0 ≤ i ∧ Own B ((D, .lst (us.map V.int)) :: dcells T.a_File s d p a b dx i las ws cs) H') ?_ ?_ ?_
      · intro D hD
        exact ⟨[], _, rfl, by simp, by omega, O.alloc hD⟩
      · rintro D j H' hj ⟨us, i, hul, hus, hi, O⟩
        walk_at "z"
        refine iteT ?_
        walk_at "z"
        refine nxt (lim := 256) O 1 rfl hi hd hds (by decide) fun n3 H1 h30 h31 O => ?_
        refine g_lcPut O 0 rfl (small_of (by rw [List.length_map]; omega)) fun H3 O => ?_
        refine ⟨us ++ [n3], i + 1, by rw [List.length_append, hul]; rfl, ?_, by omega, ?_⟩
        · intro u hu
          rcases List.mem_append.mp hu with hu | hu
          · exact hus u hu
          · rw [List.mem_singleton.mp hu]; exact h30
        rw [List.map_append]
        exact O
      rintro D H3 nD ⟨us, i, hul, hus, hi, O⟩
      have hul : us.length ≤ 59 := by omega
      have hlm : (List.map V.int us).length = us.length := List.length_map ..
      walk_at "z"
      refine g_lenL (O.lst 0) ?_
      walk_at "z"
      refine ⟨fun σ H' => σ = [some (.ref s), some (.ref p), some (.ref l1), some (.ref l2), some (.int pick), some (limV lim), some (.ref D), some (.int (limN us.length lim)), none, none, none, none, none] ∧ Own B ((D, .lst (us.map V.int)) :: dcells T.a_File s d p a b dx i las ws cs) H', ?_, ?_⟩
      · cases lim with
        | none =>
          dsimp only [limV]
          walk_at "z"
          refine ite_nd (fun h => absurd rfl h) (fun _ => ?_)
          walk_at "z"
          refine ⟨?_, O⟩
          rw [hlm]
          rfl
        | some m =>
          have h0 := hlim m rfl
          dsimp only [limV]
          walk_at "z"
          refine ite_nd (fun h => ?_) (fun h => nomatch h)
          walk_at "z"
          refine ⟨?_, O⟩
          rw [hlm]
          have e : min ((us.length : Nat) : Int) m = ((min m.toNat us.length : Nat) : Int) := by omega
          rw [e]
          rfl
      rintro σ H4 ⟨rfl, O⟩
      walk_at "z"
      refine g_listL (O.lst 0) (g_newQ O fun pa H5 npa O => ?_)
      walk_at "z"
      refine g_methK (O.get 3) (fl_n a b (by decide +kernel) (by decide +kernel)) ?_
      walk_at "z"
      have hws := tds_len hT
      rw [List.length_map] at hws
      refine ⟨p, a, b, pa, dx, us, ws, lim, rfl, O.get 3, O.get 5, O.lst 0, O.ne 0 5 rfl rfl (by decide), hlim, by omega, fun ws' H6 e6 h6 hT6 => ?_⟩
      have O := O.mut 5 rfl e6 h6
      obtain ⟨B', eB, O, tup⟩ : ∃ B', Same B B' ∧ Own B' _ H6 ∧ Tup H6 B' := ⟨tupsOf H6 B, tupsOf_same O.fr, O.tups ((nt.dcells.cons (by simp)).cons (by simp)), tupsOf_tup⟩
      have hT6 := tds_tup tup hT6
      have hT := tds_ex eB hT
      have hT2 := tds_ex eB hT2
      have hd := eB _ _ hd
      have h1 := eB _ _ h1
      have h2 := eB _ _ h2
      walk_at "z"
      have hsh : SeqAt.shaped (.list (us.map PyData.int)) = true := shaped_ints us
      refine g_neD (.lst (O.lst 0) (dps_int us)) (.lst (O.lst 1) (dps_int us)) hsh hsh ?_
      rw [eqv_ints]
      walk_at "z"
      refine iteF ?_
      walk_at "z"
      refine g_tyL (O.lst 0) ?_
      walk_at "z"
      refine g_insert O 0 rfl (small_of (by omega)) (by decide) (by decide) fun H7 O => ?_
      walk_at "z"
      refine g_tyL (O.lst 0) ?_
      walk_at "z"
      refine g_append O 0 rfl (small_of (by simp; omega)) fun H8 O => ?_
      walk_at "z"
      refine ⟨_, _, .int (limN us.length lim), .int (limN us.length lim), rfl, .int _, .int _, .int, fun c H9 hc e9 => ?_⟩
      have hc : c = true := hc.mpr rfl
      subst hc
      have O := O.ex e9
      walk_at "z"
      refine g_slL (O.lst 1) (g_newQ O fun t H10 nt10 O => ?_)
      rw [cutI] at O
      refine g_iListv (O.lst 0) ?_
      refine lcB_list ((us.take (limN us.length lim)).map V.int) (fun Dl j H' => ∃ (B2 : Hp) (xs : List V), Same B' B2 ∧ Own B2 ((Dl, .lst xs) :: (t, .lst ((us.take (limN us.length lim)).map V.int)) :: dcells T.a_File s d p a b dx i las (ws ++ ws') cs) H' ∧ TdAll B2 xs ((us.take j).map fun n => encL (true, n))) ?_ ?_ ?_ ?_
      · intro Dl hD
        exact ⟨_, [], Same.refl _, (O.alloc hD).sub (((((List.Sublist.refl _).cons _).cons _).cons_cons _).cons_cons _), .nil⟩
      · rintro Dl j H' hj ⟨B2, xs, e, O, hT⟩
        exact O.lst 1
      · rintro Dl j x H' hj ⟨B2, xs, e, O, hTx⟩
        obtain ⟨n, en, rfl⟩ := map_get hj
        have hl := tds_len hTx
        rw [List.length_map, List.length_take] at hl
        walk_at "z"
        refine iteT ?_
        walk_at "z"
        refine g_new (small_le (by simp)) O fun t2 H2 nt2 O => ?_
        refine g_lcPut O 1 rfl (small_of (by omega)) fun H3 O => ?_
        refine ⟨upd B2 t2 (.tup [.int 0, .int n]), xs ++ [V.ref t2], e.trans O.freezeB, O.freeze, ?_⟩
        have en2 : us[j]? = some n := by
          rw [List.getElem?_take] at en
          split at en
          · exact en
          · cases en
        rw [List.take_add_one, en2, List.map_append]
        exact tds_app (tds_ex O.freezeB hTx) (.cons (.tup upd_same (.cons (.int _) (.cons (.int _) .nil))) .nil)
      rintro Dl H11 nDl ⟨B2, xs, e, O, hTx⟩
      have e2 : min (limN us.length lim) us.length = limN us.length lim := by
        unfold limN
        cases lim <;> simp
      rw [List.length_map, List.length_take, e2] at hTx
      have hl2 := tds_len hT2
      rw [List.length_map] at hl2
      have hlx := tds_len hTx
      rw [List.length_map, List.length_take] at hlx
      refine g_addL (O.fr _ _ (e _ _ h2)) (O.get 0) (small_le (by omega)) (g_newQ O fun l2' H12 nl2 O => ?_)
      walk_at "z"
      refine g_new (small_le (by simp)) O fun r H13 nr O => ?_
      walk_at "z"
      have O2 := (O.swap).freeze
      have eF := (O.swap).freezeB
      refine q _ H13 r i a b las (ws ++ ws') (st ++ (us.take (limN us.length lim)).map fun n => (true, n)) l1 l2' (ws2 ++ xs) ((eB.trans e).trans eF) (O2.sub ((((List.Sublist.refl _).cons _).cons _).cons _)) hi ?_ ?_ (eF _ _ (e _ _ h1)) upd_same ?_ ?_ (O.get 0)
      · rw [List.map_append, List.map_map]
        exact tds_app (tds_ex eF (tds_ex e hT)) (tds_ex eF (tds_ex e hT6))
      · refine hp.app fun x hx => ?_
        obtain ⟨n, hn, rfl⟩ := List.mem_map.mp hx
        exact hus n (List.mem_of_mem_take hn)
      · rw [List.map_append, List.map_map]
        exact tds_app (tds_ex eF (tds_ex e hT2)) (tds_ex eF hTx)
      · rw [List.length_append, List.length_map, List.length_take]
        omega
    walk_at "z"
    refine ite_d (fun _ => ?_) (fun _ => ?_)
    · -- it is shortened
      walk_at "z"
      refine ⟨l1, l2, las, ws2, st, rfl, .inl (.inl (O.fr _ _ h1)), .inl (.inl (O.fr _ _ h2)), tds_ex O.fr hT2, hp, by omega, fun c H3 e3 nc hc => ?_⟩
      have O := O.new e3 nc hc
      have hl := applied_len las st
      walk_at "z"
      refine g_lenL (O.lst 0) ?_
      walk_at "z"
      refine nxt O 1 rfl (by omega) hd hds (by rw [List.length_map]; omega) fun n H4 h0 _ O => ?_
      walk_at "z"
      refine g_methK (O.get 2) (fl_n a b (by decide +kernel) (by decide +kernel)) ?_
      walk_at "z"
      have hws := tds_len hT
      rw [List.length_map] at hws
      have hws2 := tds_len hT2
      rw [List.length_map] at hws2
      refine ⟨p, a, b, dx, n, ws, lim, rfl, O.get 2, O.get 4, by omega, fun e0 => ?_, fun e0 w H5 e5 h5 hw => ?_⟩
      · subst e0
        dsimp only [limV]
        walk_at "z"
        refine iteT ?_
        walk_at "z"
        refine ⟨_, _, .int 0, .int 0, rfl, .int _, .int _, .int, fun c H9 hc e9 => ?_⟩
        obtain rfl : c = true := hc.mpr rfl
        have O := O.ex e9
        walk_at "z"
        refine g_new (small_le (by simp)) O fun r H13 nr O => ?_
        exact q B H13 r _ a b las ws st l1 l2 ws2 (Same.refl _) (O.tail.tail) (by omega) hT hp h1 h2 hT2 (by omega) (O.get 0)
      · have O := O.mut 4 rfl e5 h5
        obtain ⟨B', eB, O, tup⟩ : ∃ B', Same B B' ∧ Own B' _ H5 ∧ Tup H5 B' := ⟨tupsOf H5 B, tupsOf_same O.fr, O.tups (nt.dcells.cons (by simp)), tupsOf_tup⟩
        have hw := td_tup tup hw
        have fin : ∀ H6, Own B' ((c, .lst ((applied las st).map V.int)) :: dcells T.a_File s d p a b dx (i + 1) las (ws ++ [w]) cs) H6 → tRet (tLst (tCons (tCall (sp__law_same 12 K) [] E0 (tCons (tVar 9) (tCons (tC (.int 1)) tNil))) (tCons (tVar 2) (tCons (tOp (rAddU K) (tVar 3) (tLst (tCons (tTup (tCons (tC (.int 1)) (tCons (tVar 10) tNil))) tNil))) tNil)))) { nx := fun _ H' => Q .non H', rt := Q } [some (.ref s), some (.ref p), some (.ref l1), some (.ref l2), some (.int pick), some (limV lim), none, none, none, some (.int 1), some (.int n), none, none] H6 := by
          intro H6 O
          walk_at "z"
          refine ⟨_, _, .int 1, .int 1, rfl, .int _, .int _, .int, fun c H9 hc e9 => ?_⟩
          obtain rfl : c = true := hc.mpr rfl
          have O := O.ex e9
          walk_at "z"
          refine g_new (small_le (by simp)) O fun t2 H10 nt2 O => ?_
          walk_at "z"
          have eF := O.freezeB
          have hb2 : Td (upd B' t2 (.tup [.int 1, .int n])) (.ref t2) (encL (false, n)) := .tup upd_same (.cons (.int _) (.cons (.int _) .nil))
          have O := O.freeze
          refine g_new (small_le (by simp)) O fun m H11 nm O => ?_
          refine g_addL (O.fr _ _ (eF _ _ (eB _ _ h2))) (O.get 0) (small_le (by show ws2.length + 1 ≤ _; omega)) (g_newQ O fun l2' H12 nl2 O => ?_)
          walk_at "z"
          refine g_new (small_le (by simp)) O fun r H13 nr O => ?_
          have O2 := (O.swap).freeze
          have eG := (O.swap).freezeB
          refine q _ H13 r (i + 1) a b las (ws ++ [w]) (st ++ [(false, n)]) l1 l2' (ws2 ++ [V.ref t2]) ((eB.trans eF).trans eG) (O2.sub ((((List.Sublist.refl _).cons _).cons _).cons _)) (by omega) ?_ ?_ (eG _ _ (eF _ _ (eB _ _ h1))) upd_same ?_ ?_ (O.get 0)
          · rw [List.map_append]
            exact tds_app (tds_ex eG (tds_ex eF (tds_ex eB hT))) (.cons (td_ex eG (td_ex eF hw)) .nil)
          · refine hp.app fun x hx => ?_
            rw [List.mem_singleton.mp hx]
            exact h0
          · rw [List.map_append]
            exact tds_app (tds_ex eG (tds_ex eF (tds_ex eB hT2))) (.cons (td_ex eG hb2) .nil)
          · rw [List.length_append]
            show _ + (_ + 1) ≤ _
            omega
        walk_at "z"
        cases lim with
        | none =>
          dsimp only [limV]
          walk_at "z"
          refine iteF ?_
          exact fin H5 O
        | some m =>
          dsimp only [limV]
          walk_at "z"
          refine ite_d (fun h => absurd (by rw [h]) e0) (fun _ => ?_)
          exact fin H5 O
    walk_at "z"
    refine ite_d (fun _ => ?_) (fun _ => ?_)
    · -- it is flushed
      walk_at "z"
      refine g_methK (O.get 1) (fl_n a b (by decide +kernel) (by decide +kernel)) ?_
      walk_at "z"
      have hl := applied_len las st
      refine ⟨p, a, b, dx, lim, las, ws, st, rfl, O.get 1, O.lst 2, O.get 3, tds_ex O.fr hT, hp, by omega, fun e0 => ?_, fun e0 a' b' H5 O5 => ?_⟩
      · subst e0
        dsimp only [limV]
        walk_at "z"
        refine iteT ?_
        walk_at "z"
        refine ⟨_, _, .int 0, .int 0, rfl, .int _, .int _, .int, fun c H9 hc e9 => ?_⟩
        obtain rfl : c = true := hc.mpr rfl
        have O := O.ex e9
        walk_at "z"
        refine g_new (small_le (by simp)) O fun r H13 nr O => ?_
        exact q B H13 r _ a b las ws st l1 l2 ws2 (Same.refl _) O.tail (by omega) hT hp h1 h2 hT2 (by omega) (O.get 0)
      · have O := own_afterLose O O5
        have fin : ∀ H6, Own B (dcells T.a_File s d p a' b' dx i (applied las st) [] cs) H6 → tRet (tLst (tCons (tCall (sp__law_same 12 K) [] E0 (tCons (tVar 9) (tCons (tC (.int 1)) tNil))) (tCons (tCall (sp__law_after K) [] E0 (tCons (tVar 2) (tCons (tVar 3) tNil))) (tCons (tLst tNil) tNil)))) { nx := fun _ H' => Q .non H', rt := Q } [some (.ref s), some (.ref p), some (.ref l1), some (.ref l2), some (.int pick), some (limV lim), none, none, none, some (.int 1), none, none, none] H6 := by
          intro H6 O
          walk_at "z"
          refine ⟨_, _, .int 1, .int 1, rfl, .int _, .int _, .int, fun c H9 hc e9 => ?_⟩
          obtain rfl : c = true := hc.mpr rfl
          have O := O.ex e9
          walk_at "z"
          refine ⟨l1, l2, las, ws2, st, rfl, .inl (.inl (O.fr _ _ h1)), .inl (.inl (O.fr _ _ h2)), tds_ex O.fr hT2, hp, by omega, fun l1' H7 e7 nl1 hl1 => ?_⟩
          have O := (O.new e7 nl1 hl1)
          have eF := O.freezeB
          have O := O.freeze
          walk_at "z"
          refine g_new (Nat.zero_le _) O fun l2' H8 nl2 O => ?_
          walk_at "z"
          have eG := O.freezeB
          have O := O.freeze
          refine g_new (small_le (by simp)) O fun r H13 nr O => ?_
          exact q _ H13 r i a' b' (applied las st) [] [] l1' l2' [] (eF.trans eG) O.tail hi .nil (fun _ h => nomatch h) (eG _ _ upd_same) upd_same .nil (by show _ + 0 ≤ _; omega) (O.get 0)
        walk_at "z"
        cases lim with
        | none =>
          dsimp only [limV]
          walk_at "z"
          refine iteF ?_
          exact fin H5 O
        | some m =>
          dsimp only [limV]
          walk_at "z"
          refine ite_d (fun h => absurd (by rw [h]) e0) (fun _ => ?_)
          exact fin H5 O
    · -- power fails
      walk_at "z"
      have hws2 := tds_len hT2
      rw [List.length_map] at hws2
      refine g_lenL (.inl (.inl (O.fr _ _ h2))) ?_
      walk_at "z"
      refine nxt O 0 rfl hi hd hds (by omega) fun n H4 h0 _ O => ?_
      walk_at "z"
      refine g_methK (O.get 1) (fl_n a b (by decide +kernel) (by decide +kernel)) ?_
      walk_at "z"
      have hl := applied_len las (st.take n.toNat)
      rw [List.length_take] at hl
      refine ⟨p, a, b, dx, n, las, ws, st, rfl, h0, O.get 1, O.lst 2, O.get 3, tds_ex O.fr hT, hp, by omega, fun a' b' H5 O5 => ?_⟩
      have O := own_afterLose O O5
      walk_at "z"
      refine g_slL (.inl (.inl (O.fr _ _ h2))) (g_newQ O fun c H6 nc O => ?_)
      rw [cut_take h0] at O
      walk_at "z"
      refine ⟨l1, c, las, ws2.take n.toNat, st.take n.toNat, rfl, .inl (.inl (O.fr _ _ h1)), O.lst 0, by rw [List.map_take]; exact tds_take _ (tds_ex O.fr hT2), hp.take _, by rw [List.length_take]; omega, fun l1' H7 e7 nl1 hl1 => ?_⟩
      have O := (O.new e7 nl1 hl1)
      have eF := O.freezeB
      have O := O.freeze
      walk_at "z"
      refine g_new (Nat.zero_le _) O fun l2' H8 nl2 O => ?_
      walk_at "z"
      have eG := O.freezeB
      have O := O.freeze
      refine g_new (small_le (by simp)) O fun r H13 nr O => ?_
      exact q _ H13 r (i + 1) a' b' (applied las (st.take n.toNat)) [] [] l1' l2' [] (eF.trans eG) O.tail.tail (by omega) .nil (fun _ h => nomatch h) (eG _ _ upd_same) upd_same .nil (by show _ + 0 ≤ _; omega) (O.get 0)

abbrev rest6 (C p2 a2 b2 dx2 p3 a3 b3 dx3 : Addr) (w3 : List V) : List (Addr × HO) :=
  [(p3, .ins C dx3 (fl a3 b3)), (a3, .lst (([1, 2] : List Int).map V.int)), (b3, .lst w3), (p2, .ins C dx2 (fl a2 b2)), (a2, .lst []), (b2, .lst [])]
theorem nt_rest6 {C p2 a2 b2 dx2 p3 a3 b3 dx3 : Addr} {w3 : List V} : NoTup (rest6 C p2 a2 b2 dx2 p3 a3 b3 dx3 w3) := by
  intro c hc xs
  simp only [rest6, List.mem_cons, List.not_mem_nil, or_false] at hc
  rcases hc with rfl | rfl | rfl | rfl | rfl | rfl <;> simp
def linv (C a0 s d : Addr) (ds : List Int) (m : Nat) (σ : L2.St) (H : Hp) : Prop :=
  ∃ (B : Hp) (i : Int) (p a b dx p2 a2 b2 dx2 p3 a3 b3 dx3 : Addr) (las : List Int) (ws : List V) (st : List (Bool × Int)) (l1 l2 : Addr) (ws2 w3 : List V) (y7 y8 : Option V),
    σ = [some (.ref a0), some (.ref s), some (.ref p), some (.ref l1), some (.ref l2), some (.ref p2), some (.ref p3), y7, y8] ∧ Own B (dcells C s d p a b dx i las ws (rest6 C p2 a2 b2 dx2 p3 a3 b3 dx3 w3)) H ∧
    0 ≤ i ∧ B d = some (.lst (ds.map V.int)) ∧ TdAll B ws (st.map encF) ∧ Pos st ∧ B l1 = some (.lst (las.map V.int)) ∧ B l2 = some (.lst ws2) ∧ TdAll B ws2 (st.map encL) ∧ las.length + st.length ≤ 60 * m ∧ TdAll B w3 [encF (true, 3)]

def sp_law (K : PySem.W.Frag) : Sp := fun vs H Q _ => ∃ (a : Addr) (ns : List Int), vs = [.ref a] ∧ SqL K H a (ns.map V.int) ∧ ns.length ≤ 63 ∧ ∀ H', Q (.bl true) H'

theorem ok_law (T : Txt K mg) : FnOk P w K mg base CX0 15 T.a_law T.d_law P_law (sp_law K) := by
  refine T.F_law.ok sc_law (fun vs H Q E h => ?_) (fun cdv A outer s H vs Q E hr h => ?_)
  · obtain ⟨a, ns, rfl, _⟩ := h
    rfl
  · obtain ⟨a0, ns, rfl, hS, hlen, q⟩ := h
    refine ⟨_, (pss_cons (ps_set (i := 1) sc_law.nd rfl (Or.inl rfl) (pe_lst (pa_cons (pe_call (ok__law_draws T) (hr.mono (by omega)) (by rfl) T.g__law_draws T.F__law_draws.kp T.b__law_draws .nil pass0 (pa_cons (pv 0) pa_nil)) (pa_cons pe_int pa_nil))))
        (pss_cons (ps_set (i := 2) sc_law.nd rfl (Or.inl rfl) (pe_make0 T.M_File (ok_File___init__ T) (hr.mono (by omega)) (by rfl) T.g_File T.b_File___init__ .nil pass0))
        (pss_cons (ps_set (i := 3) sc_law.nd rfl (Or.inl rfl) (pe_lst pa_nil))
        (pss_cons (ps_set (i := 4) sc_law.nd rfl (Or.inl rfl) (pe_lst pa_nil))
        (pss_cons (ps_set (i := 5) sc_law.nd rfl (Or.inl rfl) (pe_make0 T.M_File (ok_File___init__ T) (hr.mono (by omega)) (by rfl) T.g_File T.b_File___init__ .nil pass0))
        (pss_cons (ps_set (i := 6) sc_law.nd rfl (Or.inl rfl) (pe_make0 T.M_File (ok_File___init__ T) (hr.mono (by omega)) (by rfl) T.g_File T.b_File___init__ .nil pass0))
        (pss_cons (ps_expr (pe_meth (pv 6) T.cl_File T.m_File_write (ok_File_write T) (hr.mono (by omega)) T.b_File_write .nil pass0 (pa_cons (pe_lst (pa_cons pe_int (pa_cons pe_int pa_nil))) (pa_cons pe_non pa_nil))))
        (pss_cons (ps_expr (pe_meth (pv 6) T.cl_File T.m_File_flush (ok_File_flush T) (hr.mono (by omega)) T.b_File_flush .nil pass0 (pa_cons pe_non pa_nil)))
        (pss_cons (ps_expr (pe_meth (pv 6) T.cl_File T.m_File_write (ok_File_write T) (hr.mono (by omega)) T.b_File_write .nil pass0 (pa_cons (pe_lst (pa_cons pe_int pa_nil)) (pa_cons pe_non pa_nil))))
        (pss_cons (ps_for PassesOwn.never rfl (pi_range1 (by rfl) T.z_range (pa_cons (pe_call (ok__law_next T) (hr.mono (by omega)) (by rfl) T.g__law_next T.F__law_next.kp T.b__law_next .nil pass0 (pa_cons (pv 1) (pa_cons pe_int pa_nil))) pa_nil)) (pg_name (i := 7) sc_law.nd rfl (Or.inl rfl))
          (Evl.pss_cut (ps_if (pt_cmpR (op_eqU (hu64 hr)) (pe_call (ok__law_next T) (hr.mono (by omega)) (by rfl) T.g__law_next T.F__law_next.kp T.b__law_next .nil pass0 (pa_cons (pv 1) (pa_cons pe_int pa_nil))) pe_int (nomark _))
          (pss_cons (ps_expr (pe_meth (pv 5) T.cl_File T.m_File_write (ok_File_write T) (hr.mono (by omega)) T.b_File_write .nil pass0 (pa_cons (pe_lst (pa_cons (pv 7) (pa_cons (pe_op op_addU (pv 7) pe_int) (pa_cons (pe_op op_addU (pv 7) pe_int) pa_nil)))) (pa_cons pe_non pa_nil))))
        (pss_cons (ps_if (PW.pt (pw_or (pt_not (pt_val (pe_call (ok__law_same T) (hr.mono (by omega)) (by rfl) T.g__law_same T.F__law_same.kp T.b__law_same .nil pass0 (pa_cons (pe_meth0 (pv 5) T.cl_File T.m_File_content (ok_File_content T) (hr.mono (by omega)) T.b_File_content .nil pass0) (pa_cons (pe_lst (pa_cons (pv 7) (pa_cons (pe_op op_addU (pv 7) pe_int) (pa_cons (pe_op op_addU (pv 7) pe_int) pa_nil)))) pa_nil))))) (pw_or1 (pt_not (pt_val (pe_call (ok__law_same T) (hr.mono (by omega)) (by rfl) T.g__law_same T.F__law_same.kp T.b__law_same .nil pass0 (pa_cons (pe_meth0 (pv 5) T.cl_File T.m_File_pending (ok_File_pending T) (hr.mono (by omega)) T.b_File_pending .nil pass0) (pa_cons pe_int pa_nil))))))))
          (pss_one (ps_ret pe_bl))
          pss_nil)
        (pss_cons (ps_set (i := 5) sc_law.nd rfl (Or.inl rfl) (pe_make0 T.M_File (ok_File___init__ T) (hr.mono (by omega)) (by rfl) T.g_File T.b_File___init__ .nil pass0))
        (pss_one (ps_if (PW.pt (pw_or (pt_cmpR (op_neU (hu64 hr)) (pe_meth0 (pv 5) T.cl_File T.m_File_content (ok_File_content T) (hr.mono (by omega)) T.b_File_content .nil pass0) (pe_lst pa_nil) (nomark _)) (pw_or1 (pt_not (pt_val (pe_call (ok__law_same T) (hr.mono (by omega)) (by rfl) T.g__law_same T.F__law_same.kp T.b__law_same .nil pass0 (pa_cons (pe_meth0 (pv 5) T.cl_File T.m_File_pending (ok_File_pending T) (hr.mono (by omega)) T.b_File_pending .nil pass0) (pa_cons pe_int pa_nil))))))))
          (pss_one (ps_ret pe_bl))
          pss_nil)))))
          pss_nil)
        (pss_cons (ps_asg (pe_call (ok__law_deed T) (hr.mono (by omega)) (by rfl) T.g__law_deed T.F__law_deed.kp T.b__law_deed .nil pass0 (pa_cons (pv 1) (pa_cons (pv 2) (pa_cons (pv 3) (pa_cons (pv 4) pa_nil))))) (pg_lst rfl (pgs_cons (pg_name (i := 8) sc_law.nd rfl (Or.inl rfl)) (pgs_cons (pg_name (i := 3) sc_law.nd rfl (Or.inl rfl)) (pgs_cons (pg_name (i := 4) sc_law.nd rfl (Or.inl rfl)) pgs_nil)))))
        (pss_cons (ps_if (PW.pt (pw_or (pt_not (pt_tr (by intro _; rfl) (pv 8))) (pw_or1 (pt_not (pt_val (pe_call (ok__law_same T) (hr.mono (by omega)) (by rfl) T.g__law_same T.F__law_same.kp T.b__law_same .nil pass0 (pa_cons (pe_meth0 (pv 2) T.cl_File T.m_File_content (ok_File_content T) (hr.mono (by omega)) T.b_File_content .nil pass0) (pa_cons (pe_call (ok__law_after T) (hr.mono (by omega)) (by rfl) T.g__law_after T.F__law_after.kp T.b__law_after .nil pass0 (pa_cons (pv 3) (pa_cons (pv 4) pa_nil))) pa_nil))))))))
          (pss_one (ps_ret pe_bl))
          pss_nil)
        (pss_cons (ps_if (pt_not (pt_val (pe_call (ok__law_same T) (hr.mono (by omega)) (by rfl) T.g__law_same T.F__law_same.kp T.b__law_same .nil pass0 (pa_cons (pe_meth0 (pv 2) T.cl_File T.m_File_pending (ok_File_pending T) (hr.mono (by omega)) T.b_File_pending .nil pass0) (pa_cons (pe_callB call_lenU (by rfl) T.z_len PySem.boot_len (pa_cons (pv 4) pa_nil)) pa_nil)))))
          (pss_one (ps_ret pe_bl))
          pss_nil)
        (pss_cons (ps_expr (pe_bm PySem.F.plainAttrs_list PySem.F.slot_list_append PySem.F.type_list_append mt_append (pe_meth0 (pv 2) T.cl_File T.m_File_content (ok_File_content T) (hr.mono (by omega)) T.b_File_content .nil pass0) (pa_cons pe_int pa_nil)))
        (pss_one (ps_if (PW.pt (pw_and (pt_cmpR (op_eqU (hu64 hr)) (pe_call (ok__law_next T) (hr.mono (by omega)) (by rfl) T.g__law_next T.F__law_next.kp T.b__law_next .nil pass0 (pa_cons (pv 1) (pa_cons pe_int pa_nil))) pe_int (nomark _)) (pw_and1 (pt_not (pt_val (pe_call (ok__law_same T) (hr.mono (by omega)) (by rfl) T.g__law_same T.F__law_same.kp T.b__law_same .nil pass0 (pa_cons (pe_meth0 (pv 2) T.cl_File T.m_File_content (ok_File_content T) (hr.mono (by omega)) T.b_File_content .nil pass0) (pa_cons (pe_call (ok__law_after T) (hr.mono (by omega)) (by rfl) T.g__law_after T.F__law_after.kp T.b__law_after .nil pass0 (pa_cons (pv 3) (pa_cons (pv 4) pa_nil))) pa_nil))))))))
          (pss_one (ps_ret pe_bl))
          pss_nil))))))))
        (pss_cons (ps_expr (pe_meth (pv 2) T.cl_File T.m_File_lose (ok_File_lose T) (hr.mono (by omega)) T.b_File_lose .nil pass0 (pa_cons pe_int pa_nil)))
        (pss_cons (ps_if (PW.pt (pw_or (pt_not (pt_val (pe_call (ok__law_same T) (hr.mono (by omega)) (by rfl) T.g__law_same T.F__law_same.kp T.b__law_same .nil pass0 (pa_cons (pe_meth0 (pv 6) T.cl_File T.m_File_content (ok_File_content T) (hr.mono (by omega)) T.b_File_content .nil pass0) (pa_cons (pe_lst (pa_cons pe_int (pa_cons pe_int (pa_cons pe_int pa_nil)))) pa_nil))))) (pw_or1 (pt_not (pt_val (pe_call (ok__law_same T) (hr.mono (by omega)) (by rfl) T.g__law_same T.F__law_same.kp T.b__law_same .nil pass0 (pa_cons (pe_meth0 (pv 6) T.cl_File T.m_File_pending (ok_File_pending T) (hr.mono (by omega)) T.b_File_pending .nil pass0) (pa_cons pe_int pa_nil))))))))
          (pss_one (ps_ret pe_bl))
          pss_nil)
        (pss_one (ps_ret (pe_and (pe_call (ok__law_same T) (hr.mono (by omega)) (by rfl) T.g__law_same T.F__law_same.kp T.b__law_same .nil pass0 (pa_cons (pe_meth0 (pv 2) T.cl_File T.m_File_content (ok_File_content T) (hr.mono (by omega)) T.b_File_content .nil pass0) (pa_cons (pv 3) pa_nil))) (pe_one (pe_call (ok__law_same T) (hr.mono (by omega)) (by rfl) T.g__law_same T.F__law_same.kp T.b__law_same .nil pass0 (pa_cons (pe_meth0 (pv 2) T.cl_File T.m_File_pending (ok_File_pending T) (hr.mono (by omega)) T.b_File_pending .nil pass0) (pa_cons pe_int pa_nil))))))))))))))))))), ?_⟩
    walk_at "z"
    refine ⟨a0, ns, rfl, hS, fun d H1 ds e1 nd hd hds => ?_⟩
    have O := ((Own.start H).new e1 nd hd).freeze
    generalize hB : upd H d (.lst (ds.map V.int)) = B at O
    have hd : B d = some (.lst (ds.map V.int)) := by rw [← hB]; exact upd_same
    clear hB
    walk_at "z"
    refine g_new (small_le (by simp)) O fun s H2 ns2 O => ?_
    walk_at "z"
    refine g_makeK O fun p dx H3 np O => ?_
    refine ⟨p, dx, rfl, O.get 0, fun a b H4 O4 => ⟨rfl, ?_⟩⟩
    have O := own_init O O4
    walk_at "z"
    refine g_new (Nat.zero_le _) O fun l1 H5 nl1 O => ?_
    have e1 := O.freezeB
    have hl1 : upd B l1 (.lst []) l1 = some (.lst (([] : List Int).map V.int)) := upd_same
    have O := O.freeze
    have hd := e1 _ _ hd
    generalize upd B l1 (.lst []) = B at O hd hl1
    walk_at "z"
    refine g_new (Nat.zero_le _) O fun l2 H6 nl2 O => ?_
    have e1 := O.freezeB
    have hl2 : upd B l2 (.lst []) l2 = some (.lst []) := upd_same
    have O := O.freeze
    have hd := e1 _ _ hd
    have hl1 := e1 _ _ hl1
    generalize upd B l2 (.lst []) = B at O hd hl1 hl2
    walk_at "z"
    refine g_makeK O fun p2 dx2 H7 np2 O => ?_
    refine ⟨p2, dx2, rfl, O.get 0, fun a2 b2 H8 O4 => ⟨rfl, ?_⟩⟩
    have O := own_init O O4
    walk_at "z"
    refine g_makeK O fun p3 dx3 H9 np3 O => ?_
    refine ⟨p3, dx3, rfl, O.get 0, fun a3 b3 H10 O4 => ⟨rfl, ?_⟩⟩
    have O := own_init O O4
    walk_at "z"
    refine g_methK (O.get 0) (fl_n a3 b3 (by decide +kernel) (by decide +kernel)) ?_
    walk_at "z"
    refine g_new (small_le (by simp)) O fun t H11 nt O => ?_
    walk_at "z"
    refine ⟨p3, a3, b3, t, dx3, [1, 2], [], none, rfl, O.get 1, O.get 3, O.lst 0, O.ne 0 3 rfl rfl (by decide), (fun n e => nomatch e), by simp, fun w H12 e12 h12 hw => ?_⟩
    have O := O.mut 3 rfl e12 h12
    obtain ⟨B, eB, O, tup⟩ : ∃ B', Same B B' ∧ Own B' _ H12 ∧ Tup H12 B' := ⟨tupsOf H12 B, tupsOf_same O.fr, O.tups (by intro c hc xs; simp only [List.set_cons_succ, List.set_cons_zero, List.mem_cons, List.not_mem_nil, or_false] at hc; rcases hc with rfl | rfl | rfl | rfl | rfl | rfl | rfl | rfl | rfl | rfl | rfl <;> simp), tupsOf_tup⟩
    have hd := eB _ _ hd
    have hl1 := eB _ _ hl1
    have hl2 := eB _ _ hl2
    have hw := tds_tup tup hw
    walk_at "z"
    refine g_methK (O.get 1) (fl_n a3 b3 (by decide +kernel) (by decide +kernel)) ?_
    walk_at "z"
    refine ⟨p3, a3, b3, dx3, none, [], [] ++ w, [(true, 1), (true, 2)], rfl, O.get 1, O.lst 2, O.get 3, tds_ex O.fr hw, (by intro x hx; simp at hx; rcases hx with rfl | rfl <;> decide), by simp, (fun e => nomatch e), fun _ a3 b3 H13 O5 => ?_⟩
    have O := own_afterLose O O5
    walk_at "z"
    refine g_methK (O.get 1) (fl_n a3 b3 (by decide +kernel) (by decide +kernel)) ?_
    walk_at "z"
    refine g_new (small_le (by simp)) O fun t2 H14 nt2 O => ?_
    walk_at "z"
    refine ⟨p3, a3, b3, t2, dx3, [3], [], none, rfl, O.get 2, O.get 4, O.lst 0, O.ne 0 4 rfl rfl (by decide), (fun n e => nomatch e), by simp, fun w3 H15 e15 h15 hw3 => ?_⟩
    have O := O.mut 4 rfl e15 h15
    obtain ⟨B, eB, O, tup⟩ : ∃ B', Same B B' ∧ Own B' _ H15 ∧ Tup H15 B' := ⟨tupsOf H15 B, tupsOf_same O.fr, O.tups (by intro c hc xs; simp only [List.set_cons_succ, List.set_cons_zero, List.mem_cons, List.not_mem_nil, or_false] at hc; rcases hc with rfl | rfl | rfl | rfl | rfl | rfl | rfl | rfl | rfl | rfl | rfl | rfl <;> simp), tupsOf_tup⟩
    have hd := eB _ _ hd
    have hl1 := eB _ _ hl1
    have hl2 := eB _ _ hl2
    have hw3 := tds_tup tup hw3
    have O := (O.tail.tail.rot 9).rotT 6
    walk_at "z"
    refine nxt O 0 rfl (by decide) hd hds (by decide) fun n H16 hn0 hn1 O => ?_
    walk_at "z"
    refine forB_rng0 (fun m σ H' => linv T.a_File a0 s d ds m σ H') ?_ ?_ ?_
    · exact ⟨B, _, p, a, b, dx, p2, a2, b2, dx2, p3, a3, b3, dx3, [], [], [], l1, l2, [], w3, none, none, rfl, O, by decide, hd, .nil, (fun _ h => nomatch h), hl1, hl2, .nil, by simp, hw3⟩
    · rintro m σ H17 hm ⟨B, i, p, a, b, dx, p2, a2, b2, dx2, p3, a3, b3, dx3, las, ws, st, l1, l2, ws2, w3, y7, y8, rfl, O, hi, hd, hT, hp, h1, h2, hT2, hz, hw3⟩
      walk_at "z"
      refine ⟨fun σ H' => linv T.a_File a0 s d ds m σ H', ?_, ?_⟩
      · walk_at "z"
        refine nxt O 0 rfl hi hd hds (by decide) fun n H18 _ _ O => ?_
        walk_at "z"
        refine ite_d (fun _ => ?_) (fun _ => ?_)
        · walk_at "z"
          refine g_methK (O.get 7) (fl_n a2 b2 (by decide +kernel) (by decide +kernel)) ?_
          walk_at "z"
          refine g_new (small_le (by simp)) O fun t H19 nt O => ?_
          walk_at "z"
          refine ⟨p2, a2, b2, t, dx2, [(m : Int), (m : Int) + 1, (m : Int) + 2], [], none, rfl, O.get 8, O.get 10, O.lst 0, O.ne 0 10 rfl rfl (by decide), (fun n e => nomatch e), by simp, fun w2 H20 e20 h20 hw2 => ?_⟩
          have O := O.mut 10 rfl e20 h20
          obtain ⟨B', eB, O, tup⟩ : ∃ B', Same B B' ∧ Own B' _ H20 ∧ Tup H20 B' := ⟨tupsOf H20 B, tupsOf_same O.fr, O.tups (by
            intro c hc xs
            simp only [List.set_cons_succ, List.set_cons_zero, List.mem_cons, List.not_mem_nil, or_false] at hc
            rcases hc with rfl | rfl | rfl | rfl | rfl | rfl | rfl | rfl | rfl | rfl | rfl <;> simp), tupsOf_tup⟩
          have hd := eB _ _ hd
          have h1 := eB _ _ h1
          have h2 := eB _ _ h2
          have hT := tds_ex eB hT
          have hT2 := tds_ex eB hT2
          have hw3 := tds_ex eB hw3
          have hw2 := tds_tup tup hw2
          walk_at "z"
          refine g_methK (O.get 8) (fl_n a2 b2 (by decide +kernel) (by decide +kernel)) ?_
          walk_at "z"
          refine ⟨p2, a2, b2, dx2, [], [] ++ w2, [(true, (m : Int)), (true, (m : Int) + 1), (true, (m : Int) + 2)], rfl, O.get 8, O.lst 9, O.get 10, tds_ex O.fr hw2, (by intro x hx; simp at hx; rcases hx with rfl | rfl | rfl <;> simp <;> omega), by simp, fun r H21 e21 nr hr => ?_⟩
          have O := O.new e21 nr hr
          walk_at "z"
          refine g_new (small_le (by simp)) O fun t2 H22 nt2 O => ?_
          walk_at "z"
          refine ⟨_, _, .list (([(m : Int), (m : Int) + 1, (m : Int) + 2] : List Int).map PyData.int), .list (([(m : Int), (m : Int) + 1, (m : Int) + 2] : List Int).map PyData.int), rfl, .lst (O.lst 1) (dps_int _), .lst (O.lst 0) (dps_int [(m : Int), (m : Int) + 1, (m : Int) + 2]), dl_ints _ (by simp), fun c H23 hc e23 => ?_⟩
          obtain rfl : c = true := hc.mpr rfl
          have O := O.ex e23
          walk_at "z"
          refine iteF ?_
          walk_at "z"
          refine g_methK (O.get 10) (fl_n a2 b2 (by decide +kernel) (by decide +kernel)) ?_
          walk_at "z"
          have hl := tds_len hw2
          refine ⟨p2, a2, b2, dx2, [] ++ w2, rfl, O.get 10, O.get 12, ?_⟩
          walk_at "z"
          refine ⟨_, _, .int (([] ++ w2).length : Int), .int 3, rfl, .int _, .int _, .int, fun c H24 hc e24 => ?_⟩
          obtain rfl : c = true := hc.mpr (by have h3 : w2.length = 3 := hl; show PyData.int ((w2.length : Nat) : Int) = .int 3; rw [h3]; rfl)
          have O := O.ex e24
          walk_at "z"
          refine iteF ?_
          walk_at "z"
          refine g_makeK O fun p2' dx2' H25 np2 O => ?_
          refine ⟨p2', dx2', rfl, O.get 0, fun a2' b2' H26 O4 => ⟨rfl, ?_⟩⟩
          have O := own_init O O4
          walk_at "z"
          refine g_methK (O.get 0) (fl_n a2' b2' (by decide +kernel) (by decide +kernel)) ?_
          walk_at "z"
          refine ⟨p2', a2', b2', dx2', [], [], [], rfl, O.get 0, O.lst 1, O.get 2, .nil, (fun _ h => nomatch h), by simp, fun r2 H27 e27 nr2 hr2 => ?_⟩
          have O := O.new e27 nr2 hr2
          walk_at "z"
          refine g_new (Nat.zero_le _) O fun t3 H28 nt3 O => ?_
          refine g_neD (d := .list []) (e := .list []) (.lst (O.lst 1) .nil) (.lst (O.lst 0) .nil) (shaped_ints []) (shaped_ints []) ?_
          rw [show PyData.eqv (.list []) (.list []) = true from eqv_ints []]
          walk_at "z"
          refine iteF ?_
          walk_at "z"
          refine g_methK (O.get 2) (fl_n a2' b2' (by decide +kernel) (by decide +kernel)) ?_
          walk_at "z"
          refine ⟨p2', a2', b2', dx2', [], rfl, O.get 2, O.get 4, ?_⟩
          walk_at "z"
          refine ⟨_, _, .int 0, .int 0, rfl, .int _, .int _, .int, fun c H29 hc e29 => ?_⟩
          obtain rfl : c = true := hc.mpr rfl
          have O := O.ex e29
          walk_at "z"
          refine iteF ?_
          walk_at "z"
          have O := O.tail.tail.rot 6
          exact ⟨B', i + 1, p, a, b, dx, p2', a2', b2', dx2', p3, a3, b3, dx3, las, ws, st, l1, l2, ws2, w3, _, _, rfl, O.sub (((((((((((((((((List.Sublist.refl []).cons _).cons _).cons _).cons_cons _).cons_cons _).cons_cons _).cons _).cons _).cons _).cons_cons _).cons_cons _).cons_cons _).cons_cons _).cons_cons _).cons_cons _).cons_cons _), by omega, hd, hT, hp, h1, h2, hT2, hz, hw3⟩
        · walk_at "z"
          exact ⟨B, i + 1, p, a, b, dx, p2, a2, b2, dx2, p3, a3, b3, dx3, las, ws, st, l1, l2, ws2, w3, _, _, rfl, O, by omega, hd, hT, hp, h1, h2, hT2, hz, hw3⟩
      clear O hd hT h1 h2 hT2 hw3
      rintro σ H18 ⟨B, i, p, a, b, dx, p2, a2, b2, dx2, p3, a3, b3, dx3, las, ws, st, l1, l2, ws2, w3, y7, y8, rfl, O, hi, hd, hT, hp, h1, h2, hT2, hz, hw3⟩
      walk_at "z"
      refine ⟨B, _, s, d, i, ds, p, a, b, dx, las, ws, st, l1, l2, ws2, rfl, O, nt_rest6, hi, hd, hds, hT, hp, h1, h2, hT2, by omega, ?_⟩
      rintro B' H19 r i a b las' ws st' l1 l2 ws2 eB O hi hT hp h1 h2 hT2 hz' hr
      have hd := eB _ _ hd
      have hw3 := tds_ex eB hw3
      refine g_glst (.inl (.inl hr)) rfl ?_
      walk_at "z"
      refine iteF ?_
      walk_at "z"
      refine g_methK (O.get 1) (fl_n a b (by decide +kernel) (by decide +kernel)) ?_
      walk_at "z"
      refine ⟨p, a, b, dx, las', ws, st', rfl, O.get 1, O.lst 2, O.get 3, tds_ex O.fr hT, hp, by omega, fun c1 H20 e20 nc1 hc1 => ?_⟩
      have O := O.new e20 nc1 hc1
      walk_at "z"
      refine ⟨l1, l2, las', ws2, st', rfl, .inl (.inl (O.fr _ _ h1)), .inl (.inl (O.fr _ _ h2)), tds_ex O.fr hT2, hp, by omega, fun c2 H21 e21 nc2 hc2 => ?_⟩
      have O := O.new e21 nc2 hc2
      have hl := applied_len las' st'
      walk_at "z"
      refine ⟨_, _, .list ((applied las' st').map PyData.int), .list ((applied las' st').map PyData.int), rfl, .lst (O.lst 1) (dps_int _), .lst (O.lst 0) (dps_int _), dl_ints _ (by omega), fun c H22 hc e22 => ?_⟩
      obtain rfl : c = true := hc.mpr rfl
      have O := O.ex e22
      walk_at "z"
      refine iteF ?_
      walk_at "z"
      refine g_methK (O.get 3) (fl_n a b (by decide +kernel) (by decide +kernel)) ?_
      walk_at "z"
      refine ⟨p, a, b, dx, ws, rfl, O.get 3, O.get 5, ?_⟩
      walk_at "z"
      refine g_lenL (.inl (.inl (O.fr _ _ h2))) ?_
      walk_at "z"
      have hw1 := tds_len hT
      have hw2 := tds_len hT2
      rw [List.length_map] at hw1 hw2
      refine ⟨_, _, .int (ws.length : Int), .int (ws2.length : Int), rfl, .int _, .int _, .int, fun c H23 hc e23 => ?_⟩
      obtain rfl : c = true := hc.mpr (by rw [hw1, hw2])
      have O := O.ex e23
      walk_at "z"
      refine iteF ?_
      walk_at "z"
      refine g_methK (O.get 3) (fl_n a b (by decide +kernel) (by decide +kernel)) ?_
      walk_at "z"
      refine ⟨p, a, b, dx, las', ws, st', rfl, O.get 3, O.lst 4, O.get 5, tds_ex O.fr hT, hp, by omega, fun c3 H24 e24 nc3 hc3 => ?_⟩
      have O := O.new e24 nc3 hc3
      refine g_tyL (O.lst 0) ?_
      walk_at "z"
      refine g_append O 0 rfl (small_of (by rw [List.length_map]; omega)) fun H25 O => ?_
      walk_at "z"
      refine nxt O 3 rfl hi hd hds (by decide) fun n4 H26 _ _ O => ?_
      walk_at "z"
      have fin : ∀ H27, Own B' (dcells T.a_File s d p a b dx (i + 1) las' ws (rest6 T.a_File p2 a2 b2 dx2 p3 a3 b3 dx3 w3)) H27 → linv T.a_File a0 s d ds (m + 1) [some (.ref a0), some (.ref s), some (.ref p), some (.ref l1), some (.ref l2), some (.ref p2), some (.ref p3), y7, some (.bl true)] H27 := fun H27 O =>
        ⟨B', i + 1, p, a, b, dx, p2, a2, b2, dx2, p3, a3, b3, dx3, las', ws, st', l1, l2, ws2, w3, _, _, rfl, O, by omega, hd, hT, hp, h1, h2, hT2, by omega, hw3⟩
      refine ite_d (fun _ => ?_) (fun _ => ?_)
      · walk_at "z"
        refine g_methK (O.get 4) (fl_n a b (by decide +kernel) (by decide +kernel)) ?_
        walk_at "z"
        refine ⟨p, a, b, dx, las', ws, st', rfl, O.get 4, O.lst 5, O.get 6, tds_ex O.fr hT, hp, by omega, fun c4 H27 e27 nc4 hc4 => ?_⟩
        have O := O.new e27 nc4 hc4
        walk_at "z"
        refine ⟨l1, l2, las', ws2, st', rfl, .inl (.inl (O.fr _ _ h1)), .inl (.inl (O.fr _ _ h2)), tds_ex O.fr hT2, hp, by omega, fun c5 H28 e28 nc5 hc5 => ?_⟩
        have O := O.new e28 nc5 hc5
        walk_at "z"
        refine ⟨_, _, .list ((applied las' st').map PyData.int), .list ((applied las' st').map PyData.int), rfl, .lst (O.lst 1) (dps_int _), .lst (O.lst 0) (dps_int _), dl_ints _ (by omega), fun c H29 hc e29 => ?_⟩
        obtain rfl : c = true := hc.mpr rfl
        have O := O.ex e29
        walk_at "z"
        refine iteF ?_
        walk_at "z"
        exact fin _ O.tail.tail.tail.tail.tail
      · walk_at "z"
        refine iteF ?_
        walk_at "z"
        exact fin _ O.tail.tail.tail
    rintro σ H17 ⟨B, i, p, a, b, dx, p2, a2, b2, dx2, p3, a3, b3, dx3, las, ws, st, l1, l2, ws2, w3, y7, y8, rfl, O, hi, hd, hT, hp, h1, h2, hT2, hz, hw3⟩
    walk_at "z"
    refine g_methK (O.get 1) (fl_n a b (by decide +kernel) (by decide +kernel)) ?_
    walk_at "z"
    refine ⟨p, a, b, dx, 0, las, ws, st, rfl, by decide, O.get 1, O.lst 2, O.get 3, tds_ex O.fr hT, hp, by omega, fun a' b' H18 O5 => ?_⟩
    have O := own_afterLose O O5
    walk_at "z"
    refine g_methK (O.get 4) (fl_n a3 b3 (by decide +kernel) (by decide +kernel)) ?_
    walk_at "z"
    refine ⟨p3, a3, b3, dx3, [1, 2], w3, [(true, 3)], rfl, O.get 4, O.lst 5, O.get 6, tds_ex O.fr hw3, (by intro x hx; simp at hx; subst hx; decide), by simp, fun c1 H19 e19 nc1 hc1 => ?_⟩
    have O := O.new e19 nc1 hc1
    walk_at "z"
    refine g_new (small_le (by simp)) O fun t H20 nt O => ?_
    walk_at "z"
    refine ⟨_, _, .list (([1, 2, 3] : List Int).map PyData.int), .list (([1, 2, 3] : List Int).map PyData.int), rfl, .lst (O.lst 1) (dps_int _), .lst (O.lst 0) (dps_int [1, 2, 3]), dl_ints _ (by simp), fun c H21 hc e21 => ?_⟩
    obtain rfl : c = true := hc.mpr rfl
    have O := O.ex e21
    walk_at "z"
    refine iteF ?_
    walk_at "z"
    refine g_methK (O.get 6) (fl_n a3 b3 (by decide +kernel) (by decide +kernel)) ?_
    walk_at "z"
    have hl3 := tds_len hw3
    refine ⟨p3, a3, b3, dx3, w3, rfl, O.get 6, O.get 8, ?_⟩
    walk_at "z"
    refine ⟨_, _, .int (w3.length : Int), .int 1, rfl, .int _, .int _, .int, fun c H22 hc e22 => ?_⟩
    obtain rfl : c = true := hc.mpr (by rw [hl3]; rfl)
    have O := O.ex e22
    walk_at "z"
    refine iteF ?_
    walk_at "z"
    refine g_methK (O.get 3) (fl_n a' b' (by decide +kernel) (by decide +kernel)) ?_
    walk_at "z"
    refine ⟨p, a', b', dx, las, [], [], rfl, O.get 3, O.lst 4, O.get 5, .nil, (fun _ h => nomatch h), by show _ + 0 ≤ _; omega, fun c2 H23 e23 nc2 hc2 => ?_⟩
    have O := O.new e23 nc2 hc2
    walk_at "z"
    refine ⟨_, _, .list (las.map PyData.int), .list (las.map PyData.int), rfl, .lst (O.lst 0) (dps_int _), .lst (.inl (.inl (O.fr _ _ h1))) (dps_int _), dl_ints _ (by omega), fun c H24 hc e24 => ?_⟩
    obtain rfl : c = true := hc.mpr rfl
    have O := O.ex e24
    walk_at "z"
    refine iteT ?_
    walk_at "z"
    refine g_methK (O.get 4) (fl_n a' b' (by decide +kernel) (by decide +kernel)) ?_
    walk_at "z"
    refine ⟨p, a', b', dx, [], rfl, O.get 4, O.get 6, ?_⟩
    walk_at "z"
    refine ⟨_, _, .int 0, .int 0, rfl, .int _, .int _, .int, fun c H25 hc e25 => ?_⟩
    obtain rfl : c = true := hc.mpr rfl
    exact q _

end
/-! ### what the top has written; the law's own head -/
def mk_txt {K : PySem.W.Frag} {h : Heap} {mg : Str → Option Value} {C_File f__applied f_File___init__ f_File_write f_File_shorten f_File_flush f_File_content f_File_pending f_File_lose f__law_mix f__law_draws f__law_at f__law_is_integer f__law_same f__law_next f__law_after f__law_deed f_law : Addr} (X : K.In h) (G : h.Ns mainGlobals mg)
    {od__applied an__applied : Option Addr} {sl__applied : Array (Option Value)} {oc__applied kV__applied dc__applied pm__applied cd__applied ct__applied : Value}
    {od_File___init__ an_File___init__ : Option Addr} {sl_File___init__ : Array (Option Value)} {oc_File___init__ kV_File___init__ dc_File___init__ pm_File___init__ cd_File___init__ ct_File___init__ : Value}
    {od_File_write an_File_write : Option Addr} {sl_File_write : Array (Option Value)} {oc_File_write kV_File_write dc_File_write pm_File_write cd_File_write ct_File_write : Value}
    {od_File_shorten an_File_shorten : Option Addr} {sl_File_shorten : Array (Option Value)} {oc_File_shorten kV_File_shorten dc_File_shorten pm_File_shorten cd_File_shorten ct_File_shorten : Value}
    {od_File_flush an_File_flush : Option Addr} {sl_File_flush : Array (Option Value)} {oc_File_flush kV_File_flush dc_File_flush pm_File_flush cd_File_flush ct_File_flush : Value}
    {od_File_content an_File_content : Option Addr} {sl_File_content : Array (Option Value)} {oc_File_content kV_File_content dc_File_content pm_File_content cd_File_content ct_File_content : Value}
    {od_File_pending an_File_pending : Option Addr} {sl_File_pending : Array (Option Value)} {oc_File_pending kV_File_pending dc_File_pending pm_File_pending cd_File_pending ct_File_pending : Value}
    {od_File_lose an_File_lose : Option Addr} {sl_File_lose : Array (Option Value)} {oc_File_lose kV_File_lose dc_File_lose pm_File_lose cd_File_lose ct_File_lose : Value}
    {od__law_mix an__law_mix : Option Addr} {sl__law_mix : Array (Option Value)} {oc__law_mix kV__law_mix dc__law_mix pm__law_mix cd__law_mix ct__law_mix : Value}
    {od__law_draws an__law_draws : Option Addr} {sl__law_draws : Array (Option Value)} {oc__law_draws kV__law_draws dc__law_draws pm__law_draws cd__law_draws ct__law_draws : Value}
    {od__law_at an__law_at : Option Addr} {sl__law_at : Array (Option Value)} {oc__law_at kV__law_at dc__law_at pm__law_at cd__law_at ct__law_at : Value}
    {od__law_is_integer an__law_is_integer : Option Addr} {sl__law_is_integer : Array (Option Value)} {oc__law_is_integer kV__law_is_integer dc__law_is_integer pm__law_is_integer cd__law_is_integer ct__law_is_integer : Value}
    {od__law_same an__law_same : Option Addr} {sl__law_same : Array (Option Value)} {oc__law_same kV__law_same dc__law_same pm__law_same cd__law_same ct__law_same : Value}
    {od__law_next an__law_next : Option Addr} {sl__law_next : Array (Option Value)} {oc__law_next kV__law_next dc__law_next pm__law_next cd__law_next ct__law_next : Value}
    {od__law_after an__law_after : Option Addr} {sl__law_after : Array (Option Value)} {oc__law_after kV__law_after dc__law_after pm__law_after cd__law_after ct__law_after : Value}
    {od__law_deed an__law_deed : Option Addr} {sl__law_deed : Array (Option Value)} {oc__law_deed kV__law_deed dc__law_deed pm__law_deed cd__law_deed ct__law_deed : Value}
    {od_law an_law : Option Addr} {sl_law : Array (Option Value)} {oc_law kV_law dc_law pm_law cd_law ct_law : Value}
    (aC_File : PySem.W.nsIn K mainGlobals "File" = some (some (.ref C_File)))
    (pg_File : PySem.W.plainGet K C_File Str.empty = true)
    (hd_File : PySem.W.hasDictIn K C_File = true)
    (po_File : PySem.W.plainOver K C_File = true)
    (sa_File : PySem.W.findIn K (.ref C_File) "__setattr__" = some (some (.builtin "object.__setattr__")))
    (mk_File : PySem.W.makesIn K C_File = true)
    (kC_File : PySem.W.keepIn K (.ref C_File) = true)
    (nA_File__lasting : PySem.W.findIn K (.ref C_File) "_lasting" = some none)
    (nA_File__steps : PySem.W.findIn K (.ref C_File) "_steps" = some none)
    (a__applied : PySem.W.nsIn K mainGlobals "_applied" = some (some (.ref f__applied)))
    (l__applied : K.lookup f__applied = some ⟨oc__applied, od__applied, .func (PySem.W.fnOf "_applied" "_applied" (defArgs s__applied) (defBody s__applied) (defScope s__applied) .none kV__applied dc__applied pm__applied an__applied cd__applied ct__applied), sl__applied⟩)
    (c__applied : PySem.W.codeIn K cd__applied "_applied" = true)
    (k__applied : PySem.W.keepIn K (.ref f__applied) = true)
    (a_File___init__ : PySem.W.findIn K (.ref C_File) "__init__" = some (some (.ref f_File___init__)))
    (i_File___init__ : PySem.W.isFn K (.ref f_File___init__) = true)
    (l_File___init__ : K.lookup f_File___init__ = some ⟨oc_File___init__, od_File___init__, .func (PySem.W.fnOf "__init__" "File.__init__" (defArgs s_File___init__) (defBody s_File___init__) (defScope s_File___init__) .none kV_File___init__ dc_File___init__ pm_File___init__ an_File___init__ cd_File___init__ ct_File___init__), sl_File___init__⟩)
    (c_File___init__ : PySem.W.codeIn K cd_File___init__ "File.__init__" = true)
    (k_File___init__ : PySem.W.keepIn K (.ref f_File___init__) = true)
    (a_File_write : PySem.W.findIn K (.ref C_File) "write" = some (some (.ref f_File_write)))
    (i_File_write : PySem.W.isFn K (.ref f_File_write) = true)
    (l_File_write : K.lookup f_File_write = some ⟨oc_File_write, od_File_write, .func (PySem.W.fnOf "write" "File.write" (defArgs s_File_write) (defBody s_File_write) (defScope s_File_write) .none kV_File_write dc_File_write pm_File_write an_File_write cd_File_write ct_File_write), sl_File_write⟩)
    (c_File_write : PySem.W.codeIn K cd_File_write "File.write" = true)
    (k_File_write : PySem.W.keepIn K (.ref f_File_write) = true)
    (a_File_shorten : PySem.W.findIn K (.ref C_File) "shorten" = some (some (.ref f_File_shorten)))
    (i_File_shorten : PySem.W.isFn K (.ref f_File_shorten) = true)
    (l_File_shorten : K.lookup f_File_shorten = some ⟨oc_File_shorten, od_File_shorten, .func (PySem.W.fnOf "shorten" "File.shorten" (defArgs s_File_shorten) (defBody s_File_shorten) (defScope s_File_shorten) .none kV_File_shorten dc_File_shorten pm_File_shorten an_File_shorten cd_File_shorten ct_File_shorten), sl_File_shorten⟩)
    (c_File_shorten : PySem.W.codeIn K cd_File_shorten "File.shorten" = true)
    (k_File_shorten : PySem.W.keepIn K (.ref f_File_shorten) = true)
    (a_File_flush : PySem.W.findIn K (.ref C_File) "flush" = some (some (.ref f_File_flush)))
    (i_File_flush : PySem.W.isFn K (.ref f_File_flush) = true)
    (l_File_flush : K.lookup f_File_flush = some ⟨oc_File_flush, od_File_flush, .func (PySem.W.fnOf "flush" "File.flush" (defArgs s_File_flush) (defBody s_File_flush) (defScope s_File_flush) .none kV_File_flush dc_File_flush pm_File_flush an_File_flush cd_File_flush ct_File_flush), sl_File_flush⟩)
    (c_File_flush : PySem.W.codeIn K cd_File_flush "File.flush" = true)
    (k_File_flush : PySem.W.keepIn K (.ref f_File_flush) = true)
    (a_File_content : PySem.W.findIn K (.ref C_File) "content" = some (some (.ref f_File_content)))
    (i_File_content : PySem.W.isFn K (.ref f_File_content) = true)
    (l_File_content : K.lookup f_File_content = some ⟨oc_File_content, od_File_content, .func (PySem.W.fnOf "content" "File.content" (defArgs s_File_content) (defBody s_File_content) (defScope s_File_content) .none kV_File_content dc_File_content pm_File_content an_File_content cd_File_content ct_File_content), sl_File_content⟩)
    (c_File_content : PySem.W.codeIn K cd_File_content "File.content" = true)
    (k_File_content : PySem.W.keepIn K (.ref f_File_content) = true)
    (a_File_pending : PySem.W.findIn K (.ref C_File) "pending" = some (some (.ref f_File_pending)))
    (i_File_pending : PySem.W.isFn K (.ref f_File_pending) = true)
    (l_File_pending : K.lookup f_File_pending = some ⟨oc_File_pending, od_File_pending, .func (PySem.W.fnOf "pending" "File.pending" (defArgs s_File_pending) (defBody s_File_pending) (defScope s_File_pending) .none kV_File_pending dc_File_pending pm_File_pending an_File_pending cd_File_pending ct_File_pending), sl_File_pending⟩)
    (c_File_pending : PySem.W.codeIn K cd_File_pending "File.pending" = true)
    (k_File_pending : PySem.W.keepIn K (.ref f_File_pending) = true)
    (a_File_lose : PySem.W.findIn K (.ref C_File) "lose" = some (some (.ref f_File_lose)))
    (i_File_lose : PySem.W.isFn K (.ref f_File_lose) = true)
    (l_File_lose : K.lookup f_File_lose = some ⟨oc_File_lose, od_File_lose, .func (PySem.W.fnOf "lose" "File.lose" (defArgs s_File_lose) (defBody s_File_lose) (defScope s_File_lose) .none kV_File_lose dc_File_lose pm_File_lose an_File_lose cd_File_lose ct_File_lose), sl_File_lose⟩)
    (c_File_lose : PySem.W.codeIn K cd_File_lose "File.lose" = true)
    (k_File_lose : PySem.W.keepIn K (.ref f_File_lose) = true)
    (a__law_mix : PySem.W.nsIn K mainGlobals "_law_mix" = some (some (.ref f__law_mix)))
    (l__law_mix : K.lookup f__law_mix = some ⟨oc__law_mix, od__law_mix, .func (PySem.W.fnOf "_law_mix" "_law_mix" (defArgs s__law_mix) (defBody s__law_mix) (defScope s__law_mix) .none kV__law_mix dc__law_mix pm__law_mix an__law_mix cd__law_mix ct__law_mix), sl__law_mix⟩)
    (c__law_mix : PySem.W.codeIn K cd__law_mix "_law_mix" = true)
    (k__law_mix : PySem.W.keepIn K (.ref f__law_mix) = true)
    (a__law_draws : PySem.W.nsIn K mainGlobals "_law_draws" = some (some (.ref f__law_draws)))
    (l__law_draws : K.lookup f__law_draws = some ⟨oc__law_draws, od__law_draws, .func (PySem.W.fnOf "_law_draws" "_law_draws" (defArgs s__law_draws) (defBody s__law_draws) (defScope s__law_draws) .none kV__law_draws dc__law_draws pm__law_draws an__law_draws cd__law_draws ct__law_draws), sl__law_draws⟩)
    (c__law_draws : PySem.W.codeIn K cd__law_draws "_law_draws" = true)
    (k__law_draws : PySem.W.keepIn K (.ref f__law_draws) = true)
    (a__law_at : PySem.W.nsIn K mainGlobals "_law_at" = some (some (.ref f__law_at)))
    (l__law_at : K.lookup f__law_at = some ⟨oc__law_at, od__law_at, .func (PySem.W.fnOf "_law_at" "_law_at" (defArgs s__law_at) (defBody s__law_at) (defScope s__law_at) .none kV__law_at dc__law_at pm__law_at an__law_at cd__law_at ct__law_at), sl__law_at⟩)
    (c__law_at : PySem.W.codeIn K cd__law_at "_law_at" = true)
    (k__law_at : PySem.W.keepIn K (.ref f__law_at) = true)
    (a__law_is_integer : PySem.W.nsIn K mainGlobals "_law_is_integer" = some (some (.ref f__law_is_integer)))
    (l__law_is_integer : K.lookup f__law_is_integer = some ⟨oc__law_is_integer, od__law_is_integer, .func (PySem.W.fnOf "_law_is_integer" "_law_is_integer" (defArgs s__law_is_integer) (defBody s__law_is_integer) (defScope s__law_is_integer) .none kV__law_is_integer dc__law_is_integer pm__law_is_integer an__law_is_integer cd__law_is_integer ct__law_is_integer), sl__law_is_integer⟩)
    (c__law_is_integer : PySem.W.codeIn K cd__law_is_integer "_law_is_integer" = true)
    (k__law_is_integer : PySem.W.keepIn K (.ref f__law_is_integer) = true)
    (a__law_same : PySem.W.nsIn K mainGlobals "_law_same" = some (some (.ref f__law_same)))
    (l__law_same : K.lookup f__law_same = some ⟨oc__law_same, od__law_same, .func (PySem.W.fnOf "_law_same" "_law_same" (defArgs s__law_same) (defBody s__law_same) (defScope s__law_same) .none kV__law_same dc__law_same pm__law_same an__law_same cd__law_same ct__law_same), sl__law_same⟩)
    (c__law_same : PySem.W.codeIn K cd__law_same "_law_same" = true)
    (k__law_same : PySem.W.keepIn K (.ref f__law_same) = true)
    (a__law_next : PySem.W.nsIn K mainGlobals "_law_next" = some (some (.ref f__law_next)))
    (l__law_next : K.lookup f__law_next = some ⟨oc__law_next, od__law_next, .func (PySem.W.fnOf "_law_next" "_law_next" (defArgs s__law_next) (defBody s__law_next) (defScope s__law_next) .none kV__law_next dc__law_next pm__law_next an__law_next cd__law_next ct__law_next), sl__law_next⟩)
    (c__law_next : PySem.W.codeIn K cd__law_next "_law_next" = true)
    (k__law_next : PySem.W.keepIn K (.ref f__law_next) = true)
    (a__law_after : PySem.W.nsIn K mainGlobals "_law_after" = some (some (.ref f__law_after)))
    (l__law_after : K.lookup f__law_after = some ⟨oc__law_after, od__law_after, .func (PySem.W.fnOf "_law_after" "_law_after" (defArgs s__law_after) (defBody s__law_after) (defScope s__law_after) .none kV__law_after dc__law_after pm__law_after an__law_after cd__law_after ct__law_after), sl__law_after⟩)
    (c__law_after : PySem.W.codeIn K cd__law_after "_law_after" = true)
    (k__law_after : PySem.W.keepIn K (.ref f__law_after) = true)
    (a__law_deed : PySem.W.nsIn K mainGlobals "_law_deed" = some (some (.ref f__law_deed)))
    (l__law_deed : K.lookup f__law_deed = some ⟨oc__law_deed, od__law_deed, .func (PySem.W.fnOf "_law_deed" "_law_deed" (defArgs s__law_deed) (defBody s__law_deed) (defScope s__law_deed) .none kV__law_deed dc__law_deed pm__law_deed an__law_deed cd__law_deed ct__law_deed), sl__law_deed⟩)
    (c__law_deed : PySem.W.codeIn K cd__law_deed "_law_deed" = true)
    (k__law_deed : PySem.W.keepIn K (.ref f__law_deed) = true)
    (a_law : PySem.W.nsIn K mainGlobals "law" = some (some (.ref f_law)))
    (l_law : K.lookup f_law = some ⟨oc_law, od_law, .func (PySem.W.fnOf "law" "law" (defArgs s_law) (defBody s_law) (defScope s_law) .none kV_law dc_law pm_law an_law cd_law ct_law), sl_law⟩)
    (c_law : PySem.W.codeIn K cd_law "law" = true)
    (k_law : PySem.W.keepIn K (.ref f_law) = true)
    (z_len : PySem.W.nsIn K mainGlobals "len" = some none)
    (z_min : PySem.W.nsIn K mainGlobals "min" = some none)
    (z_int : PySem.W.nsIn K mainGlobals "int" = some none)
    (z_list : PySem.W.nsIn K mainGlobals "list" = some none)
    (z_range : PySem.W.nsIn K mainGlobals "range" = some none)
    (z_isinstance : PySem.W.nsIn K mainGlobals "isinstance" = some none)
    (z_bool : PySem.W.nsIn K mainGlobals "bool" = some none)
    (z_str : PySem.W.nsIn K mainGlobals "str" = some none)
    (z_tuple : PySem.W.nsIn K mainGlobals "tuple" = some none) : Txt K mg where
  a_File := C_File
  cl_File := ⟨pg_File, hd_File, po_File, sa_File⟩
  g_File := PySem.W.mg_of X G aC_File
  n_File__lasting := nA_File__lasting
  n_File__steps := nA_File__steps
  a__applied := f__applied
  d__applied := PySem.W.fnOf "_applied" "_applied" (defArgs s__applied) (defBody s__applied) (defScope s__applied) .none kV__applied dc__applied pm__applied an__applied cd__applied ct__applied
  F__applied := fun_mk l__applied c__applied k__applied
  b__applied := (fun_mk (st := s__applied) l__applied c__applied k__applied).binds (ps := P__applied) fun _ _ _ _ _ _ us hl => match us, hl with | [_, _], _ => rfl
  g__applied := PySem.W.mg_of X G a__applied
  a_File___init__ := f_File___init__
  d_File___init__ := PySem.W.fnOf "__init__" "File.__init__" (defArgs s_File___init__) (defBody s_File___init__) (defScope s_File___init__) .none kV_File___init__ dc_File___init__ pm_File___init__ an_File___init__ cd_File___init__ ct_File___init__
  F_File___init__ := fun_mk l_File___init__ c_File___init__ k_File___init__
  b_File___init__ := (fun_mk (st := s_File___init__) l_File___init__ c_File___init__ k_File___init__).binds (ps := P_File___init__) fun _ _ _ _ _ _ us hl => match us, hl with | [_], _ => rfl
  M_File := ⟨mk_File, a_File___init__, i_File___init__, kC_File⟩
  a_File_write := f_File_write
  d_File_write := PySem.W.fnOf "write" "File.write" (defArgs s_File_write) (defBody s_File_write) (defScope s_File_write) .none kV_File_write dc_File_write pm_File_write an_File_write cd_File_write ct_File_write
  F_File_write := fun_mk l_File_write c_File_write k_File_write
  b_File_write := (fun_mk (st := s_File_write) l_File_write c_File_write k_File_write).binds (ps := P_File_write) fun _ _ _ _ _ _ us hl => match us, hl with | [_, _, _], _ => rfl
  m_File_write := ⟨a_File_write, i_File_write, k_File_write⟩
  a_File_shorten := f_File_shorten
  d_File_shorten := PySem.W.fnOf "shorten" "File.shorten" (defArgs s_File_shorten) (defBody s_File_shorten) (defScope s_File_shorten) .none kV_File_shorten dc_File_shorten pm_File_shorten an_File_shorten cd_File_shorten ct_File_shorten
  F_File_shorten := fun_mk l_File_shorten c_File_shorten k_File_shorten
  b_File_shorten := (fun_mk (st := s_File_shorten) l_File_shorten c_File_shorten k_File_shorten).binds (ps := P_File_shorten) fun _ _ _ _ _ _ us hl => match us, hl with | [_, _, _], _ => rfl
  m_File_shorten := ⟨a_File_shorten, i_File_shorten, k_File_shorten⟩
  a_File_flush := f_File_flush
  d_File_flush := PySem.W.fnOf "flush" "File.flush" (defArgs s_File_flush) (defBody s_File_flush) (defScope s_File_flush) .none kV_File_flush dc_File_flush pm_File_flush an_File_flush cd_File_flush ct_File_flush
  F_File_flush := fun_mk l_File_flush c_File_flush k_File_flush
  b_File_flush := (fun_mk (st := s_File_flush) l_File_flush c_File_flush k_File_flush).binds (ps := P_File_flush) fun _ _ _ _ _ _ us hl => match us, hl with | [_, _], _ => rfl
  m_File_flush := ⟨a_File_flush, i_File_flush, k_File_flush⟩
  a_File_content := f_File_content
  d_File_content := PySem.W.fnOf "content" "File.content" (defArgs s_File_content) (defBody s_File_content) (defScope s_File_content) .none kV_File_content dc_File_content pm_File_content an_File_content cd_File_content ct_File_content
  F_File_content := fun_mk l_File_content c_File_content k_File_content
  b_File_content := (fun_mk (st := s_File_content) l_File_content c_File_content k_File_content).binds (ps := P_File_content) fun _ _ _ _ _ _ us hl => match us, hl with | [_], _ => rfl
  m_File_content := ⟨a_File_content, i_File_content, k_File_content⟩
  a_File_pending := f_File_pending
  d_File_pending := PySem.W.fnOf "pending" "File.pending" (defArgs s_File_pending) (defBody s_File_pending) (defScope s_File_pending) .none kV_File_pending dc_File_pending pm_File_pending an_File_pending cd_File_pending ct_File_pending
  F_File_pending := fun_mk l_File_pending c_File_pending k_File_pending
  b_File_pending := (fun_mk (st := s_File_pending) l_File_pending c_File_pending k_File_pending).binds (ps := P_File_pending) fun _ _ _ _ _ _ us hl => match us, hl with | [_], _ => rfl
  m_File_pending := ⟨a_File_pending, i_File_pending, k_File_pending⟩
  a_File_lose := f_File_lose
  d_File_lose := PySem.W.fnOf "lose" "File.lose" (defArgs s_File_lose) (defBody s_File_lose) (defScope s_File_lose) .none kV_File_lose dc_File_lose pm_File_lose an_File_lose cd_File_lose ct_File_lose
  F_File_lose := fun_mk l_File_lose c_File_lose k_File_lose
  b_File_lose := (fun_mk (st := s_File_lose) l_File_lose c_File_lose k_File_lose).binds (ps := P_File_lose) fun _ _ _ _ _ _ us hl => match us, hl with | [_, _], _ => rfl
  m_File_lose := ⟨a_File_lose, i_File_lose, k_File_lose⟩
  a__law_mix := f__law_mix
  d__law_mix := PySem.W.fnOf "_law_mix" "_law_mix" (defArgs s__law_mix) (defBody s__law_mix) (defScope s__law_mix) .none kV__law_mix dc__law_mix pm__law_mix an__law_mix cd__law_mix ct__law_mix
  F__law_mix := fun_mk l__law_mix c__law_mix k__law_mix
  b__law_mix := (fun_mk (st := s__law_mix) l__law_mix c__law_mix k__law_mix).binds (ps := P__law_mix) fun _ _ _ _ _ _ us hl => match us, hl with | [_, _], _ => rfl
  g__law_mix := PySem.W.mg_of X G a__law_mix
  a__law_draws := f__law_draws
  d__law_draws := PySem.W.fnOf "_law_draws" "_law_draws" (defArgs s__law_draws) (defBody s__law_draws) (defScope s__law_draws) .none kV__law_draws dc__law_draws pm__law_draws an__law_draws cd__law_draws ct__law_draws
  F__law_draws := fun_mk l__law_draws c__law_draws k__law_draws
  b__law_draws := (fun_mk (st := s__law_draws) l__law_draws c__law_draws k__law_draws).binds (ps := P__law_draws) fun _ _ _ _ _ _ us hl => match us, hl with | [_], _ => rfl
  g__law_draws := PySem.W.mg_of X G a__law_draws
  a__law_at := f__law_at
  d__law_at := PySem.W.fnOf "_law_at" "_law_at" (defArgs s__law_at) (defBody s__law_at) (defScope s__law_at) .none kV__law_at dc__law_at pm__law_at an__law_at cd__law_at ct__law_at
  F__law_at := fun_mk l__law_at c__law_at k__law_at
  b__law_at := (fun_mk (st := s__law_at) l__law_at c__law_at k__law_at).binds (ps := P__law_at) fun _ _ _ _ _ _ us hl => match us, hl with | [_, _], _ => rfl
  g__law_at := PySem.W.mg_of X G a__law_at
  a__law_is_integer := f__law_is_integer
  d__law_is_integer := PySem.W.fnOf "_law_is_integer" "_law_is_integer" (defArgs s__law_is_integer) (defBody s__law_is_integer) (defScope s__law_is_integer) .none kV__law_is_integer dc__law_is_integer pm__law_is_integer an__law_is_integer cd__law_is_integer ct__law_is_integer
  F__law_is_integer := fun_mk l__law_is_integer c__law_is_integer k__law_is_integer
  b__law_is_integer := (fun_mk (st := s__law_is_integer) l__law_is_integer c__law_is_integer k__law_is_integer).binds (ps := P__law_is_integer) fun _ _ _ _ _ _ us hl => match us, hl with | [_], _ => rfl
  g__law_is_integer := PySem.W.mg_of X G a__law_is_integer
  a__law_same := f__law_same
  d__law_same := PySem.W.fnOf "_law_same" "_law_same" (defArgs s__law_same) (defBody s__law_same) (defScope s__law_same) .none kV__law_same dc__law_same pm__law_same an__law_same cd__law_same ct__law_same
  F__law_same := fun_mk l__law_same c__law_same k__law_same
  b__law_same := (fun_mk (st := s__law_same) l__law_same c__law_same k__law_same).binds (ps := P__law_same) fun _ _ _ _ _ _ us hl => match us, hl with | [_, _], _ => rfl
  g__law_same := PySem.W.mg_of X G a__law_same
  a__law_next := f__law_next
  d__law_next := PySem.W.fnOf "_law_next" "_law_next" (defArgs s__law_next) (defBody s__law_next) (defScope s__law_next) .none kV__law_next dc__law_next pm__law_next an__law_next cd__law_next ct__law_next
  F__law_next := fun_mk l__law_next c__law_next k__law_next
  b__law_next := (fun_mk (st := s__law_next) l__law_next c__law_next k__law_next).binds (ps := P__law_next) fun _ _ _ _ _ _ us hl => match us, hl with | [_, _], _ => rfl
  g__law_next := PySem.W.mg_of X G a__law_next
  a__law_after := f__law_after
  d__law_after := PySem.W.fnOf "_law_after" "_law_after" (defArgs s__law_after) (defBody s__law_after) (defScope s__law_after) .none kV__law_after dc__law_after pm__law_after an__law_after cd__law_after ct__law_after
  F__law_after := fun_mk l__law_after c__law_after k__law_after
  b__law_after := (fun_mk (st := s__law_after) l__law_after c__law_after k__law_after).binds (ps := P__law_after) fun _ _ _ _ _ _ us hl => match us, hl with | [_, _], _ => rfl
  g__law_after := PySem.W.mg_of X G a__law_after
  a__law_deed := f__law_deed
  d__law_deed := PySem.W.fnOf "_law_deed" "_law_deed" (defArgs s__law_deed) (defBody s__law_deed) (defScope s__law_deed) .none kV__law_deed dc__law_deed pm__law_deed an__law_deed cd__law_deed ct__law_deed
  F__law_deed := fun_mk l__law_deed c__law_deed k__law_deed
  b__law_deed := (fun_mk (st := s__law_deed) l__law_deed c__law_deed k__law_deed).binds (ps := P__law_deed) fun _ _ _ _ _ _ us hl => match us, hl with | [_, _, _, _], _ => rfl
  g__law_deed := PySem.W.mg_of X G a__law_deed
  a_law := f_law
  d_law := PySem.W.fnOf "law" "law" (defArgs s_law) (defBody s_law) (defScope s_law) .none kV_law dc_law pm_law an_law cd_law ct_law
  F_law := fun_mk l_law c_law k_law
  b_law := (fun_mk (st := s_law) l_law c_law k_law).binds (ps := P_law) fun _ _ _ _ _ _ us hl => match us, hl with | [_], _ => rfl
  g_law := PySem.W.mg_of X G a_law
  z_len := PySem.W.mg_none_of X G z_len
  z_min := PySem.W.mg_none_of X G z_min
  z_int := PySem.W.mg_none_of X G z_int
  z_list := PySem.W.mg_none_of X G z_list
  z_range := PySem.W.mg_none_of X G z_range
  z_isinstance := PySem.W.mg_none_of X G z_isinstance
  z_bool := PySem.W.mg_none_of X G z_bool
  z_str := PySem.W.mg_none_of X G z_str
  z_tuple := PySem.W.mg_none_of X G z_tuple
theorem all_ok {l : PySem.W.OpenLaw} {w : World} {K : PySem.W.Frag} {mg : Str → Option Value} {fa : Addr} (hfa : mg "law" = some (.ref fa)) (T : Txt K mg) :
    ∃ fd : FuncData, (∀ (s : Shared) (v : Value), BindsTo s fd ⟨[v], []⟩ [("script", v)]) ∧ ∀ base : Heap, K.In base → base.Ns mainGlobals mg → FnOk l.prog w K mg base CX0 15 fa fd ["script"] (sp_law K) := by
  have e := hfa.symm.trans T.g_law
  cases e
  obtain ⟨oc, od, kV, doc, pm, an, cdv, ct, osl, e, _, _⟩ := T.F_law.ex
  exact ⟨T.d_law, fun s v => by rw [e]; exact .of_eq rfl, fun base _ _ => ok_law T⟩

end K10
open PySem PySem.W PyProof.Rows
set_option maxHeartbeats 0 in
theorem PySem.Challenge.cw_textwhole_k10_files_keep_a_beginning_holds : PySem.Challenge.rw_textwhole_k10_files_keep_a_beginning.Holds := by
  w_on; o_law; k_head; (case hw => w_witness2)
  k_fill
  refine L2.walk_of (l := PySem.Challenge.rw_textwhole_k10_files_keep_a_beginning) (n := 63) (k := 15) (x := "script") (CX := fun w => L2.CX0) (sp := fun w => K10.sp_law _) rfl (by decide) rfl ⟨rfl, by decide, by decide⟩ (fun w h Y => PySem.W.kIn_of Y) ?F (fun _ _ a ns hl _ hS => ⟨a, ns, rfl, hS, hl, fun _ => rfl⟩) (fun _ _ _ _ _ h => h)
  case F =>
    intro w mg fa h KX G hmg
    refine' K10.all_ok hmg (K10.mk_txt KX G ?aC_File ?pg_File ?hd_File ?po_File ?sa_File ?mk_File ?kC_File ?nA_File__lasting ?nA_File__steps ?a__applied ?l__applied ?c__applied ?k__applied ?a_File___init__ ?i_File___init__ ?l_File___init__ ?c_File___init__ ?k_File___init__ ?a_File_write ?i_File_write ?l_File_write ?c_File_write ?k_File_write ?a_File_shorten ?i_File_shorten ?l_File_shorten ?c_File_shorten ?k_File_shorten ?a_File_flush ?i_File_flush ?l_File_flush ?c_File_flush ?k_File_flush ?a_File_content ?i_File_content ?l_File_content ?c_File_content ?k_File_content ?a_File_pending ?i_File_pending ?l_File_pending ?c_File_pending ?k_File_pending ?a_File_lose ?i_File_lose ?l_File_lose ?c_File_lose ?k_File_lose ?a__law_mix ?l__law_mix ?c__law_mix ?k__law_mix ?a__law_draws ?l__law_draws ?c__law_draws ?k__law_draws ?a__law_at ?l__law_at ?c__law_at ?k__law_at ?a__law_is_integer ?l__law_is_integer ?c__law_is_integer ?k__law_is_integer ?a__law_same ?l__law_same ?c__law_same ?k__law_same ?a__law_next ?l__law_next ?c__law_next ?k__law_next ?a__law_after ?l__law_after ?c__law_after ?k__law_after ?a__law_deed ?l__law_deed ?c__law_deed ?k__law_deed ?a_law ?l_law ?c_law ?k_law ?z_len ?z_min ?z_int ?z_list ?z_range ?z_isinstance ?z_bool ?z_str ?z_tuple)
    (case aC_File => k_is)
    (case pg_File => k_is)
    (case hd_File => k_is)
    (case po_File => k_is)
    (case sa_File => k_is)
    (case mk_File => k_is)
    (case kC_File => k_is)
    (case nA_File__lasting => k_is)
    (case nA_File__steps => k_is)
    (case a__applied => k_is)
    (case l__applied => k_is)
    (case c__applied => k_is)
    (case k__applied => k_is)
    (case a_File___init__ => k_is)
    (case i_File___init__ => k_is)
    (case l_File___init__ => k_is)
    (case c_File___init__ => k_is)
    (case k_File___init__ => k_is)
    (case a_File_write => k_is)
    (case i_File_write => k_is)
    (case l_File_write => k_is)
    (case c_File_write => k_is)
    (case k_File_write => k_is)
    (case a_File_shorten => k_is)
    (case i_File_shorten => k_is)
    (case l_File_shorten => k_is)
    (case c_File_shorten => k_is)
    (case k_File_shorten => k_is)
    (case a_File_flush => k_is)
    (case i_File_flush => k_is)
    (case l_File_flush => k_is)
    (case c_File_flush => k_is)
    (case k_File_flush => k_is)
    (case a_File_content => k_is)
    (case i_File_content => k_is)
    (case l_File_content => k_is)
    (case c_File_content => k_is)
    (case k_File_content => k_is)
    (case a_File_pending => k_is)
    (case i_File_pending => k_is)
    (case l_File_pending => k_is)
    (case c_File_pending => k_is)
    (case k_File_pending => k_is)
    (case a_File_lose => k_is)
    (case i_File_lose => k_is)
    (case l_File_lose => k_is)
    (case c_File_lose => k_is)
    (case k_File_lose => k_is)
    (case a__law_mix => k_is)
    (case l__law_mix => k_is)
    (case c__law_mix => k_is)
    (case k__law_mix => k_is)
    (case a__law_draws => k_is)
    (case l__law_draws => k_is)
    (case c__law_draws => k_is)
    (case k__law_draws => k_is)
    (case a__law_at => k_is)
    (case l__law_at => k_is)
    (case c__law_at => k_is)
    (case k__law_at => k_is)
    (case a__law_is_integer => k_is)
    (case l__law_is_integer => k_is)
    (case c__law_is_integer => k_is)
    (case k__law_is_integer => k_is)
    (case a__law_same => k_is)
    (case l__law_same => k_is)
    (case c__law_same => k_is)
    (case k__law_same => k_is)
    (case a__law_next => k_is)
    (case l__law_next => k_is)
    (case c__law_next => k_is)
    (case k__law_next => k_is)
    (case a__law_after => k_is)
    (case l__law_after => k_is)
    (case c__law_after => k_is)
    (case k__law_after => k_is)
    (case a__law_deed => k_is)
    (case l__law_deed => k_is)
    (case c__law_deed => k_is)
    (case k__law_deed => k_is)
    (case a_law => k_is)
    (case l_law => k_is)
    (case c_law => k_is)
    (case k_law => k_is)
    (case z_len => k_is)
    (case z_min => k_is)
    (case z_int => k_is)
    (case z_list => k_is)
    (case z_range => k_is)
    (case z_isinstance => k_is)
    (case z_bool => k_is)
    (case z_str => k_is)
    (case z_tuple => k_is)
