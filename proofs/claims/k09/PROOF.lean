import PyProof.Rows.All
import Wide.All
import OpenK.AllK
import Wide.FinOn
import HandS.ForMost
import HandS.TryOnly
import HandS.IsInst
import HandS.Deep
import HandS.Steps
import HandS.Flow
import HandS.Style
import HandS.Zip
import HandS.TupAny
import HandS.More
import HandS.Walk
import HandS.Evl
import PySem.Challenge.RW_textwhole_k09_chunks_of_a_text
set_option Elab.async false
set_option linter.all false
set_option maxRecDepth 100000
set_option maxHeartbeats 4000000

/-! Zl: a small layer over HandS: what is owned (Own), data (Dp) over what stays, readings with names and their steps. -/
namespace Zl
open PySem PySem.Spec PyProof.Rows L2

/-! ### what is owned: cells cs apart from the frame B -/
structure Own (B : Hp) (cs : List (Addr × HO)) (H : Hp) : Prop where
  fr : Same B H
  out : ∀ c ∈ cs, B c.1 = none
  have_ : ∀ c ∈ cs, H c.1 = some c.2
  nd : (cs.map (·.1)).Nodup
theorem Own.start (H : Hp) : Own H [] H := ⟨Same.refl H, fun _ h => (nomatch h), fun _ h => (nomatch h), List.nodup_nil⟩
section
variable {B B' H H' : Hp} {cs cs' : List (Addr × HO)} {a p : Addr} {o o' : HO} {j : Nat} {K : PySem.W.Frag}
theorem Own.get (O : Own B cs H) (j : Nat) (h : cs[j]? = some (a, o) := by rfl) : H a = some o := O.have_ (a, o) (List.mem_of_getElem? h)
theorem Own.lst {xs : List V} (O : Own B cs H) (j : Nat) (h : cs[j]? = some (a, .lst xs) := by rfl) : SqL K H a xs := .inl (.inl (O.get j h))
theorem Own.tup {xs : List V} (O : Own B cs H) (j : Nat) (h : cs[j]? = some (a, .tup xs) := by rfl) : SqT K H a xs := .inl (.inl (O.get j h))
theorem Own.ex (O : Own B cs H) (e : Same H H') : Own B cs H' := ⟨O.fr.trans e, O.out, fun c hc => e _ _ (O.have_ c hc), O.nd⟩
theorem Own.fresh (O : Own B cs H) (np : H p = none) : B p = none ∧ ∀ c ∈ cs, c.1 ≠ p := by
  refine ⟨O.fr.free np, fun c hc e => ?_⟩
  have h := O.have_ c hc
  rw [e, np] at h
  cases h
theorem Own.new (O : Own B cs H) (e : Same H H') (np : H p = none) (hp : H' p = some o) : Own B ((p, o) :: cs) H' := by
  obtain ⟨h1, h2⟩ := O.fresh np
  refine ⟨O.fr.trans e, fun c hc => ?_, fun c hc => ?_, ?_⟩
  · rcases List.mem_cons.mp hc with rfl | hc
    · exact h1
    · exact O.out c hc
  · rcases List.mem_cons.mp hc with rfl | hc
    · exact hp
    · exact e _ _ (O.have_ c hc)
  · refine List.nodup_cons.mpr ⟨fun hm => ?_, O.nd⟩
    obtain ⟨c, hc, e'⟩ := List.mem_map.mp hm
    exact h2 c hc e'
theorem Same.upd (np : H p = none) : Same H (upd H p o) := fun b x e => by
  rw [upd_ne (ne_of_none e np)]
  exact e
theorem Own.alloc (O : Own B cs H) (np : H p = none) : Own B ((p, o) :: cs) (upd H p o) := O.new (Same.upd np) np upd_same
theorem mem_set {α : Type} {l : List α} {j : Nat} {x y : α} (h : y ∈ l.set j x) : y = x ∨ ∃ i, i ≠ j ∧ l[i]? = some y := by
  obtain ⟨i, hi, e⟩ := List.mem_iff_getElem.mp h
  rw [List.getElem_set] at e
  split at e
  · exact .inl e.symm
  · rename_i hne
    refine .inr ⟨i, fun q => hne q.symm, ?_⟩
    rw [List.length_set] at hi
    rw [List.getElem?_eq_getElem hi, e]
theorem Own.mut (O : Own B cs H) (j : Nat) (h : cs[j]? = some (a, o)) (e : ∀ b u, b ≠ a → H b = some u → H' b = some u) (ha : H' a = some o') : Own B (cs.set j (a, o')) H' := by
  have hm : (a, o) ∈ cs := List.mem_of_getElem? h
  have hB : B a = none := O.out _ hm
  have key : (cs.set j (a, o')).map (·.1) = cs.map (·.1) := by
    rw [List.map_set]
    apply List.ext_getElem?
    intro i
    rw [List.getElem?_set]
    split
    · rename_i hij
      subst hij
      rw [List.getElem?_map, h]
      split
      · rfl
      · rename_i hl
        have := (List.getElem?_eq_some_iff.mp h).1
        rw [List.length_map] at hl
        exact absurd this hl
    · rfl
  have apart : ∀ i c, i ≠ j → cs[i]? = some c → c.1 ≠ a := by
    intro i c hij hc e'
    have h1 : (cs.map (·.1))[i]? = some a := by rw [List.getElem?_map, hc, ← e'] <;> rfl
    have h2 : (cs.map (·.1))[j]? = some a := by rw [List.getElem?_map, h] <;> rfl
    exact hij (nd_ix O.nd h1 h2)
  refine ⟨fun b x hb => ?_, fun c hc => ?_, fun c hc => ?_, by rw [key]; exact O.nd⟩
  · refine e b x (fun q => ?_) (O.fr b x hb)
    rw [q, hB] at hb
    cases hb
  · rcases mem_set hc with rfl | ⟨i, hi, hg⟩
    · exact hB
    · exact O.out c (List.mem_of_getElem? hg)
  · rcases mem_set hc with rfl | ⟨i, hi, hg⟩
    · exact ha
    · exact e _ _ (apart i c hi hg) (O.have_ c (List.mem_of_getElem? hg))
theorem Own.ne {b : Addr} {o2 : HO} (O : Own B cs H) (i j : Nat) (hi : cs[i]? = some (a, o)) (hj : cs[j]? = some (b, o2)) (hij : i ≠ j) : a ≠ b := by
  intro e
  subst e
  have h1 : (cs.map (·.1))[i]? = some a := by rw [List.getElem?_map, hi] <;> rfl
  have h2 : (cs.map (·.1))[j]? = some a := by rw [List.getElem?_map, hj] <;> rfl
  exact hij (nd_ix O.nd h1 h2)
theorem Own.neB {b : Addr} {o2 : HO} (O : Own B cs H) (i : Nat) (hi : cs[i]? = some (a, o)) (hb : B b = some o2) : b ≠ a := by
  intro e
  subst e
  rw [O.out _ (List.mem_of_getElem? hi)] at hb
  cases hb
theorem Own.set (O : Own B cs H) (j : Nat) (h : cs[j]? = some (a, o)) : Own B (cs.set j (a, o')) (upd H a o') :=
  O.mut j h (fun b u hb hu => by rw [upd_ne hb]; exact hu) upd_same
theorem Own.sub (O : Own B cs H) (s : cs'.Sublist cs) : Own B cs' H :=
  ⟨O.fr, fun c hc => O.out c (s.subset hc), fun c hc => O.have_ c (s.subset hc), O.nd.sublist (s.map _)⟩
theorem Own.tail {c : Addr × HO} (O : Own B (c :: cs) H) : Own B cs H := O.sub (List.sublist_cons_self _ _)
theorem Own.swap {c d : Addr × HO} (O : Own B (c :: d :: cs) H) : Own B (d :: c :: cs) H :=
  ⟨O.fr, fun x hx => O.out x (by simp only [List.mem_cons] at hx ⊢; rcases hx with h | h | h <;> simp [h]), fun x hx => O.have_ x (by simp only [List.mem_cons] at hx ⊢; rcases hx with h | h | h <;> simp [h]), by
    have h := O.nd
    simp only [List.map_cons, List.nodup_cons, List.mem_cons, not_or] at h ⊢
    exact ⟨⟨fun e => h.1.1 e.symm, h.2.1⟩, h.1.2, h.2.2⟩⟩
/-- the cells that are kept, in any order -/
theorem Own.sel (O : Own B cs H) (h : ∀ c ∈ cs', c ∈ cs) (nd : (cs'.map (·.1)).Nodup) : Own B cs' H := ⟨O.fr, fun c hc => O.out c (h c hc), fun c hc => O.have_ c (h c hc), nd⟩
theorem Own.perm (O : Own B cs H) (s : cs'.Perm cs) : Own B cs' H :=
  ⟨O.fr, fun c hc => O.out c (s.subset hc), fun c hc => O.have_ c (s.subset hc), (s.map _).nodup_iff.mpr O.nd⟩
theorem Own.rot (O : Own B cs H) (k : Nat) : Own B (cs.drop k ++ cs.take k) H := O.perm (by
  have h := List.perm_append_comm (l₁ := cs.drop k) (l₂ := cs.take k)
  rwa [List.take_append_drop] at h)
theorem Own.rotT {c : Addr × HO} (O : Own B (c :: cs) H) (k : Nat) : Own B (c :: (cs.drop k ++ cs.take k)) H := O.perm ((by
  have h := List.perm_append_comm (l₁ := cs.drop k) (l₂ := cs.take k)
  rwa [List.take_append_drop] at h : (cs.drop k ++ cs.take k).Perm cs).cons c)
/-- the first cell stays from now on -/
theorem Own.freeze (O : Own B ((p, o) :: cs) H) : Own (L2.upd B p o) cs H := by
  have hnd := List.nodup_cons.mp (show (p :: cs.map (·.1)).Nodup from O.nd)
  refine ⟨fun b x hb => ?_, fun c hc => ?_, fun c hc => O.have_ c (.tail _ hc), hnd.2⟩
  · by_cases hbp : b = p
    · subst hbp
      rw [upd_same] at hb
      cases hb
      exact O.have_ _ (.head _)
    · rw [upd_ne hbp] at hb
      exact O.fr b x hb
  · rw [upd_ne (fun q => hnd.1 (by rw [← q]; exact List.mem_map.mpr ⟨c, hc, rfl⟩))]
    exact O.out c (.tail _ hc)
theorem Own.freezeB (O : Own B ((p, o) :: cs) H) : Same B (L2.upd B p o) := Same.upd (O.out _ (.head _))
/-- a callee's result: what stood stands, and is it a new thing -/
theorem Own.back (O : Own B cs H) (e : ∀ b u, B b = some u → H' b = some u) (k : ∀ c ∈ cs, H' c.1 = some c.2) : Own B cs H' := ⟨e, O.out, k, O.nd⟩
theorem own_new {Q : VK} (O : Own B cs H) (k : ∀ p H', H p = none → Own B ((p, o) :: cs) H' → Q (.ref p) H') : ∀ p, H p = none → Q (.ref p) (L2.upd H p o) :=
  fun p np => k p _ np (O.alloc np)
end

/-- the heap without some of its things: what a def may not touch -/
def dels (H : Hp) (as : List Addr) : Hp := fun b => if b ∈ as then none else H b
theorem dels_in {H : Hp} {as : List Addr} {b : Addr} (h : b ∈ as) : dels H as b = none := by unfold dels; rw [if_pos h]
theorem dels_out {H : Hp} {as : List Addr} {b : Addr} (h : b ∉ as) : dels H as b = H b := by unfold dels; rw [if_neg h]
theorem dels_same (H : Hp) (as : List Addr) : Same (dels H as) H := fun b o h => by
  unfold dels at h
  split at h
  · cases h
  · exact h
theorem Own.args {H : Hp} (cs : List (Addr × HO)) (h : ∀ c ∈ cs, H c.1 = some c.2) (nd : (cs.map (·.1)).Nodup) : Own (dels H (cs.map (·.1))) cs H :=
  ⟨dels_same _ _, fun c hc => dels_in (List.mem_map.mpr ⟨c, hc, rfl⟩), h, nd⟩
theorem Own.arg1 {H : Hp} {a : Addr} {o : HO} (h : H a = some o) : Own (dels H [a]) [(a, o)] H :=
  Own.args [(a, o)] (fun c hc => by rw [List.mem_singleton.mp hc]; exact h) (by simp)
/-- what a def that was handed some things leaves -/
theorem Own.give {H H' : Hp} {as : List Addr} {cs : List (Addr × HO)} (O : Own (dels H as) cs H') : ∀ b u, b ∉ as → H b = some u → H' b = some u :=
  fun b u hb h => O.fr b u (by rw [dels_out hb]; exact h)
theorem Own.give1 {H H' : Hp} {a : Addr} {cs : List (Addr × HO)} (O : Own (dels H [a]) cs H') : ∀ b u, b ≠ a → H b = some u → H' b = some u :=
  fun b u hb h => O.give b u (fun q => hb (List.mem_singleton.mp q)) h
theorem sq_dels {K : PySem.W.Frag} {H : Hp} {as : List Addr} {a : Addr} {xs : List V} (n : a ∉ as) (h : SqL K H a xs) : SqL K (dels H as) a xs := by
  rcases h with (h | ⟨o, h⟩) | h
  · exact .inl (.inl (by rw [dels_out n]; exact h))
  · exact .inl (.inr ⟨o, by rw [dels_out n]; exact h⟩)
  · exact .inr h

/-! ### data stays -/
theorem sq_t {K : PySem.W.Frag} {H H' : Hp} {a : Addr} {xs : List V} (e : Same H H') (h : SqT K H a xs) : SqT K H' a xs := by
  rcases h with (h | ⟨o, h⟩) | h
  · exact .inl (.inl (e _ _ h))
  · exact .inl (.inr ⟨o, e _ _ h⟩)
  · exact .inr h
mutual
theorem dp_ex {K : PySem.W.Frag} {H H' : Hp} (e : Same H H') : ∀ {v : V} {d : PyData}, Dp K H v d → Dp K H' v d
  | _, _, .non => .non
  | _, _, .bl b => .bl b
  | _, _, .int i => .int i
  | _, _, .str x => .str x
  | _, _, .lst h a => .lst (e.seq h) (dps_ex e a)
  | _, _, .tup h a => .tup (sq_t e h) (dps_ex e a)
theorem dps_ex {K : PySem.W.Frag} {H H' : Hp} (e : Same H H') : ∀ {vs : List V} {ds : List PyData}, DpAll K H vs ds → DpAll K H' vs ds
  | _, _, .nil => .nil
  | _, _, .cons h a => .cons (dp_ex e h) (dps_ex e a)
end
theorem dps_len {K : PySem.W.Frag} {H : Hp} : ∀ {vs : List V} {ds : List PyData}, DpAll K H vs ds → vs.length = ds.length
  | _, _, .nil => rfl
  | _, _, .cons _ a => congrArg (· + 1) (dps_len a)
theorem dps_get {K : PySem.W.Frag} {H : Hp} : ∀ {vs : List V} {ds : List PyData} {i : Nat} {v : V}, DpAll K H vs ds → vs[i]? = some v → ∃ d, ds[i]? = some d ∧ Dp K H v d
  | _, _, _, _, .nil, h => by simp at h
  | _, _, 0, _, .cons h _, e => by
    cases (show some _ = some _ from e)
    exact ⟨_, rfl, h⟩
  | _, _, i + 1, _, .cons _ a, e => dps_get (i := i) a (by simpa using e)
theorem dps_getD {K : PySem.W.Frag} {H : Hp} : ∀ {vs : List V} {ds : List PyData} {i : Nat} {d : PyData}, DpAll K H vs ds → ds[i]? = some d → ∃ v, vs[i]? = some v ∧ Dp K H v d
  | _, _, _, _, .nil, h => by simp at h
  | _, _, 0, _, .cons h _, e => by
    cases (show some _ = some _ from e)
    exact ⟨_, rfl, h⟩
  | _, _, i + 1, _, .cons _ a, e => dps_getD (i := i) a (by simpa using e)
theorem dps_app {K : PySem.W.Frag} {H : Hp} : ∀ {vs vs' : List V} {ds ds' : List PyData}, DpAll K H vs ds → DpAll K H vs' ds' → DpAll K H (vs ++ vs') (ds ++ ds')
  | _, _, _, _, .nil, b => b
  | _, _, _, _, .cons h a, b => .cons h (dps_app a b)
theorem dps_snoc {K : PySem.W.Frag} {H : Hp} {vs : List V} {ds : List PyData} {v : V} {d : PyData} (a : DpAll K H vs ds) (h : Dp K H v d) : DpAll K H (vs ++ [v]) (ds ++ [d]) := dps_app a (.cons h .nil)
theorem dps_take {K : PySem.W.Frag} {H : Hp} : ∀ {vs : List V} {ds : List PyData} (n : Nat), DpAll K H vs ds → DpAll K H (vs.take n) (ds.take n)
  | _, _, 0, _ => .nil
  | _, _, _ + 1, .nil => .nil
  | _, _, n + 1, .cons h a => .cons h (dps_take n a)
theorem dps_drop {K : PySem.W.Frag} {H : Hp} : ∀ {vs : List V} {ds : List PyData} (n : Nat), DpAll K H vs ds → DpAll K H (vs.drop n) (ds.drop n)
  | _, _, 0, a => a
  | _, _, _ + 1, .nil => .nil
  | _, _, n + 1, .cons _ a => dps_drop n a
theorem dps_int {K : PySem.W.Frag} {H : Hp} : ∀ ns : List Int, DpAll K H (ns.map V.int) (ns.map PyData.int)
  | [] => .nil
  | n :: ns => .cons (.int n) (dps_int ns)

/-! ### rules with names -/
section
variable {X : Cx}
def rAddU (K : PySem.W.Frag) : R2 := fun x y H Q => rI0 (fun i j => .int (i + j)) x y H Q ∨ ((∃ i j, x = .str i ∧ y = .str j ∧ i.length + j.length ≤ sizeLine ∧ Q (.str (i ++ j)) H) ∨ (rCat x y H Q ∨ rCatA K x y H Q))
theorem op_addU : OpR X (binaryOp .Add) (rAddU X.K) := OpR.or op_add (OpR.or op_add_str (OpR.or op_cat op_catA))
def rMulU : R2 := fun x y H Q => rI CMul (fun i j => .int (i * j)) x y H Q ∨ rRep x y H Q
theorem op_mulU : OpR X (binaryOp .Mult) rMulU := OpR.or op_mul op_rep
def rEqU (K : PySem.W.Frag) : R2 := fun x y H Q => rEq x y H Q ∨ rEqD K x y H Q
def rNeU (K : PySem.W.Frag) : R2 := fun x y H Q => rNe x y H Q ∨ rNeD K x y H Q
theorem op_eqU (hu : X.A.units + 64 < cLine) : OpR X (compareOp .Eq) (rEqU X.K) := OpR.or op_eq (op_eqD hu)
theorem op_neU (hu : X.A.units + 64 < cLine) : OpR X (compareOp .NotEq) (rNeU X.K) := OpR.or op_ne (op_neD hu)
def rInS : R2 := fun x y H Q => ∃ (c : Nat) (z : Str), x = .str ⟨#[c]⟩ ∧ y = .str z ∧ Q (.bl (decide (c ∈ z.cps.toList))) H
def rNotInS : R2 := fun x y H Q => ∃ (c : Nat) (z : Str), x = .str ⟨#[c]⟩ ∧ y = .str z ∧ Q (.bl (!decide (c ∈ z.cps.toList))) H
def rInU (K : PySem.W.Frag) : R2 := fun x y H Q => rIn K false x y H Q ∨ (rInS x y H Q ∨ rInD K x y H Q)
def rNotInU (K : PySem.W.Frag) : R2 := fun x y H Q => rIn K true x y H Q ∨ (rNotInS x y H Q ∨ rNotInD K x y H Q)
theorem op_inU (hu : X.A.units + 65 < cLine) : OpR X (compareOp .In) (rInU X.K) := OpR.or op_in_seq (OpR.or op_in_sign (op_inD hu))
theorem op_notInU (hu : X.A.units + 65 < cLine) : OpR X (compareOp .NotIn) (rNotInU X.K) := OpR.or op_notIn_seq (OpR.or op_notIn_sign (op_notInD hu))
def rIsN : R2 := fun x y H Q => y = .non ∧ Q (.bl (decide (x = .non))) H
def rNotN : R2 := fun x y H Q => y = .non ∧ Q (.bl (!decide (x = .non))) H
theorem op_isNU : OpR X (compareOp .Is) rIsN := op_isN
theorem op_notNU : OpR X (compareOp .IsNot) rNotN := op_notN
def rLenU (K : PySem.W.Frag) : List V → Hp → VK → Prop := fun xs H Q => ∃ x n, xs = [x] ∧ LenV K x H n ∧ Q (.int n) H
theorem call_lenU : CallR X (.builtin "len") (rLenU X.K) := call_len
def rLenDK : List V → Hp → VK → Prop := fun xs H Q => ∃ a kvs, xs = [V.ref a] ∧ H a = some (.dK kvs) ∧ Q (.int kvs.length) H
theorem call_lenDK : CallR X (.builtin "len") rLenDK := call_lenD
def rIntU : List V → Hp → VK → Prop := fun xs H Q => (∃ i, xs = [.int i] ∧ Q (.int i) H) ∨ ∃ k, xs = [.bl k] ∧ Q (.int (if k then 1 else 0)) H
theorem call_intU : CallR X (.type "int") rIntU := call_int1
def rMin2 : List V → Hp → VK → Prop := fun xs H Q => ∃ i j, xs = [.int i, .int j] ∧ Q (.int (if j < i then j else i)) H
theorem call_min2U (hc : X.calm = true) : CallR X (.builtin "min") rMin2 := call_min2 hc
def rMax2 : List V → Hp → VK → Prop := fun xs H Q => ∃ i j, xs = [.int i, .int j] ∧ Q (.int (if j > i then j else i)) H
theorem call_max2U (hc : X.calm = true) : CallR X (.builtin "max") rMax2 := call_max2 hc
def rListU (K : PySem.W.Frag) : List V → Hp → VK → Prop := fun xs H Q => ∃ p ys, xs = [.ref p] ∧ (SqL K H p ys ∨ SqT K H p ys) ∧ ∀ l, H l = none → Q (.ref l) (upd H l (.lst ys))
theorem call_listU : CallR X (.type "list") (rListU X.K) := call_list_of
def rTupleU (K : PySem.W.Frag) : List V → Hp → VK → Prop := fun xs H Q => ∃ p ys, xs = [.ref p] ∧ ((SqL K H p ys ∧ ∀ l, H l = none → Q (.ref l) (upd H l (.tup ys))) ∨ (SqT K H p ys ∧ Q (.ref p) H))
theorem call_tupleU : CallR X (.type "tuple") (rTupleU X.K) := call_tuple_of
def rIsiU (K : PySem.W.Frag) : List V → Hp → VK → Prop := fun xs H Q => rIsi K xs H Q ∨ rIsiT K xs H Q
theorem call_isiU : CallR X (.builtin "isinstance") (rIsiU X.K) := CallR.or call_isi call_isiT
def rInsert : V → List V → Hp → VK → Prop := fun x vs H Q => ∃ (l : Addr) (xs : List V) (i : Int) (y : V), x = .ref l ∧ vs = [.int i, y] ∧ H l = some (.lst xs) ∧ xs.length < sizeLine ∧ 0 ≤ i ∧ i < 2 ^ 63 ∧ Q .non (upd H l (.lst (xs.take i.toNat ++ [y] ++ xs.drop i.toNat)))
theorem mt_insertU : MtR X "list.insert" rInsert := mt_insert
def rSlU (K : PySem.W.Frag) : V → Option Int → Option Int → Hp → VK → Prop := fun x lo hi H Q => rSlL K x lo hi H Q ∨ (rSlS x lo hi H Q ∨ rSlA K x lo hi H Q)
theorem sl_U : SlR X (rSlU X.K) := SlR.or sl_list (SlR.or sl_str sl_tupA)
theorem PI.or {tg l : Expr} {w1 w2 : TI} (h1 : PI X tg l w1) (h2 : PI X tg l w2) : PI X tg l (fun σ H R => w1 σ H R ∨ w2 σ H R) := by
  refine ⟨fun pins s σ H R I h => ?_⟩
  rcases h with h | h
  · exact h1.run pins s σ H R I h
  · exact h2.run pins s σ H R I h
theorem get_list : PGet X (rIxL X.K) := by
  intro pins s σ H o i ov iv Q I ro ri h
  obtain ⟨p, xs, k, v, rfl, rfl, hq, he, q⟩ := h
  cases ro
  obtain ⟨t, rfl⟩ := ri
  obtain ⟨its, r, pl, hz⟩ := I.list hq
  obtain ⟨j, h1, h2, h3, h4, h5⟩ := atI_get he
  obtain ⟨w, ew, rw'⟩ := r.get h2
  have hl := r.length
  have hn := line63
  have fin : EP X pins σ Q w s := ⟨v, H, I, rw', q⟩
  by_cases h0 : 0 ≤ k
  · have hj : k.toNat = j := by
      rw [seqIndex_of h0 h5] at h1
      exact Option.some.inj h1
    exact wpAny_getItem_list pl.isList h0 (by omega) (by rw [hj]; simpa using ew) fin
  · have hj : (k + (its.toArray.size : Int)).toNat = j := by
      rw [seqIndex_neg (by omega) h4] at h1
      rw [List.size_toArray, ← hl]
      exact Option.some.inj h1
    exact wpAny_getItem_list_neg (Q := fun r s' => EP X pins σ Q r s') pl.isList (by omega) (by rw [List.size_toArray] <;> omega) (by omega) (by rw [hj]; simpa using ew) fin
end
end Zl

/-! Zg: the readings, step by step (what is to be shown of the values as they stand) -/
namespace Zl
open PySem PySem.Spec PyProof.Rows L2
section
variable {K : PySem.W.Frag} {σ : L2.St} {H : Hp} {Q : VK} {i : Nat} {v x y : V} {ta tb te tv : TE} {tt t u : TT} {as tr : TA} {D : Ends} {s1 s2 : TS} {g : TG} {tget : V → V → Hp → VK → Prop} {tip : TIp} {tset : TSet}
/-- a new thing -/
def newQ (o : HO) (Q : VK) (H : Hp) : Prop := ∀ p, H p = none → Q (.ref p) (upd H p o)
def newK (o : HO) (n : Nat) (Q : VK) (H : Hp) : Prop := n ≤ sizeLine ∧ newQ o Q H
def blK (Q : Bool → Hp → Prop) (x : V) (H : Hp) : Prop := ∃ k, x = .bl k ∧ Q k H
def andK (tb : TE) (σ : L2.St) (Q : VK) (x : V) (H1 : Hp) : Prop := ∃ c, x = .bl c ∧ if c = true then tb σ H1 Q else Q (.bl false) H1
def orK (tb : TE) (σ : L2.St) (Q : VK) (x : V) (H1 : Hp) : Prop := ∃ c, x = .bl c ∧ if c = true then Q (.bl true) H1 else tb σ H1 Q
def notK (Q : VK) (x : V) (H1 : Hp) : Prop := ∃ c, x = .bl c ∧ Q (.bl (!c)) H1
def partK (Q : Option Int → Hp → Prop) (x : V) (H1 : Hp) : Prop := ∃ i, x = .int i ∧ Q (some i) H1
def fldK (K : PySem.W.Frag) (f : Str) (Q : VK) (x : V) (H1 : Hp) : Prop := ∃ a C dx fs v, x = .ref a ∧ H1 a = some (.ins C dx fs) ∧ Cls K C ∧ NoAttr K C f ∧ fs.lookup f = some v ∧ Q v H1
def methK (m : Str) (C : Addr) (sp : Sp) (dvs : List V) (E : XK) (as : TA) (σ : L2.St) (Q : VK) (x : V) (H1 : Hp) : Prop := ∃ a dx fs, x = .ref a ∧ H1 a = some (.ins C dx fs) ∧ fs.lookup m = none ∧ as σ H1 fun vs H2 => sp (x :: (vs ++ dvs)) H2 Q E
def bmK (K : PySem.W.Frag) (T : String) (r : V → List V → Hp → VK → Prop) (as : TA) (σ : L2.St) (Q : VK) (x : V) (H1 : Hp) : Prop := tyV K T x H1 ∧ as σ H1 fun xs H2 => r x xs H2 Q
def bm0K (K : PySem.W.Frag) (T : String) (r : V → List V → Hp → VK → Prop) (Q : VK) (x : V) (H1 : Hp) : Prop := tyV K T x H1 ∧ r x [] H1 Q
theorem g_var (h : σ[i]? = some (some v)) (k : Q v H) : tVar i σ H Q := ⟨v, h, k⟩
theorem g_c (k : Q v H) : tC v σ H Q := k
theorem g_op {r : R2} (k : ta σ H fun x H1 => tb σ H1 fun y H2 => r x y H2 Q) : tOp r ta tb σ H Q := k
theorem g_un {r : V → Hp → VK → Prop} (k : ta σ H fun x H1 => r x H1 Q) : tUn r ta σ H Q := k
theorem g_test {Q : Bool → Hp → Prop} (k : te σ H (blK Q)) : tTest te σ H Q := k
theorem g_B {Q : Bool → Hp → Prop} (k : te σ H (blK Q)) : tB te σ H Q := k
theorem g_and {Q : Bool → Hp → Prop} (k : t σ H fun c H1 => if c = true then u σ H1 Q else Q false H1) : tAnd t u σ H Q := k
theorem g_or {Q : Bool → Hp → Prop} (k : t σ H fun c H1 => if c = true then Q true H1 else u σ H1 Q) : tOr t u σ H Q := k
theorem g_not {Q : Bool → Hp → Prop} (k : t σ H fun c H1 => Q (!c) H1) : tNot t σ H Q := k
theorem g_andV (k : ta σ H (andK tb σ Q)) : tAndV ta tb σ H Q := k
theorem g_orV (k : ta σ H (orK tb σ Q)) : tOrV ta tb σ H Q := k
theorem g_notV (k : ta σ H (notK Q)) : tNotV ta σ H Q := k
theorem g_if (k : t σ H fun c H1 => if c = true then ta σ H1 Q else tb σ H1 Q) : tIf t ta tb σ H Q := k
theorem g_nil {Q : List V → Hp → Prop} (k : Q [] H) : tNil σ H Q := k
theorem g_cons {Q : List V → Hp → Prop} (k : te σ H fun x H1 => tr σ H1 fun xs H2 => Q (x :: xs) H2) : tCons te tr σ H Q := k
theorem g_call {sp : Sp} {dvs : List V} {E : XK} (k : as σ H fun vs H1 => sp (vs ++ dvs) H1 Q E) : tCall sp dvs E as σ H Q := k
theorem g_cb {r : List V → Hp → VK → Prop} (k : as σ H fun vs H1 => r vs H1 Q) : tCB r as σ H Q := k
theorem g_tup (k : as σ H fun xs H1 => newK (.tup xs) xs.length Q H1) : tTup as σ H Q := k
theorem g_lst (k : as σ H fun xs H1 => newK (.lst xs) xs.length Q H1) : tLst as σ H Q := k
theorem g_sl {r : V → Option Int → Option Int → Hp → VK → Prop} {tl th : TO} (k : te σ H fun x H1 => tl σ H1 fun l H2 => th σ H2 fun u H3 => r x l u H3 Q) : tSl r te tl th σ H Q := k
theorem g_nopart {Q : Option Int → Hp → Prop} (k : Q none H) : tNoPart σ H Q := k
theorem g_part {Q : Option Int → Hp → Prop} (k : te σ H (partK Q)) : tPart te σ H Q := k
theorem g_bm {T : String} {r : V → List V → Hp → VK → Prop} (k : te σ H (bmK K T r as σ Q)) : tBM K T r te as σ H Q := k
theorem g_bm0 {T : String} {r : V → List V → Hp → VK → Prop} (k : te σ H (bm0K K T r Q)) : tBM0 K T r te σ H Q := k
theorem g_fld {f : Str} (k : te σ H (fldK K f Q)) : tFld K te f σ H Q := k
theorem g_meth {C : Addr} {m : Str} {sp : Sp} {dvs : List V} {E : XK} (k : te σ H (methK m C sp dvs E as σ Q)) : tMeth C m sp dvs E te as σ H Q := k
/-! statements -/
theorem g_seq (k : s1 { D with nx := s2 D } σ H) : tSeq s1 s2 D σ H := k
theorem g_next (k : D.nx σ H) : tNext D σ H := k
theorem g_brk (k : D.bk σ H) : tBreak D σ H := k
theorem g_cont (k : D.ct σ H) : tCont D σ H := k
theorem g_drop (k : te σ H fun _ H1 => D.nx σ H1) : tDrop te D σ H := k
theorem g_ret (k : te σ H D.rt) : tRet te D σ H := k
theorem g_retN (k : D.rt .non H) : tRetN D σ H := k
theorem g_asg (k : te σ H fun x H1 => g x σ H1 D.nx) : tAsg te g D σ H := k
theorem g_name {Q : L2.St → Hp → Prop} (k : Q (σ.set i (some v)) H) : gName i v σ H Q := k
theorem g_ifS (k : tt σ H fun b H1 => if b = true then s1 D σ H1 else s2 D σ H1) : tIfS tt s1 s2 D σ H := k
theorem g_aug (h : σ[i]? = some (some x)) (k : te σ H fun y H1 => tip x y H1 fun z H2 => D.nx (σ.set i (some z)) H2) : tAug i te tip D σ H := ⟨x, h, k⟩
theorem g_augS (k : ta σ H fun o H1 => tb σ H1 fun i H2 => tget o i H2 fun x H3 => te σ H3 fun y H4 => tip x y H4 fun z H5 => tset o i z H5 fun H6 => D.nx σ H6) : tAugS ta tb te tget tip tset D σ H := k
theorem g_gsub {Q : L2.St → Hp → Prop} (k : ta σ H fun o H1 => tb σ H1 fun i H2 => tset o i v H2 fun H3 => Q σ H3) : gSub ta tb tset v σ H Q := k
theorem g_gtup {n : Nat} {tg : TGs} {Q : L2.St → Hp → Prop} {a : Addr} {xs : List V} (h : SqT K H a xs) (hl : xs.length = n) (k : tg xs σ H Q) : gTup K n tg (.ref a) σ H Q := ⟨a, xs, rfl, h, hl, k⟩
theorem g_glst {n : Nat} {tg : TGs} {Q : L2.St → Hp → Prop} {a : Addr} {xs : List V} (h : SqL K H a xs) (hl : xs.length = n) (k : tg xs σ H Q) : gLst K n tg (.ref a) σ H Q := ⟨a, xs, rfl, h, hl, k⟩
theorem g_gcons {tg : TGs} {vs : List V} {Q : L2.St → Hp → Prop} (k : g v σ H fun σ' H' => tg vs σ' H' Q) : gCons g tg (v :: vs) σ H Q := ⟨v, vs, rfl, k⟩
theorem g_gnil {Q : L2.St → Hp → Prop} (k : Q σ H) : gNil [] σ H Q := ⟨rfl, k⟩
/-! values -/
theorem g_bl {b : Bool} {Q : Bool → Hp → Prop} (k : Q b H) : blK Q (.bl b) H := ⟨b, rfl, k⟩
theorem g_int {n : Int} {Q : Option Int → Hp → Prop} (k : Q (some n) H) : partK Q (.int n) H := ⟨n, rfl, k⟩
theorem g_andK {b : Bool} (k : if b = true then tb σ H Q else Q (.bl false) H) : andK tb σ Q (.bl b) H := ⟨b, rfl, k⟩
theorem g_orK {b : Bool} (k : if b = true then Q (.bl true) H else tb σ H Q) : orK tb σ Q (.bl b) H := ⟨b, rfl, k⟩
theorem g_notK {b : Bool} (k : Q (.bl (!b)) H) : notK Q (.bl b) H := ⟨b, rfl, k⟩
theorem g_fldK {a C dx : Addr} {fs : List (Str × V)} {f : Str} (h : H a = some (.ins C dx fs)) (cl : Cls K C) (na : NoAttr K C f) (hl : fs.lookup f = some v) (k : Q v H) : fldK K f Q (.ref a) H := ⟨a, C, dx, fs, v, rfl, h, cl, na, hl, k⟩
theorem g_methK {a C dx : Addr} {fs : List (Str × V)} {m : Str} {sp : Sp} {dvs : List V} {E : XK} (h : H a = some (.ins C dx fs)) (hl : fs.lookup m = none) (k : as σ H fun vs H2 => sp (.ref a :: (vs ++ dvs)) H2 Q E) : methK m C sp dvs E as σ Q (.ref a) H := ⟨a, dx, fs, rfl, h, hl, k⟩
variable {m n : Int} {z w : Str}
theorem g_addI (k : Q (.int (m + n)) H) : rAddU K (.int m) (.int n) H Q := .inl ⟨m, n, rfl, rfl, k⟩
theorem g_addS (h : z.length + w.length ≤ sizeLine) (k : Q (.str (z ++ w)) H) : rAddU K (.str z) (.str w) H Q := .inr (.inl ⟨z, w, rfl, rfl, h, k⟩)
theorem g_addL {a b : Addr} {xs ys : List V} (h1 : H a = some (.lst xs)) (h2 : H b = some (.lst ys)) (h : xs.length + ys.length ≤ sizeLine) (k : newQ (.lst (xs ++ ys)) Q H) : rAddU K (.ref a) (.ref b) H Q :=
  .inr (.inr (.inl ⟨a, b, xs, ys, rfl, rfl, h1, h2, h, k⟩))
theorem g_subI (k : Q (.int (m - n)) H) : rI0 (fun i j => .int (i - j)) (.int m) (.int n) H Q := ⟨m, n, rfl, rfl, k⟩
theorem g_mulI (h : CMul m n) (k : Q (.int (m * n)) H) : rMulU (.int m) (.int n) H Q := .inl ⟨m, n, rfl, rfl, h, k⟩
theorem g_modI (h : 0 < n) (k : Q (.int (m % n)) H) : rI (fun _ j => 0 < j) (fun i j => .int (i % j)) (.int m) (.int n) H Q := ⟨m, n, rfl, rfl, h, k⟩
theorem g_divI (h : CDiv m n) (k : Q (.int (m / n)) H) : rI CDiv (fun i j => .int (i / j)) (.int m) (.int n) H Q := ⟨m, n, rfl, rfl, h, k⟩
theorem g_powI (h : CPow m n) (k : Q (.int (m ^ n.toNat)) H) : rI CPow (fun i j => .int (i ^ j.toNat)) (.int m) (.int n) H Q := ⟨m, n, rfl, rfl, h, k⟩
theorem g_ltI (k : Q (.bl (decide (m < n))) H) : rI0 (fun i j => .bl (decide (i < j))) (.int m) (.int n) H Q := ⟨m, n, rfl, rfl, k⟩
theorem g_leI (k : Q (.bl (decide (m ≤ n))) H) : rI0 (fun i j => .bl (decide (i ≤ j))) (.int m) (.int n) H Q := ⟨m, n, rfl, rfl, k⟩
theorem g_gtI (k : Q (.bl (decide (n < m))) H) : rI0 (fun i j => .bl (decide (j < i))) (.int m) (.int n) H Q := ⟨m, n, rfl, rfl, k⟩
theorem g_geI (k : Q (.bl (decide (n ≤ m))) H) : rI0 (fun i j => .bl (decide (j ≤ i))) (.int m) (.int n) H Q := ⟨m, n, rfl, rfl, k⟩
theorem g_neg (k : Q (.int (-m)) H) : rU (fun i => .int (-i)) (.int m) H Q := ⟨m, rfl, k⟩
theorem g_ipadd (k : Q (.int (m + n)) H) : ipI (fun i j => i + j) (.int m) (.int n) H Q := ⟨m, n, rfl, rfl, k⟩
theorem g_ipsub (k : Q (.int (m - n)) H) : ipI (fun i j => i - j) (.int m) (.int n) H Q := ⟨m, n, rfl, rfl, k⟩
/-- equal, by the values themselves -/
theorem g_eqI (k : Q (.bl (decide (m = n))) H) : rEqU K (.int m) (.int n) H Q := .inl ⟨rfl, by
  have e : decide (V.int m = V.int n) = decide (m = n) := by
    by_cases h : m = n
    · rw [h]; simp
    · rw [decide_eq_false h, decide_eq_false fun q => h (V.int.inj q)]
  rw [e]; exact k⟩
theorem g_neI (k : Q (.bl (!decide (m = n))) H) : rNeU K (.int m) (.int n) H Q := .inl ⟨rfl, by
  have e : decide (V.int m = V.int n) = decide (m = n) := by
    by_cases h : m = n
    · rw [h]; simp
    · rw [decide_eq_false h, decide_eq_false fun q => h (V.int.inj q)]
  rw [e]; exact k⟩
theorem g_eqS (k : Q (.bl (decide (z = w))) H) : rEqU K (.str z) (.str w) H Q := .inl ⟨rfl, by
  have e : decide (V.str z = V.str w) = decide (z = w) := by
    by_cases h : z = w
    · rw [h]; simp
    · rw [decide_eq_false h, decide_eq_false fun q => h (V.str.inj q)]
  rw [e]; exact k⟩
theorem g_neS (k : Q (.bl (!decide (z = w))) H) : rNeU K (.str z) (.str w) H Q := .inl ⟨rfl, by
  have e : decide (V.str z = V.str w) = decide (z = w) := by
    by_cases h : z = w
    · rw [h]; simp
    · rw [decide_eq_false h, decide_eq_false fun q => h (V.str.inj q)]
  rw [e]; exact k⟩
theorem g_eqB {a b : Bool} (k : Q (.bl (a == b)) H) : rEqU K (.bl a) (.bl b) H Q := .inl ⟨rfl, by
  have e : decide (V.bl a = V.bl b) = (a == b) := by cases a <;> cases b <;> rfl
  rw [e]; exact k⟩
theorem g_neB {a b : Bool} (k : Q (.bl (a != b)) H) : rNeU K (.bl a) (.bl b) H Q := .inl ⟨rfl, by
  have e : (!decide (V.bl a = V.bl b)) = (a != b) := by cases a <;> cases b <;> rfl
  rw [e]; exact k⟩
theorem g_eqD {d e : PyData} (h1 : Dp K H x d) (h2 : Dp K H y e) (s1 : SeqAt.shaped d = true) (s2 : SeqAt.shaped e = true) (k : Q (.bl (PyData.eqv d e)) H) : rEqU K x y H Q := .inr ⟨d, e, h1, h2, s1, s2, k⟩
theorem g_neD {d e : PyData} (h1 : Dp K H x d) (h2 : Dp K H y e) (s1 : SeqAt.shaped d = true) (s2 : SeqAt.shaped e = true) (k : Q (.bl (!PyData.eqv d e)) H) : rNeU K x y H Q := .inr ⟨d, e, h1, h2, s1, s2, k⟩
theorem g_isN (k : Q (.bl (decide (x = .non))) H) : rIsN x .non H Q := ⟨rfl, k⟩
theorem g_notN (k : Q (.bl (!decide (x = .non))) H) : rNotN x .non H Q := ⟨rfl, k⟩
theorem g_lenL {a : Addr} {xs : List V} (h : SqL K H a xs) (k : Q (.int xs.length) H) : rLenU K [.ref a] H Q := ⟨.ref a, xs.length, rfl, .inl ⟨xs, h, rfl⟩, k⟩
theorem g_lenT {a : Addr} {xs : List V} (h : SqT K H a xs) (k : Q (.int xs.length) H) : rLenU K [.ref a] H Q := ⟨.ref a, xs.length, rfl, .inr ⟨xs, h, rfl⟩, k⟩
theorem g_lenS (h : z.length ≤ sizeLine) (k : Q (.int z.length) H) : rLenU K [.str z] H Q := ⟨.str z, z.length, rfl, ⟨h, rfl⟩, k⟩
theorem g_intI (k : Q (.int m) H) : rIntU [.int m] H Q := .inl ⟨m, rfl, k⟩
theorem g_intB {b : Bool} (k : Q (.int (if b then 1 else 0)) H) : rIntU [.bl b] H Q := .inr ⟨b, rfl, k⟩
theorem g_min2 (k : Q (.int (min m n)) H) : rMin2 [.int m, .int n] H Q := ⟨m, n, rfl, by
  have e : (if n < m then n else m) = min m n := by
    rw [Int.min_def]; split <;> split <;> omega
  rw [e]; exact k⟩
theorem g_max2 (k : Q (.int (max m n)) H) : rMax2 [.int m, .int n] H Q := ⟨m, n, rfl, by
  have e : (if n > m then n else m) = max m n := by
    rw [Int.max_def]; split <;> split <;> omega
  rw [e]; exact k⟩
theorem g_listL {a : Addr} {xs : List V} (h : SqL K H a xs) (k : newQ (.lst xs) Q H) : rListU K [.ref a] H Q := ⟨a, xs, rfl, .inl h, k⟩
theorem g_listT {a : Addr} {xs : List V} (h : SqT K H a xs) (k : newQ (.lst xs) Q H) : rListU K [.ref a] H Q := ⟨a, xs, rfl, .inr h, k⟩
theorem g_tupleL {a : Addr} {xs : List V} (h : SqL K H a xs) (k : newQ (.tup xs) Q H) : rTupleU K [.ref a] H Q := ⟨a, xs, rfl, .inl ⟨h, k⟩⟩
theorem g_ixL {a : Addr} {xs : List V} (h : SqL K H a xs) (hi : atI xs m = some v) (k : Q v H) : rIx K (.ref a) (.int m) H Q := .inl ⟨a, xs, m, v, rfl, rfl, h, hi, k⟩
theorem g_ixT {a : Addr} {xs : List V} (h : SqT K H a xs) (hi : atI xs m = some v) (k : Q v H) : rIx K (.ref a) (.int m) H Q := .inr (.inl ⟨a, xs, m, v, rfl, rfl, h, hi, k⟩)
theorem g_ixS {c : Nat} (h : z.length ≤ sizeLine) (hi : atI z.cps.toList m = some c) (k : Q (.str ⟨#[c]⟩) H) : rIx K (.str z) (.int m) H Q := .inr (.inr ⟨z, m, c, rfl, rfl, h, hi, k⟩)
theorem g_ixLL {a : Addr} {xs : List V} (h : SqL K H a xs) (hi : atI xs m = some v) (k : Q v H) : rIxL K (.ref a) (.int m) H Q := ⟨a, xs, m, v, rfl, rfl, h, hi, k⟩
theorem g_slL {a : Addr} {xs : List V} {lo hi : Option Int} (h : SqL K H a xs) (k : newQ (.lst (cutV xs lo hi)) Q H) : rSlU K (.ref a) lo hi H Q := .inl ⟨a, xs, rfl, h, k⟩
theorem g_slS {lo hi : Option Int} (h : z.length ≤ sizeLine) (k : Q (.str (cutS z lo hi)) H) : rSlU K (.str z) lo hi H Q := .inr (.inl ⟨z, rfl, h, k⟩)
end
/-! tests whose outcome is open -/
theorem ite_d {p A B : Prop} {_ : Decidable p} (h1 : p → A) (h2 : ¬ p → B) : if decide p = true then A else B := by
  by_cases h : p
  · rw [decide_eq_true h, if_pos rfl]; exact h1 h
  · rw [decide_eq_false h, if_neg Bool.false_ne_true]; exact h2 h
theorem ite_nd {p A B : Prop} {_ : Decidable p} (h1 : ¬ p → A) (h2 : p → B) : if (!decide p) = true then A else B := by
  by_cases h : p
  · rw [decide_eq_true h]; exact h2 h
  · rw [decide_eq_false h]; exact h1 h
theorem ite_b {b : Bool} {A B : Prop} (h1 : b = true → A) (h2 : b = false → B) : if b = true then A else B := by
  cases b
  · exact h2 rfl
  · exact h1 rfl
theorem ite_nb {b : Bool} {A B : Prop} (h1 : b = false → A) (h2 : b = true → B) : if (!b) = true then A else B := by
  cases b
  · exact h1 rfl
  · exact h2 rfl
theorem atI_of {α : Type} {xs : List α} {m : Int} {v : α} (h0 : 0 ≤ m) (h : xs[m.toNat]? = some v) : atI xs m = some v := by
  have e : ((m.toNat : Nat) : Int) = m := Int.toNat_of_nonneg h0
  have q := atI_nat h
  rw [e] at q
  exact q
theorem atI_int {ns : List Int} {m : Int} (h0 : 0 ≤ m) (h : m < ns.length) : atI (ns.map V.int) m = some (.int (ns.getD m.toNat 0)) := by
  refine atI_of h0 ?_
  have hl : m.toNat < ns.length := by omega
  rw [List.getElem?_map, List.getElem?_eq_getElem hl, List.getD_eq_getElem?_getD, List.getElem?_eq_getElem hl] <;> rfl
end Zl

/-! Zd: data of tuples, what is an instance of what, room -/
namespace Zl
open PySem PySem.Spec PyProof.Rows L2

theorem small_of {n : Nat} (h : n < 16777216) : n < sizeLine := by rw [sizeLine_eq]; exact h
theorem small_le {n : Nat} (h : n ≤ 16777216) : n ≤ sizeLine := by rw [sizeLine_eq]; exact h
theorem hu64 {A : Around} {k : Nat} (hr : Room k A) : A.units + 64 < cLine := hr.units
theorem hu65 {A : Around} {k : Nat} (hr : Room k A) : A.units + 65 < cLine := by have := hr.un; omega
def tTr (K : PySem.W.Frag) (ta : TE) : TT := fun σ H Q => ta σ H fun x H' => ∃ k, TruV K x H' k ∧ Q k H'
theorem pt_tr {X : Cx} {a : Expr} {ta : TE} (he : ∀ whole, isTrue a X.env whole = (do let v ← whole; standAt a.pos; holding [v] (truthy v))) (h : PE X a ta) : PT X a (tTr X.K ta) := pt_truth h he
def trK (K : PySem.W.Frag) (Q : Bool → Hp → Prop) (x : V) (H : Hp) : Prop := ∃ k, TruV K x H k ∧ Q k H
theorem g_tr {K : PySem.W.Frag} {ta : TE} {σ : L2.St} {H : Hp} {Q : Bool → Hp → Prop} (k : ta σ H (trK K Q)) : tTr K ta σ H Q := k
theorem g_trB {K : PySem.W.Frag} {H : Hp} {b : Bool} {Q : Bool → Hp → Prop} (k : Q b H) : trK K Q (.bl b) H := ⟨b, rfl, k⟩

/-! ### data that is made of tuples alone: it stays whatever is written -/
mutual
inductive Td (H : Hp) : V → PyData → Prop
  | non : Td H .non .none
  | bl (b : Bool) : Td H (.bl b) (.bool b)
  | int (i : Int) : Td H (.int i) (.int i)
  | str (x : Str) : Td H (.str x) (.str x)
  | tup {a : Addr} {xs : List V} {ds : List PyData} : H a = some (.tup xs) → TdAll H xs ds → Td H (.ref a) (.tuple ds)
inductive TdAll (H : Hp) : List V → List PyData → Prop
  | nil : TdAll H [] []
  | cons {v : V} {vs : List V} {d : PyData} {ds : List PyData} : Td H v d → TdAll H vs ds → TdAll H (v :: vs) (d :: ds)
end
/-- the tuples stay -/
def Tup (H H' : Hp) : Prop := ∀ a xs, H a = some (.tup xs) → H' a = some (.tup xs)
theorem Tup.refl (H : Hp) : Tup H H := fun _ _ h => h
theorem Tup.trans {H H1 H2 : Hp} (a : Tup H H1) (b : Tup H1 H2) : Tup H H2 := fun x o h => b x o (a x o h)
theorem Tup.of {H H' : Hp} (e : Same H H') : Tup H H' := fun a xs h => e a _ h
theorem Tup.mut {H H' : Hp} {l : Addr} (hl : ∀ xs, H l ≠ some (.tup xs)) (e : ∀ b u, b ≠ l → H b = some u → H' b = some u) : Tup H H' := fun a xs h => e a _ (fun q => hl xs (by rw [← q]; exact h)) h
mutual
theorem td_tup {H H' : Hp} (e : Tup H H') : ∀ {v : V} {d : PyData}, Td H v d → Td H' v d
  | _, _, .non => .non
  | _, _, .bl b => .bl b
  | _, _, .int i => .int i
  | _, _, .str x => .str x
  | _, _, .tup h a => .tup (e _ _ h) (tds_tup e a)
theorem tds_tup {H H' : Hp} (e : Tup H H') : ∀ {vs : List V} {ds : List PyData}, TdAll H vs ds → TdAll H' vs ds
  | _, _, .nil => .nil
  | _, _, .cons h a => .cons (td_tup e h) (tds_tup e a)
end
mutual
theorem td_dp {K : PySem.W.Frag} {H : Hp} : ∀ {v : V} {d : PyData}, Td H v d → Dp K H v d
  | _, _, .non => .non
  | _, _, .bl b => .bl b
  | _, _, .int i => .int i
  | _, _, .str x => .str x
  | _, _, .tup h a => .tup (.inl (.inl h)) (tds_dp a)
theorem tds_dp {K : PySem.W.Frag} {H : Hp} : ∀ {vs : List V} {ds : List PyData}, TdAll H vs ds → DpAll K H vs ds
  | _, _, .nil => .nil
  | _, _, .cons h a => .cons (td_dp h) (tds_dp a)
end
theorem td_ex {H H' : Hp} (e : Same H H') {v : V} {d : PyData} (h : Td H v d) : Td H' v d := td_tup (Tup.of e) h
theorem tds_ex {H H' : Hp} (e : Same H H') {vs : List V} {ds : List PyData} (h : TdAll H vs ds) : TdAll H' vs ds := tds_tup (Tup.of e) h
theorem tds_len {H : Hp} : ∀ {vs : List V} {ds : List PyData}, TdAll H vs ds → vs.length = ds.length
  | _, _, .nil => rfl
  | _, _, .cons _ a => congrArg (· + 1) (tds_len a)
theorem tds_get {H : Hp} : ∀ {vs : List V} {ds : List PyData} {i : Nat} {v : V}, TdAll H vs ds → vs[i]? = some v → ∃ d, ds[i]? = some d ∧ Td H v d
  | _, _, _, _, .nil, h => by simp at h
  | _, _, 0, _, .cons h _, e => by
    cases (show some _ = some _ from e)
    exact ⟨_, rfl, h⟩
  | _, _, i + 1, _, .cons _ a, e => tds_get (i := i) a (by simpa using e)
theorem tds_getD {H : Hp} : ∀ {vs : List V} {ds : List PyData} {i : Nat} {d : PyData}, TdAll H vs ds → ds[i]? = some d → ∃ v, vs[i]? = some v ∧ Td H v d
  | _, _, _, _, .nil, h => by simp at h
  | _, _, 0, _, .cons h _, e => by
    cases (show some _ = some _ from e)
    exact ⟨_, rfl, h⟩
  | _, _, i + 1, _, .cons _ a, e => tds_getD (i := i) a (by simpa using e)
theorem tds_app {H : Hp} : ∀ {vs vs' : List V} {ds ds' : List PyData}, TdAll H vs ds → TdAll H vs' ds' → TdAll H (vs ++ vs') (ds ++ ds')
  | _, _, _, _, .nil, b => b
  | _, _, _, _, .cons h a, b => .cons h (tds_app a b)
theorem tds_snoc {H : Hp} {vs : List V} {ds : List PyData} {v : V} {d : PyData} (a : TdAll H vs ds) (h : Td H v d) : TdAll H (vs ++ [v]) (ds ++ [d]) := tds_app a (.cons h .nil)
theorem tds_take {H : Hp} : ∀ {vs : List V} {ds : List PyData} (n : Nat), TdAll H vs ds → TdAll H (vs.take n) (ds.take n)
  | _, _, 0, _ => .nil
  | _, _, _ + 1, .nil => .nil
  | _, _, n + 1, .cons h a => .cons h (tds_take n a)
theorem tds_drop {H : Hp} : ∀ {vs : List V} {ds : List PyData} (n : Nat), TdAll H vs ds → TdAll H (vs.drop n) (ds.drop n)
  | _, _, 0, a => a
  | _, _, _ + 1, .nil => .nil
  | _, _, n + 1, .cons _ a => tds_drop n a
theorem tds_int {H : Hp} : ∀ ns : List Int, TdAll H (ns.map V.int) (ns.map PyData.int)
  | [] => .nil
  | n :: ns => .cons (.int n) (tds_int ns)
/-- the frame with all tuples of the heap -/
def tupsOf (H B : Hp) : Hp := fun a => match H a with
  | some (.tup xs) => some (.tup xs)
  | _ => B a
theorem tupsOf_same {B H : Hp} (e : Same B H) : Same B (tupsOf H B) := fun a o h => by
  have h' := e a o h
  unfold tupsOf
  rw [h']
  cases o <;> first | rfl | exact h
theorem tupsOf_tup {B H : Hp} : Tup H (tupsOf H B) := fun a xs h => by
  unfold tupsOf
  rw [h]
theorem tupsOf_sub {B H : Hp} (e : Same B H) : Same (tupsOf H B) H := fun a o h => by
  unfold tupsOf at h
  split at h
  · rename_i xs hx
    rw [hx]
    exact h
  · exact e a o h
theorem Own.tups {B H : Hp} {cs : List (Addr × HO)} (O : Own B cs H) (h : ∀ c ∈ cs, ∀ xs, c.2 ≠ .tup xs) : Own (tupsOf H B) cs H := by
  refine ⟨tupsOf_sub O.fr, fun c hc => ?_, O.have_, O.nd⟩
  have h1 := O.have_ c hc
  have h2 := h c hc
  unfold tupsOf
  rw [h1]
  split
  · rename_i xs hx
    exact absurd (Option.some.inj hx) (h2 xs)
  · exact O.out c hc

/-! ### loops, lists that are owned -/
section
variable {K : PySem.W.Frag} {B : Hp} {cs : List (Addr × HO)} {σ : L2.St} {H : Hp} {a : Addr} {xs : List V} {v : V} {Q : VK} {D : Ends} {tb : TS} {g : TG} {ta : TA} {te : TE}
theorem g_tyL {r : V → List V → Hp → VK → Prop} {as : TA} (h : SqL K H a xs) (k : as σ H fun xs H2 => r (.ref a) xs H2 Q) : bmK K "list" r as σ Q (.ref a) H := ⟨.inl ⟨rfl, xs, h⟩, k⟩
theorem g_tyL0 {r : V → List V → Hp → VK → Prop} (h : SqL K H a xs) (k : r (.ref a) [] H Q) : bm0K K "list" r Q (.ref a) H := ⟨.inl ⟨rfl, xs, h⟩, k⟩
theorem g_append (O : Own B cs H) (j : Nat) (h : cs[j]? = some (a, .lst xs)) (hz : xs.length < sizeLine) (k : ∀ H', Own B (cs.set j (a, .lst (xs ++ [v]))) H' → Q .non H') : rAppend (.ref a) [v] H Q :=
  ⟨a, xs, v, rfl, rfl, O.get j h, hz, k _ (O.set j h)⟩
theorem g_extend {b : Addr} {zs : List V} (O : Own B cs H) (j : Nat) (h : cs[j]? = some (a, .lst xs)) (hb : H b = some (.lst zs)) (hz : xs.length + zs.length ≤ sizeLine) (k : ∀ H', Own B (cs.set j (a, .lst (xs ++ zs))) H' → Q .non H') : rExtend (.ref a) [.ref b] H Q :=
  ⟨a, b, xs, zs, rfl, rfl, O.get j h, hb, hz, k _ (O.set j h)⟩
theorem g_insert {i : Int} (O : Own B cs H) (j : Nat) (h : cs[j]? = some (a, .lst xs)) (hz : xs.length < sizeLine) (h0 : 0 ≤ i) (h1 : i < 2 ^ 63) (k : ∀ H', Own B (cs.set j (a, .lst (xs.take i.toNat ++ [v] ++ xs.drop i.toNat))) H' → Q .non H') : rInsert (.ref a) [.int i, v] H Q :=
  ⟨a, xs, i, v, rfl, rfl, O.get j h, hz, h0, h1, k _ (O.set j h)⟩
theorem ixN_nat {n : Nat} {i : Int} (h0 : 0 ≤ i) (h : i < n) : ixN n i = some i.toNat := by
  unfold ixN
  rw [if_pos h0, if_pos h]
theorem g_setL {i : Int} {Q : Hp → Prop} (O : Own B cs H) (j : Nat) (h : cs[j]? = some (a, .lst xs)) (h0 : 0 ≤ i) (h1 : i < xs.length) (k : ∀ H', Own B (cs.set j (a, .lst (xs.set i.toNat v))) H' → Q H') : rSetL (.ref a) (.int i) v H Q :=
  ⟨a, xs, i, i.toNat, rfl, rfl, O.get j h, ixN_nat h0 h1, k _ (O.set j h)⟩
theorem g_new {n : Nat} {o : HO} (hz : n ≤ sizeLine) (O : Own B cs H) (k : ∀ p H', H p = none → Own B ((p, o) :: cs) H' → Q (.ref p) H') : newK o n Q H := ⟨hz, own_new O k⟩
theorem g_newQ {o : HO} (O : Own B cs H) (k : ∀ p H', H p = none → Own B ((p, o) :: cs) H' → Q (.ref p) H') : newQ o Q H := own_new O k
/-- what a for is to keep, whatever it walks -/
def forB (g : TG) (tb : TS) (D : Ends) (σ : L2.St) (J : It) (H1 : Hp) : Prop := ∃ W : Nat → Nat → L2.St → Hp → Prop, (∃ m, W 0 m σ H1) ∧ ∀ i m σ H, W i m σ H →
  (J.stop i H ∧ D.nx σ H) ∨ (J.go i H ∧ ∃ N : L2.St → Hp → Prop, (∀ σ' H', N σ' H' → ∃ m', m' < m ∧ W (i + 1) m' σ' H') ∧ ∀ x H', J.yld i H x H' → g x σ H' fun σ2 H2 => tb { D with nx := N, ct := N, bk := D.nx } σ2 H2)
theorem g_for {wi : TI} (k : wi σ H (forB g tb D σ)) : tFor wi g tb D σ H := k
def rng1K (R : It → Hp → Prop) (vs : List V) (H1 : Hp) : Prop := ∃ j : Int, vs = [.int j] ∧ -(2 ^ 62) ≤ j ∧ j < 2 ^ 62 ∧ R (Itr 0 j.toNat) H1
def rng2K (R : It → Hp → Prop) (vs : List V) (H1 : Hp) : Prop := ∃ i j : Int, vs = [.int i, .int j] ∧ (-(2 ^ 62) ≤ i ∧ i < 2 ^ 62 ∧ -(2 ^ 62) ≤ j ∧ j < 2 ^ 62) ∧ R (Itr i (j - i).toNat) H1
def rng3K (R : It → Hp → Prop) (vs : List V) (H1 : Hp) : Prop := ∃ (i j c : Int) (n : Nat), vs = [.int i, .int j, .int c] ∧ RgC i j c n ∧ R (Itc i c n) H1
def iLK (K : PySem.W.Frag) (R : It → Hp → Prop) (x : V) (H1 : Hp) : Prop := ∃ a, x = .ref a ∧ (∃ xs, SqL K H1 a xs) ∧ R (Itl K a) H1
def iTK (K : PySem.W.Frag) (R : It → Hp → Prop) (x : V) (H1 : Hp) : Prop := ∃ a, x = .ref a ∧ (∃ xs, SqT K H1 a xs) ∧ R (Itt K a) H1
def iSK (R : It → Hp → Prop) (v : V) (H1 : Hp) : Prop := ∃ x, v = .str x ∧ R (Its x) H1
def iZK (K : PySem.W.Frag) (R : It → Hp → Prop) (vs : List V) (H1 : Hp) : Prop := ∃ a b xs ys, vs = [.ref a, .ref b] ∧ SqL K H1 a xs ∧ SqL K H1 b ys ∧ R (Itz K a b) H1
def iEK (K : PySem.W.Frag) (R : It → Hp → Prop) (vs : List V) (H1 : Hp) : Prop := ∃ a xs, vs = [.ref a] ∧ SqL K H1 a xs ∧ R (Ite K a) H1
theorem g_rng1 {R : It → Hp → Prop} (k : ta σ H (rng1K R)) : iRng1 ta σ H R := k
theorem g_rng2 {R : It → Hp → Prop} (k : ta σ H (rng2K R)) : iRng2 ta σ H R := k
theorem g_rng3 {R : It → Hp → Prop} (k : ta σ H (rng3K R)) : iRng3 ta σ H R := k
theorem g_iList {R : It → Hp → Prop} (k : te σ H (iLK K R)) : iList K te σ H R := k
theorem g_iTup {R : It → Hp → Prop} (k : te σ H (iTK K R)) : iTup K te σ H R := k
theorem g_iStr {R : It → Hp → Prop} (k : te σ H (iSK R)) : iStr te σ H R := k
theorem g_iZip {R : It → Hp → Prop} (k : ta σ H (iZK K R)) : iZip K ta σ H R := k
theorem g_iEnum {R : It → Hp → Prop} (k : ta σ H (iEK K R)) : iEnum K ta σ H R := k
theorem g_rng1v {n : Int} {R : It → Hp → Prop} (h : -(2 ^ 62) ≤ n ∧ n < 2 ^ 62) (k : R (Itr 0 n.toNat) H) : rng1K R [V.int n] H := ⟨n, rfl, h.1, h.2, k⟩
theorem g_rng2v {m n : Int} {R : It → Hp → Prop} (h : -(2 ^ 62) ≤ m ∧ m < 2 ^ 62 ∧ -(2 ^ 62) ≤ n ∧ n < 2 ^ 62) (k : R (Itr m (n - m).toNat) H) : rng2K R [V.int m, V.int n] H := ⟨m, n, rfl, h, k⟩
theorem g_rng3v {m n c : Int} {N : Nat} {R : It → Hp → Prop} (h : RgC m n c N) (k : R (Itc m c N) H) : rng3K R [V.int m, V.int n, V.int c] H := ⟨m, n, c, N, rfl, h, k⟩
theorem g_iListv {R : It → Hp → Prop} (h : SqL K H a xs) (k : R (Itl K a) H) : iLK K R (.ref a) H := ⟨a, rfl, ⟨xs, h⟩, k⟩
theorem g_iTupv {R : It → Hp → Prop} (h : SqT K H a xs) (k : R (Itt K a) H) : iTK K R (.ref a) H := ⟨a, rfl, ⟨xs, h⟩, k⟩
theorem g_iStrv {z : Str} {R : It → Hp → Prop} (k : R (Its z) H) : iSK R (.str z) H := ⟨z, rfl, k⟩
theorem g_iZipv {b : Addr} {ys : List V} {R : It → Hp → Prop} (h : SqL K H a xs) (h2 : SqL K H b ys) (k : R (Itz K a b) H) : iZK K R [.ref a, .ref b] H := ⟨a, b, xs, ys, rfl, h, h2, k⟩
theorem g_iEnumv {R : It → Hp → Prop} (h : SqL K H a xs) (k : R (Ite K a) H) : iEK K R [.ref a] H := ⟨a, xs, rfl, h, k⟩
theorem forB_rng {lo : Int} {n : Nat} (Pv : Nat → L2.St → Hp → Prop) (h0 : Pv 0 σ H) (hs : ∀ (i : Nat) σ' H', i < n → Pv i σ' H' → g (.int (lo + (i : Int))) σ' H' fun σ2 H2 => tb { D with nx := Pv (i + 1), ct := Pv (i + 1), bk := D.nx } σ2 H2) (hd : ∀ σ' H', Pv n σ' H' → D.nx σ' H') : forB g tb D σ (Itr lo n) H :=
  for_it walk_range Pv h0 (fun _ _ _ _ _ => trivial) (fun i x σ' H1 H' hi p y => by obtain ⟨rfl, rfl⟩ := y; exact hs i σ' _ hi p) hd
theorem forB_rng0 {n : Int} (Pv : Nat → L2.St → Hp → Prop) (h0 : Pv 0 σ H) (hs : ∀ (i : Nat) σ' H', (i : Int) < n → Pv i σ' H' → g (.int (i : Int)) σ' H' fun σ2 H2 => tb { D with nx := Pv (i + 1), ct := Pv (i + 1), bk := D.nx } σ2 H2) (hd : ∀ σ' H', Pv n.toNat σ' H' → D.nx σ' H') : forB g tb D σ (Itr 0 n.toNat) H :=
  forB_rng Pv h0 (fun i σ' H' hi p => by rw [Int.zero_add]; exact hs i σ' H' (by omega) p) hd
theorem forB_list (xs : List V) (Pv : Nat → L2.St → Hp → Prop) (h0 : Pv 0 σ H) (hl : ∀ i σ' H', i ≤ xs.length → Pv i σ' H' → SqL K H' a xs) (hs : ∀ i x σ' H', xs[i]? = some x → Pv i σ' H' → g x σ' H' fun σ2 H2 => tb { D with nx := Pv (i + 1), ct := Pv (i + 1), bk := D.nx } σ2 H2) (hd : ∀ σ' H', Pv xs.length σ' H' → D.nx σ' H') : forB g tb D σ (Itl K a) H :=
  for_it walk_list Pv h0 hl (fun i x σ' H1 H' hi p y => by obtain ⟨rfl, e⟩ := y; exact hs i x σ' _ e p) hd
theorem forB_tup (xs : List V) (Pv : Nat → L2.St → Hp → Prop) (h0 : Pv 0 σ H) (hl : ∀ i σ' H', i ≤ xs.length → Pv i σ' H' → SqT K H' a xs) (hs : ∀ i x σ' H', xs[i]? = some x → Pv i σ' H' → g x σ' H' fun σ2 H2 => tb { D with nx := Pv (i + 1), ct := Pv (i + 1), bk := D.nx } σ2 H2) (hd : ∀ σ' H', Pv xs.length σ' H' → D.nx σ' H') : forB g tb D σ (Itt K a) H :=
  for_it walk_tup Pv h0 hl (fun i x σ' H1 H' hi p y => by obtain ⟨rfl, e⟩ := y; exact hs i x σ' _ e p) hd
theorem forB_str {z : Str} (Pv : Nat → L2.St → Hp → Prop) (h0 : Pv 0 σ H) (hs : ∀ i c σ' H', z.cps[i]? = some c → Pv i σ' H' → g (.str ⟨#[c]⟩) σ' H' fun σ2 H2 => tb { D with nx := Pv (i + 1), ct := Pv (i + 1), bk := D.nx } σ2 H2) (hd : ∀ σ' H', Pv z.cps.size σ' H' → D.nx σ' H') : forB g tb D σ (Its z) H :=
  for_it walk_str Pv h0 (fun _ _ _ _ _ => trivial) (fun i x σ' H1 H' hi p y => by obtain ⟨rfl, c, e, rfl⟩ := y; exact hs i c σ' _ e p) hd
/-- a comprehension, whatever it walks -/
def lcB (g : TG) (tt : TT) (te : TE) (vs : List Nat) (σ : L2.St) (Q : VK) (J : It) (H1 : Hp) : Prop := ∀ D, H1 D = none → ∃ W : Nat → Nat → Hp → Prop, (∃ m, W 0 m (upd H1 D (.lst []))) ∧ ∀ i m H, W i m H →
  (J.stop i H ∧ Q (.ref D) H) ∨ (J.go i H ∧ ∃ Nx : Hp → Prop, (∀ H', Nx H' → ∃ m', m' < m ∧ W (i + 1) m' H') ∧ ∀ x H', J.yld i H x H' → g x (wipe σ vs) H' fun σ2 H2 => wipe σ2 vs = wipe σ vs ∧ tt σ2 H2 fun b H3 =>
    if b = true then te σ2 H3 fun y H4 => ∃ acc, H4 D = some (.lst acc) ∧ acc.length < sizeLine ∧ Nx (upd H4 D (.lst (acc ++ [y]))) else Nx H3)
theorem g_lc {wi : TI} {tt : TT} {vs : List Nat} (k : wi σ H (lcB g tt te vs σ Q)) : tLc wi g tt te vs σ H Q := k
/-- the turn's end of a comprehension -/
def lcPut (D : Addr) (P : Hp → Prop) (y : V) (H4 : Hp) : Prop := ∃ acc, H4 D = some (.lst acc) ∧ acc.length < sizeLine ∧ P (upd H4 D (.lst (acc ++ [y])))
def lcT (D : Addr) (tt : TT) (te : TE) (vs : List Nat) (σ : L2.St) (P : Hp → Prop) (σ2 : L2.St) (H2 : Hp) : Prop := wipe σ2 vs = wipe σ vs ∧ tt σ2 H2 fun b H3 =>
    if b = true then te σ2 H3 (lcPut D P) else P H3
theorem lcB_rng {lo : Int} {n : Nat} {tt : TT} {vs : List Nat} (Pv : Addr → Nat → Hp → Prop) (h0 : ∀ D, H D = none → Pv D 0 (upd H D (.lst []))) (hs : ∀ D (i : Nat) H', i < n → Pv D i H' → g (.int (lo + (i : Int))) (wipe σ vs) H' (lcT D tt te vs σ (Pv D (i + 1)))) (hd : ∀ D H', H D = none → Pv D n H' → Q (.ref D) H') : lcB g tt te vs σ Q (Itr lo n) H :=
  fun D hD => lc_it walk_range (Pv D) (h0 D hD) (fun _ _ _ _ => trivial) (fun i x H1 H' hi p y => by obtain ⟨rfl, rfl⟩ := y; exact hs D i _ hi p) (fun H' p => hd D H' hD p)
theorem lcB_rng0 {n : Int} {tt : TT} {vs : List Nat} (Pv : Addr → Nat → Hp → Prop) (h0 : ∀ D, H D = none → Pv D 0 (upd H D (.lst []))) (hs : ∀ D (i : Nat) H', (i : Int) < n → Pv D i H' → g (.int (i : Int)) (wipe σ vs) H' (lcT D tt te vs σ (Pv D (i + 1)))) (hd : ∀ D H', H D = none → Pv D n.toNat H' → Q (.ref D) H') : lcB g tt te vs σ Q (Itr 0 n.toNat) H :=
  lcB_rng Pv h0 (fun D i H' hi p => by rw [Int.zero_add]; exact hs D i H' (by omega) p) hd
theorem lcB_list (xs : List V) {tt : TT} {vs : List Nat} (Pv : Addr → Nat → Hp → Prop) (h0 : ∀ D, H D = none → Pv D 0 (upd H D (.lst []))) (hl : ∀ D i H', i ≤ xs.length → Pv D i H' → SqL K H' a xs) (hs : ∀ D (i : Nat) x H', xs[i]? = some x → Pv D i H' → g x (wipe σ vs) H' (lcT D tt te vs σ (Pv D (i + 1)))) (hd : ∀ D H', H D = none → Pv D xs.length H' → Q (.ref D) H') : lcB g tt te vs σ Q (Itl K a) H :=
  fun D hD => lc_it walk_list (Pv D) (h0 D hD) (hl D) (fun i x H1 H' hi p y => by obtain ⟨rfl, e⟩ := y; exact hs D i x _ e p) (fun H' p => hd D H' hD p)
theorem lcB_tup (xs : List V) {tt : TT} {vs : List Nat} (Pv : Addr → Nat → Hp → Prop) (h0 : ∀ D, H D = none → Pv D 0 (upd H D (.lst []))) (hl : ∀ D i H', i ≤ xs.length → Pv D i H' → SqT K H' a xs) (hs : ∀ D (i : Nat) x H', xs[i]? = some x → Pv D i H' → g x (wipe σ vs) H' (lcT D tt te vs σ (Pv D (i + 1)))) (hd : ∀ D H', H D = none → Pv D xs.length H' → Q (.ref D) H') : lcB g tt te vs σ Q (Itt K a) H :=
  fun D hD => lc_it walk_tup (Pv D) (h0 D hD) (hl D) (fun i x H1 H' hi p y => by obtain ⟨rfl, e⟩ := y; exact hs D i x _ e p) (fun H' p => hd D H' hD p)
theorem forB_zip {b : Addr} (xs ys : List V) (hl : xs.length ≤ ys.length) (Pv : Nat → L2.St → Hp → Prop) (h0 : Pv 0 σ H) (hL : ∀ i σ' H', Pv i σ' H' → SqL K H' a xs ∧ SqL K H' b ys)
    (hs : ∀ i x y T σ' H', xs[i]? = some x → ys[i]? = some y → H' T = none → Pv i σ' H' → g (.ref T) σ' (upd H' T (.tup [x, y])) fun σ2 H2 => tb { D with nx := Pv (i + 1), ct := Pv (i + 1), bk := D.nx } σ2 H2) (hd : ∀ σ' H', Pv xs.length σ' H' → D.nx σ' H') : forB g tb D σ (Itz K a b) H :=
  for_it (walk_zip (xs := xs) (ys := ys) (n := xs.length) (by omega)) Pv h0 (fun i σ' H' _ p => hL i σ' H' p) (fun i v σ' H1 H' hi p y => by obtain ⟨T, x, z, rfl, hT, rfl, e1, e2⟩ := y; exact hs i x z T σ' H1 e1 e2 hT p) hd
theorem lcB_zip {b : Addr} (xs ys : List V) (hl : xs.length ≤ ys.length) {tt : TT} {vs : List Nat} (Pv : Addr → Nat → Hp → Prop) (h0 : ∀ D, H D = none → Pv D 0 (upd H D (.lst []))) (hL : ∀ D i H', Pv D i H' → SqL K H' a xs ∧ SqL K H' b ys)
    (hs : ∀ D (i : Nat) x y T H', xs[i]? = some x → ys[i]? = some y → H' T = none → Pv D i H' → g (.ref T) (wipe σ vs) (upd H' T (.tup [x, y])) (lcT D tt te vs σ (Pv D (i + 1)))) (hd : ∀ D H', H D = none → Pv D xs.length H' → Q (.ref D) H') : lcB g tt te vs σ Q (Itz K a b) H :=
  fun D hD => lc_it (walk_zip (xs := xs) (ys := ys) (n := xs.length) (by omega)) (Pv D) (h0 D hD) (fun i H' _ p => hL D i H' p) (fun i v H1 H' hi p y => by obtain ⟨T, x, z, rfl, hT, rfl, e1, e2⟩ := y; exact hs D i x z T H1 e1 e2 hT p) (fun H' p => hd D H' hD p)
theorem forB_enum (xs : List V) (Pv : Nat → L2.St → Hp → Prop) (h0 : Pv 0 σ H) (hL : ∀ i σ' H', Pv i σ' H' → SqL K H' a xs)
    (hs : ∀ (i : Nat) x T σ' H', xs[i]? = some x → H' T = none → Pv i σ' H' → g (.ref T) σ' (upd H' T (.tup [.int (i : Nat), x])) fun σ2 H2 => tb { D with nx := Pv (i + 1), ct := Pv (i + 1), bk := D.nx } σ2 H2) (hd : ∀ σ' H', Pv xs.length σ' H' → D.nx σ' H') : forB g tb D σ (Ite K a) H :=
  for_it walk_enum Pv h0 (fun i σ' H' _ p => hL i σ' H' p) (fun i v σ' H1 H' hi p y => by obtain ⟨T, x, z, rfl, hT, rfl, e1, e2⟩ := y; cases e1; exact hs i z T σ' H1 e2 hT p) hd
theorem g_lcT {Dl : Addr} {tt : TT} {vs : List Nat} {σ2 : L2.St} {P : Hp → Prop} (hw : wipe σ2 vs = wipe σ vs) (k : tt σ2 H fun b H3 => if b = true then te σ2 H3 (lcPut Dl P) else P H3) : lcT Dl tt te vs σ P σ2 H := ⟨hw, k⟩
theorem g_yes {Q : Bool → Hp → Prop} (k : Q true H) : tYes σ H Q := k
/-- the item goes onto the list at D, which is the first cell -/
theorem g_lcPut {Dl : Addr} {acc : List V} {P : Hp → Prop} (O : Own B cs H) (j : Nat) (h : cs[j]? = some (Dl, .lst acc)) (hz : acc.length < sizeLine) (k : ∀ H', Own B (cs.set j (Dl, .lst (acc ++ [v]))) H' → P H') : lcPut Dl P v H :=
  ⟨acc, O.get j h, hz, k _ (O.set j h)⟩
end
/-! ### texts as lists of codes -/
def S (l : List Nat) : Str := ⟨l.toArray⟩
theorem S_tl (l : List Nat) : (S l).cps.toList = l := by unfold S; simp
theorem S_len (l : List Nat) : (S l).length = l.length := by show (S l).cps.size = _; unfold S; simp
theorem S_app (a b : List Nat) : S a ++ S b = S (a ++ b) := by
  show Str.append (S a) (S b) = _
  unfold Str.append S
  simp
theorem S_of (z : Str) : S z.cps.toList = z := by cases z; unfold S; simp
theorem S_inj {a b : List Nat} (h : S a = S b) : a = b := by
  have := congrArg (fun z : Str => z.cps.toList) h
  simpa [S_tl] using this
theorem cutS_SS (l : List Nat) (a b : Nat) : cutS (S l) (some (a : Int)) (some (b : Int)) = S ((l.drop a).take (b - a)) := by
  unfold cutS
  rw [S_tl, S_len, HT.sIx_nat, HT.sIx_nat]
  show S _ = S _
  congr 1
  by_cases ha : a ≤ l.length
  · rw [Nat.min_eq_left ha]
    by_cases hb : b ≤ l.length
    · rw [Nat.min_eq_left hb]
    · rw [Nat.min_eq_right (by omega), List.take_of_length_le (by rw [List.length_drop]; omega), List.take_of_length_le (by rw [List.length_drop]; omega)]
  · rw [List.drop_of_length_le (by omega), List.drop_of_length_le (by omega)]
    simp
theorem cutS_take (l : List Nat) (b : Nat) : cutS (S l) none (some (b : Int)) = S (l.take b) := by
  have h := cutS_SS l 0 b
  rw [List.drop_zero, Nat.sub_zero] at h
  rw [← h]
  rfl
theorem cutS_drop (l : List Nat) (a : Nat) : cutS (S l) (some (a : Int)) none = S (l.drop a) := by
  unfold cutS
  rw [S_tl, S_len, HT.sIx_nat, HT.sIx_none]
  show S _ = S _
  congr 1
  by_cases ha : a ≤ l.length
  · rw [Nat.min_eq_left ha, List.take_of_length_le (by rw [List.length_drop]; omega)]
  · rw [List.drop_of_length_le (by omega), List.drop_of_length_le (by omega)]
    simp
section
variable {K : PySem.W.Frag} {H : Hp} {x : V} {Q : VK} {p : Addr} {xs : List V}
theorem g_addSS {a b : List Nat} (h : a.length + b.length ≤ 16777216) (k : Q (.str (S (a ++ b))) H) : rAddU K (.str (S a)) (.str (S b)) H Q :=
  g_addS (by rw [S_len, S_len]; exact small_le h) (by rw [S_app]; exact k)
theorem g_lenSS {a : List Nat} (h : a.length ≤ 16777216) (k : Q (.int (a.length : Nat)) H) : rLenU K [.str (S a)] H Q :=
  g_lenS (by rw [S_len]; exact small_le h) (by rw [S_len]; exact k)
theorem g_ixSS {a : List Nat} {i : Int} {c : Nat} (h : a.length ≤ 16777216) (h0 : 0 ≤ i) (hc : a[i.toNat]? = some c) (k : Q (.str (S [c])) H) : rIx K (.str (S a)) (.int i) H Q :=
  g_ixS (by rw [S_len]; exact small_le h) (by rw [S_tl]; exact atI_of h0 hc) k
theorem g_eqSS {a b : List Nat} (k : Q (.bl (decide (a = b))) H) : rEqU K (.str (S a)) (.str (S b)) H Q := g_eqS (by
  have e : decide (S a = S b) = decide (a = b) := by
    by_cases h : a = b
    · rw [h]; simp
    · rw [decide_eq_false h, decide_eq_false fun q => h (S_inj q)]
  rw [e]; exact k)
theorem g_inT (h : SqT K H p xs) (hx : flatV x = true) (hs : xs.all flatV = true) (k : Q (.bl (inV x xs)) H) : rInU K x (.ref p) H Q := .inl ⟨p, xs, rfl, .inr h, hx, hs, k⟩
theorem g_notInT (h : SqT K H p xs) (hx : flatV x = true) (hs : xs.all flatV = true) (k : Q (.bl (!inV x xs)) H) : rNotInU K x (.ref p) H Q := .inl ⟨p, xs, rfl, .inr h, hx, hs, k⟩
theorem g_inL (h : SqL K H p xs) (hx : flatV x = true) (hs : xs.all flatV = true) (k : Q (.bl (inV x xs)) H) : rInU K x (.ref p) H Q := .inl ⟨p, xs, rfl, .inl h, hx, hs, k⟩
theorem g_notInL (h : SqL K H p xs) (hx : flatV x = true) (hs : xs.all flatV = true) (k : Q (.bl (!inV x xs)) H) : rNotInU K x (.ref p) H Q := .inl ⟨p, xs, rfl, .inl h, hx, hs, k⟩
end
/-! ### join -/
def rJoin (K : PySem.W.Frag) : V → List V → Hp → VK → Prop := fun x xs H Q => ∃ a p, ∃ ys : List Str, x = .str a ∧ xs = [.ref p] ∧ (SqL K H p (ys.map V.str) ∨ SqT K H p (ys.map V.str)) ∧ (ys.map (·.length)).sum + ys.length * a.length ≤ 16777216 ∧ Q (.str (Txt.join a ys)) H
theorem pe_joinU {X : Cx} {o e : Expr} {to te : TE} {apos pos : Pos} (ho : PE X o to) (he : PE X e te) (hs : starEach [e] X.env = [(false, eval e X.env)] := by rfl) (hbase : attributeBase o "join" X.env (eval o X.env) = eval o X.env := by rfl) (hline : (apos.endLine == pos.line) = true := by rfl) :
    PE X (.Call (.Attribute o "join" apos) [e] [] pos) (tM1 (rJoin X.K) to te) := pe_join ho he hs hbase hline
def m1K (r : V → List V → Hp → VK → Prop) (te : TE) (σ : L2.St) (Q : VK) (x : V) (H1 : Hp) : Prop := (∃ a, x = .str a) ∧ te σ H1 fun y H2 => r x [y] H2 Q
section
variable {K : PySem.W.Frag} {H : Hp} {Q : VK} {p : Addr} {σ : L2.St} {to te : TE}
theorem g_M1 {r : V → List V → Hp → VK → Prop} (k : to σ H (m1K r te σ Q)) : tM1 r to te σ H Q := k
theorem g_m1K {r : V → List V → Hp → VK → Prop} {z : Str} (k : te σ H fun y H2 => r (.str z) [y] H2 Q) : m1K r te σ Q (.str z) H := ⟨⟨z, rfl⟩, k⟩
theorem g_joinL {a : Str} {ys : List Str} (h : SqL K H p (ys.map V.str)) (hz : (ys.map (·.length)).sum + ys.length * a.length ≤ 16777216) (k : Q (.str (Txt.join a ys)) H) : rJoin K (.str a) [.ref p] H Q := ⟨a, p, ys, rfl, rfl, .inl h, hz, k⟩
end
theorem join_SS : ∀ cs : List (List Nat), Txt.join (S []) (cs.map S) = S cs.flatten := by
  intro cs
  rw [TL.join_eq]
  induction cs with
  | nil => rfl
  | cons c r ih =>
    cases r with
    | nil =>
      show S c = S ([c].flatten)
      rw [List.flatten_cons, List.flatten_nil, List.append_nil]
    | cons c2 r =>
      show S c ++ S [] ++ Str.join (S []) ((c2 :: r).map S) = _
      rw [ih, S_app, S_app, List.append_nil]
      rfl
theorem sum_SS (cs : List (List Nat)) : ((cs.map S).map (·.length)).sum = cs.flatten.length := by
  induction cs with
  | nil => rfl
  | cons c r ih =>
    rw [List.map_cons, List.map_cons, List.sum_cons, ih, List.flatten_cons, List.length_append]
    show (S c).length + _ = _
    rw [S_len]

/-! ### objects -/
section
variable {K : PySem.W.Frag} {B : Hp} {cs : List (Addr × HO)} {σ : L2.St} {H : Hp} {a C dx : Addr} {fs : List (Str × V)} {f : Str} {v x : V} {Q : VK} {D : Ends} {ta tv : TE} {as : TA}
def sFldK (K : PySem.W.Frag) (y : V) (f : Str) (D : Ends) (σ : L2.St) (x : V) (H2 : Hp) : Prop := ∃ a C dx fs, x = .ref a ∧ H2 a = some (.ins C dx fs) ∧ Cls K C ∧ NoAttr K C f ∧ fs.length < 1000 ∧ D.nx σ (upd H2 a (.ins C dx (putF f y fs)))
theorem g_sFld (k : tv σ H fun y H1 => ta σ H1 (sFldK K y f D σ)) : sFld K ta tv f D σ H := k
theorem g_sFldK (O : Own B cs H) (j : Nat) (h : cs[j]? = some (a, .ins C dx fs)) (cl : Cls K C) (na : NoAttr K C f) (hl : fs.length < 1000) (k : ∀ H', Own B (cs.set j (a, .ins C dx (putF f v fs))) H' → D.nx σ H') : sFldK K v f D σ (.ref a) H :=
  ⟨a, C, dx, fs, rfl, O.get j h, cl, na, hl, k _ (O.set j h)⟩
def makeK (C : Addr) (sp : Sp) (dvs : List V) (E : XK) (Q : VK) (vs : List V) (H1 : Hp) : Prop := ∀ x dx, H1 x = none → H1 dx = none → dx ≠ x → sp (.ref x :: (vs ++ dvs)) (upd (upd H1 dx (.own x)) x (.ins C dx [])) (fun v H2 => v = .non ∧ Q (.ref x) H2) E
theorem g_make {sp : Sp} {dvs : List V} {E : XK} (k : as σ H (makeK C sp dvs E Q)) : tMake C sp dvs E as σ H Q := k
theorem g_makeK {sp : Sp} {dvs vs : List V} {E : XK} (O : Own B cs H) (k : ∀ x dx H', H x = none → Own B ((x, .ins C dx []) :: cs) H' → sp (.ref x :: (vs ++ dvs)) H' (fun v H2 => v = .non ∧ Q (.ref x) H2) E) : makeK C sp dvs E Q vs H := by
  intro x dx hx hdx hne
  have O1 : Own B ((dx, .own x) :: cs) (upd H dx (.own x)) := O.alloc hdx
  have hx1 : (upd H dx (.own x)) x = none := by rw [upd_ne hne.symm]; exact hx
  have O2 : Own B ((x, .ins C dx []) :: (dx, .own x) :: cs) (upd (upd H dx (.own x)) x (.ins C dx [])) := O1.alloc hx1
  exact k x dx _ hx (O2.sub ((List.sublist_cons_self _ _).cons_cons _))
theorem g_eqNon {n : Int} (k : Q (.bl false) H) : rEqU K .non (.int n) H Q := .inl ⟨rfl, k⟩
/-- a call that changes one cell, and makes tuples -/
theorem Own.mutT {H' : Hp} {o o' : HO} (O : Own B cs H) (j : Nat) (h : cs[j]? = some (a, o)) (e : ∀ b u, b ≠ a → H b = some u → H' b = some u) (ha : H' a = some o') (nt : ∀ c ∈ cs.set j (a, o'), ∀ xs, c.2 ≠ .tup xs) :
    ∃ B', Same B B' ∧ Own B' (cs.set j (a, o')) H' ∧ Tup H' B' := by
  have O' := O.mut j h e ha
  exact ⟨tupsOf H' B, tupsOf_same O'.fr, O'.tups nt, tupsOf_tup⟩
/-- a call that makes tuples -/
theorem Own.exT {H' : Hp} (O : Own B cs H) (e : Same H H') (nt : ∀ c ∈ cs, ∀ xs, c.2 ≠ .tup xs) : ∃ B', Same B B' ∧ Own B' cs H' ∧ Tup H' B' := by
  have O' := O.ex e
  exact ⟨tupsOf H' B, tupsOf_same O'.fr, O'.tups nt, tupsOf_tup⟩
end
theorem canLay_ints : ∀ ns : List Int, PyData.canLayAll0 (ns.map PyData.int) = true
  | [] => rfl
  | n :: ns => by
    show (PyData.canLay0 (.int n) && PyData.canLayAll0 (ns.map PyData.int)) = true
    rw [canLay_ints ns]
    rfl
theorem depth_ints : ∀ ns : List Int, PyData.depthAll (ns.map PyData.int) ≤ 1
  | [] => by simp [PyData.depthAll]
  | n :: ns => by
    have h := depth_ints ns
    simp only [List.map_cons, PyData.depthAll, PyData.depth]
    omega
theorem shaped_ints (ns : List Int) : SeqAt.shaped (.list (ns.map PyData.int)) = true := by
  have h := depth_ints ns
  have h2 := canLay_ints ns
  show (PyData.canLay0 (.list (ns.map PyData.int)) && decide (PyData.depth (.list (ns.map PyData.int)) ≤ 64)) = true
  rw [show PyData.canLay0 (.list (ns.map PyData.int)) = true from by simp only [PyData.canLay0]; exact h2, Bool.true_and]
  refine decide_eq_true ?_
  simp only [PyData.depth]
  omega
theorem lay_ints (ns : List Int) : PyData.canLay0 (.list (ns.map PyData.int)) = true := by simp only [PyData.canLay0]; exact canLay_ints ns
theorem eqv_ints (ns : List Int) : PyData.eqv (.list (ns.map PyData.int)) (.list (ns.map PyData.int)) = true := by
  rw [SeqAt.eqv_refl]
  exact lay_ints ns
theorem cut_take {xs : List V} {n : Int} (h : 0 ≤ n) : cutV xs none (some n) = xs.take n.toNat := by
  unfold cutV
  have e : ((n.toNat : Nat) : Int) = n := Int.toNat_of_nonneg h
  rw [← e, HT.sIx_nat, HT.sIx_none, List.drop_zero, Nat.sub_zero, Int.toNat_natCast]
  by_cases hl : n.toNat ≤ xs.length
  · rw [Nat.min_eq_left hl]
  · rw [Nat.min_eq_right (by omega), List.take_of_length_le (Nat.le_refl _), List.take_of_length_le (by omega)]
theorem cut_drop {xs : List V} {n : Int} (h : 0 ≤ n) : cutV xs (some n) none = xs.drop n.toNat := by
  unfold cutV
  have e : ((n.toNat : Nat) : Int) = n := Int.toNat_of_nonneg h
  rw [← e, HT.sIx_nat, HT.sIx_none, Int.toNat_natCast]
  by_cases hl : n.toNat ≤ xs.length
  · rw [Nat.min_eq_left hl, List.take_of_length_le (by rw [List.length_drop]; exact Nat.le_refl _)]
  · rw [Nat.min_eq_right (by omega), List.drop_length, List.drop_of_length_le (by omega)] <;> simp
/-! ### isinstance -/
def tyName : PyData → String
  | .none => "NoneType"
  | .bool _ => "bool"
  | .int _ => "int"
  | .str _ => "str"
  | .list _ => "list"
  | .tuple _ => "tuple"
  | .dict _ => "dict"
theorem tyx_dp {K : PySem.W.Frag} {H : Hp} {x : V} {d : PyData} (h : Dp K H x d) : TyX K H x (.type (tyName d)) := by
  cases h with
  | non => exact .base .non
  | bl b => exact .base (.bl b)
  | int i => exact .base (.int i)
  | str s => exact .base (.str s)
  | lst h _ =>
    rcases h with (h | ⟨o, h⟩) | ⟨o, its, n, h, hc, _⟩
    · exact .base (.lst h)
    · exact .base (.frz h)
    · exact .kList h hc
  | tup h _ =>
    rcases h with (h | ⟨o, h⟩) | ⟨o, its, n, h, hc, _⟩
    · exact .base (.tup h)
    · exact .fTuple h
    · exact .kTuple h hc
theorem g_isi {K : PySem.W.Frag} {H : Hp} {x : V} {d : PyData} {T : String} {Q : VK} {b : Bool} (h : Dp K H x d) (hb : kitB (tyName d) T = some b) (k : Q (.bl b) H) : rIsiU K [x, .ty T] H Q :=
  .inl ⟨x, .ty T, .type (tyName d), .type T, b, rfl, .ty T, tyx_dp h, kit_ty hb, k⟩
theorem g_isi2 {K : PySem.W.Frag} {H : Hp} {x : V} {d : PyData} {T U : String} {t : Addr} {Q : VK} {b c : Bool} (ht : H t = some (.tup [.ty T, .ty U])) (h : Dp K H x d) (hb : kitB (tyName d) T = some b) (hc : kitB (tyName d) U = some c) (k : Q (.bl (b || c)) H) : rIsiU K [x, .ref t] H Q := by
  refine .inr ⟨x, t, [.ty T, .ty U], .type (tyName d), [.type T, .type U], b || c, rfl, ht, .cons (.ty T) (.cons (.ty U) .nil), tyx_dp h, ?_, k⟩
  refine kitAny_cons (kit_ty hb) (fun e => ?_) (fun e => by rw [e] <;> rfl)
  refine kitAny_cons (kit_ty hc) (fun e2 => ?_) (fun e2 => by rw [e2, e] <;> rfl)
  rw [e, e2]
  exact kitAny_nil
/-- nothing is promised -/
theorem fn_none {P : Program} {w : World} {K : PySem.W.Frag} {mg : Str → Option Value} {base : Heap} {CX : CXT} {k : Nat} {f : Addr} {fd : FuncData} {ps : List Str} {sp : Sp} (h : ∀ vs H Q E, ¬ sp vs H Q E) : FnOk P w K mg base CX k f fd ps sp :=
  ⟨fun vs H Q E q => absurd q (h vs H Q E), fun _ _ _ H _ _ vs Q E _ _ _ _ q => absurd q (h vs H Q E)⟩
/-- not deeper than -/
inductive Dl : Nat → PyData → Prop
  | non {n : Nat} : Dl (n + 1) .none
  | bl {n : Nat} {b : Bool} : Dl (n + 1) (.bool b)
  | int {n : Nat} {i : Int} : Dl (n + 1) (.int i)
  | str {n : Nat} {s : Str} : Dl (n + 1) (.str s)
  | lst {n : Nat} {ds : List PyData} : ds.length ≤ 16777216 → (∀ d ∈ ds, Dl n d) → Dl (n + 1) (.list ds)
  | tup {n : Nat} {ds : List PyData} : ds.length ≤ 16777216 → (∀ d ∈ ds, Dl n d) → Dl (n + 1) (.tuple ds)
theorem dl_ints {n : Nat} (ns : List Int) (h : ns.length ≤ 16777216) : Dl (n + 2) (.list (ns.map PyData.int)) := .lst (by rw [List.length_map]; exact h) (fun d hd => by
  obtain ⟨i, _, rfl⟩ := List.mem_map.mp hd
  exact .int)
theorem iff_false_of {p : Prop} (h : ¬ p) : (false = true ↔ p) := ⟨(fun e => nomatch e), fun e => absurd e h⟩
theorem iff_true_of {p : Prop} (h : p) : (true = true ↔ p) := ⟨fun _ => h, fun _ => rfl⟩
/-- the two answers for the five kinds -/
def isK : PyData → String → Bool
  | .bool _, "int" => true
  | d, T => tyName d == T
end Zl

open Zl in
local macro_rules | `(tactic| walk_at "zb") => `(tactic| (first | decide | omega | exact .inr ⟨by decide, by decide⟩ | exact .inl ⟨by decide, by decide⟩ | exact .inl ⟨by omega, by omega⟩ | exact .inr ⟨by omega, by omega⟩ | exact ⟨by omega, by omega⟩ | exact ⟨by decide, by decide, by decide⟩))
open Zl in
local macro_rules | `(tactic| walk_at "z1") => `(tactic| (first
  | with_reducible refine g_seq ?_ | with_reducible refine g_asg ?_ | with_reducible refine g_var rfl ?_ | with_reducible refine g_c ?_ | with_reducible refine g_name ?_
  | with_reducible refine g_op ?_ | with_reducible refine g_addI ?_ | with_reducible refine g_subI ?_ | with_reducible refine g_cons ?_ | with_reducible refine g_nil ?_
  | with_reducible refine g_cb ?_ | with_reducible refine g_call ?_ | with_reducible refine g_intI ?_ | with_reducible refine g_ret ?_ | with_reducible refine g_drop ?_ | with_reducible refine g_ifS ?_
  | with_reducible refine g_test ?_ | with_reducible refine g_B ?_ | with_reducible refine g_bl ?_ | with_reducible refine g_andK ?_ | with_reducible refine g_orK ?_ | with_reducible refine g_notK ?_ | with_reducible refine g_next ?_ | with_reducible refine g_ltI ?_ | with_reducible refine g_leI ?_
  | with_reducible refine g_gtI ?_ | with_reducible refine g_geI ?_ | with_reducible refine g_eqI ?_ | with_reducible refine g_neI ?_ | with_reducible refine g_isN ?_ | with_reducible refine g_notN ?_
  | with_reducible refine g_and ?_ | with_reducible refine g_or ?_ | with_reducible refine g_not ?_ | with_reducible refine g_andV ?_ | with_reducible refine g_orV ?_ | with_reducible refine g_notV ?_
  | with_reducible refine g_if ?_ | with_reducible refine g_min2 ?_ | with_reducible refine g_max2 ?_ | with_reducible refine g_un ?_ | with_reducible refine g_neg ?_
  | with_reducible refine g_tup ?_ | with_reducible refine g_lst ?_ | with_reducible refine g_sl ?_ | with_reducible refine g_nopart ?_ | with_reducible refine g_part ?_ | with_reducible refine g_int ?_
  | with_reducible refine g_bm ?_ | with_reducible refine g_bm0 ?_ | with_reducible refine g_fld ?_ | with_reducible refine g_sFld ?_ | with_reducible refine g_make ?_ | with_reducible refine g_eqNon ?_ | with_reducible refine g_meth ?_ | with_reducible refine g_brk ?_ | with_reducible refine g_cont ?_
  | with_reducible refine g_retN ?_ | with_reducible refine g_aug rfl ?_ | with_reducible refine g_augS ?_ | with_reducible refine g_gsub ?_ | with_reducible refine g_ipadd ?_ | with_reducible refine g_ipsub ?_
  | with_reducible refine g_gcons ?_ | with_reducible refine g_gnil ?_
  | with_reducible refine g_for ?_ | with_reducible refine g_rng1 ?_ | with_reducible refine g_rng2 ?_ | with_reducible refine g_rng3 ?_ | with_reducible refine g_iList ?_ | with_reducible refine g_iTup ?_ | with_reducible refine g_iStr ?_ | with_reducible refine g_iZip ?_ | with_reducible refine g_iEnum ?_
  | with_reducible refine g_lc ?_ | with_reducible refine g_M1 ?_ | with_reducible refine g_m1K ?_ | with_reducible refine g_lcT rfl ?_ | with_reducible refine g_yes ?_ | with_reducible refine g_iStrv ?_ | with_reducible refine g_tr ?_ | with_reducible refine g_trB ?_
  | ((with_reducible refine g_rng1v ?_ ?_); · walk_at "zb") | ((with_reducible refine g_rng2v ?_ ?_); · walk_at "zb")
  | ((with_reducible refine g_mulI ?_ ?_); · walk_at "zb") | ((with_reducible refine g_modI ?_ ?_); · walk_at "zb") | ((with_reducible refine g_divI ?_ ?_); · walk_at "zb") | ((with_reducible refine g_powI ?_ ?_); · walk_at "zb")))
local macro_rules | `(tactic| walk_at "z") => `(tactic| (repeat walk_at "z1"))

namespace K09
open PySem PySem.Spec PyProof.Rows L2 Zl

def topS (i : Nat) : Stmt := PySem.Challenge.pw_textwhole_k09_chunks_of_a_text.main.body.getD i (.Pass ⟨0, 0, 0, 0⟩)
abbrev s_line_starts : Stmt := (topS 1)
abbrev N_line_starts : List Str := ["text", "found", "position"]
abbrev P_line_starts : List Str := ["text"]
theorem sc_line_starts : FnScope N_line_starts P_line_starts (defScope s_line_starts) := ⟨rfl, rfl, rfl, by decide +kernel, rfl, by decide +kernel, by decide +kernel⟩
abbrev s_chunks : Stmt := (topS 2)
abbrev N_chunks : List Str := ["text", "starts", "ends", "start", "end"]
abbrev P_chunks : List Str := ["text"]
theorem sc_chunks : FnScope N_chunks P_chunks (defScope s_chunks) := ⟨rfl, rfl, rfl, by decide +kernel, rfl, by decide +kernel, by decide +kernel⟩
abbrev s__law_next : Stmt := (topS 4)
abbrev N__law_next : List Str := ["state", "limit", "cell", "value"]
abbrev P__law_next : List Str := ["state", "limit"]
theorem sc__law_next : FnScope N__law_next P__law_next (defScope s__law_next) := ⟨rfl, rfl, rfl, by decide +kernel, rfl, by decide +kernel, by decide +kernel⟩
abbrev s__law_same : Stmt := (topS 5)
abbrev N__law_same : List Str := ["actual", "expected", "k"]
abbrev P__law_same : List Str := ["actual", "expected"]
theorem sc__law_same : FnScope N__law_same P__law_same (defScope s__law_same) := ⟨rfl, rfl, rfl, by decide +kernel, rfl, by decide +kernel, by decide +kernel⟩
abbrev s__law_char : Stmt := (topS 6)
abbrev N__law_char : List Str := ["index", "chars"]
abbrev P__law_char : List Str := ["index"]
theorem sc__law_char : FnScope N__law_char P__law_char (defScope s__law_char) := ⟨rfl, rfl, rfl, by decide +kernel, rfl, by decide +kernel, by decide +kernel⟩
abbrev s__law_line : Stmt := (topS 7)
abbrev N__law_line : List Str := ["state", "line", "k"]
abbrev P__law_line : List Str := ["state"]
theorem sc__law_line : FnScope N__law_line P__law_line (defScope s__law_line) := ⟨rfl, rfl, rfl, by decide +kernel, rfl, by decide +kernel, by decide +kernel⟩
abbrev s__law_lines : Stmt := (topS 8)
abbrev N__law_lines : List Str := ["state", "count", "text", "k"]
abbrev P__law_lines : List Str := ["state", "count"]
theorem sc__law_lines : FnScope N__law_lines P__law_lines (defScope s__law_lines) := ⟨rfl, rfl, rfl, by decide +kernel, rfl, by decide +kernel, by decide +kernel⟩
abbrev s_law : Stmt := (topS 9)
abbrev N_law : List Str := ["script", "state", "text", "expected", "before", "count", "k", "chunk", "actual", "position"]
abbrev P_law : List Str := ["script"]
theorem sc_law : FnScope N_law P_law (defScope s_law) := ⟨rfl, rfl, rfl, by decide +kernel, rfl, by decide +kernel, by decide +kernel⟩
structure Txt (K : PySem.W.Frag) (mg : Str → Option Value) where
  a_line_starts : Addr
  d_line_starts : FuncData
  F_line_starts : Fun K "line_starts" "line_starts" s_line_starts a_line_starts d_line_starts
  b_line_starts : Binds K d_line_starts P_line_starts []
  g_line_starts : mg "line_starts" = some (.ref a_line_starts)
  a_chunks : Addr
  d_chunks : FuncData
  F_chunks : Fun K "chunks" "chunks" s_chunks a_chunks d_chunks
  b_chunks : Binds K d_chunks P_chunks []
  g_chunks : mg "chunks" = some (.ref a_chunks)
  a__law_next : Addr
  d__law_next : FuncData
  F__law_next : Fun K "_law_next" "_law_next" s__law_next a__law_next d__law_next
  b__law_next : Binds K d__law_next P__law_next []
  g__law_next : mg "_law_next" = some (.ref a__law_next)
  a__law_same : Addr
  d__law_same : FuncData
  F__law_same : Fun K "_law_same" "_law_same" s__law_same a__law_same d__law_same
  b__law_same : Binds K d__law_same P__law_same []
  g__law_same : mg "_law_same" = some (.ref a__law_same)
  a__law_char : Addr
  d__law_char : FuncData
  F__law_char : Fun K "_law_char" "_law_char" s__law_char a__law_char d__law_char
  b__law_char : Binds K d__law_char P__law_char []
  g__law_char : mg "_law_char" = some (.ref a__law_char)
  a__law_line : Addr
  d__law_line : FuncData
  F__law_line : Fun K "_law_line" "_law_line" s__law_line a__law_line d__law_line
  b__law_line : Binds K d__law_line P__law_line []
  g__law_line : mg "_law_line" = some (.ref a__law_line)
  a__law_lines : Addr
  d__law_lines : FuncData
  F__law_lines : Fun K "_law_lines" "_law_lines" s__law_lines a__law_lines d__law_lines
  b__law_lines : Binds K d__law_lines P__law_lines []
  g__law_lines : mg "_law_lines" = some (.ref a__law_lines)
  a_law : Addr
  d_law : FuncData
  F_law : Fun K "law" "law" s_law a_law d_law
  b_law : Binds K d_law P_law []
  g_law : mg "law" = some (.ref a_law)
  z_len : mg "len" = none
  z_int : mg "int" = none
  z_list : mg "list" = none
  z_range : mg "range" = none
  z_isinstance : mg "isinstance" = none
  z_bool : mg "bool" = none
  z_str : mg "str" = none
  z_tuple : mg "tuple" = none
  z_zip : mg "zip" = none

section
variable {P : Program} {w : World} {K : PySem.W.Frag} {mg : Str → Option Value} {base : Heap}

/-! ### the next draw of a state [script, place, rest, seed] -/
def sp__law_next (K : PySem.W.Frag) : Sp := fun vs H Q _ => ∃ (s sl : Addr) (pos big seed lim : Int) (ns : List Int), vs = [.ref s, .int lim] ∧ 0 < lim ∧ lim < 1073741824 ∧ H s = some (.lst [.ref sl, .int pos, .int big, .int seed]) ∧ 0 ≤ pos ∧ sl ≠ s ∧ SqL K H sl (ns.map V.int) ∧
  ∀ n pos' big' seed' H', 0 ≤ n → n < lim → 0 ≤ pos' → (∀ b u, b ≠ s → H b = some u → H' b = some u) → H' s = some (.lst [.ref sl, .int pos', .int big', .int seed']) → Q (.int n) H'

theorem ok__law_next (T : Txt K mg) : FnOk P w K mg base CX0 1 T.a__law_next T.d__law_next P__law_next (sp__law_next K) := by
  refine T.F__law_next.ok sc__law_next (fun vs H Q E h => ?_) (fun cdv A outer s H vs Q E hr h => ?_)
  · obtain ⟨s, sl, pos, big, seed, lim, ns, rfl, _⟩ := h
    rfl
  · obtain ⟨s, sl, pos, big, seed, lim, ns, rfl, hl0, hl1, hs, hpos, hne, hS, q⟩ := h
    refine ⟨_, (Evl.pss_cut (ps_if (PW.pt (pw_and (pt_cmpR (op_eqU (hu64 hr)) (pe_ix ix_seq (pv 0) pe_int (fun _ _ => rfl)) pe_int (nomark _)) (pw_and1 (pt_cmpR op_lt (pe_ix ix_seq (pv 0) pe_int (fun _ _ => rfl)) (pe_callB call_lenU (by rfl) T.z_len PySem.boot_len (pa_cons (pe_ix ix_seq (pv 0) pe_int (fun _ _ => rfl)) pa_nil)) (nomark _)))))
          (pss_cons (ps_set (i := 2) sc__law_next.nd rfl (Or.inl rfl) (pe_ix ix_seq (pe_ix ix_seq (pv 0) pe_int (fun _ _ => rfl)) (pe_ix ix_seq (pv 0) pe_int (fun _ _ => rfl)) (fun _ _ => rfl)))
        (pss_cons (ps_augS (pv 0) pe_int get_list pe_int ip_add set_list)
        (pss_one (ps_if (pt_cmpR op_ge (pv 2) (pe_op op_pow pe_int pe_int) (nomark _))
          (pss_one (ps_asg (pv 2) (pg_sub (pv 0) pe_int set_list)))
          (pss_one (ps_asg (pe_op op_mod (pe_callTy call_intU (by rfl) T.z_int (by decide +kernel) (pa_cons (pe_op op_addU (pe_op op_addU (pe_op op_mulU (pe_ix ix_seq (pv 0) pe_int (fun _ _ => rfl)) pe_int) (pe_op op_mod (pe_callTy call_intU (by rfl) T.z_int (by decide +kernel) (pa_cons (pv 2) pa_nil)) pe_int)) pe_int) pa_nil)) pe_int) (pg_sub (pv 0) pe_int set_list)))))))
          pss_nil)
        (pss_cons (ps_if (pt_cmpR op_gt (pe_ix ix_seq (pv 0) pe_int (fun _ _ => rfl)) pe_int (nomark _))
          (pss_cons (ps_set (i := 3) sc__law_next.nd rfl (Or.inl rfl) (pe_op op_mod (pe_callTy call_intU (by rfl) T.z_int (by decide +kernel) (pa_cons (pe_ix ix_seq (pv 0) pe_int (fun _ _ => rfl)) pa_nil)) (pv 1)))
        (pss_cons (ps_asg (pe_op op_fdiv (pe_ix ix_seq (pv 0) pe_int (fun _ _ => rfl)) (pv 1)) (pg_sub (pv 0) pe_int set_list))
        (pss_one (ps_ret (pv 3)))))
          pss_nil)
        (pss_cons (ps_asg (pe_op op_mod (pe_callTy call_intU (by rfl) T.z_int (by decide +kernel) (pa_cons (pe_op op_addU (pe_op op_mulU (pe_ix ix_seq (pv 0) pe_int (fun _ _ => rfl)) pe_int) pe_int) pa_nil)) pe_int) (pg_sub (pv 0) pe_int set_list))
        (pss_one (ps_ret (pe_op op_mod (pe_callTy call_intU (by rfl) T.z_int (by decide +kernel) (pa_cons (pe_op op_fdiv (pe_ix ix_seq (pv 0) pe_int (fun _ _ => rfl)) pe_int) pa_nil)) (pv 1))))))), ?_⟩
    have O := Own.arg1 hs
    have hS := sq_dels (as := [s]) (fun h => hne (List.mem_singleton.mp h)) hS
    have hlm : (List.map V.int ns).length = ns.length := List.length_map ..
    refine ⟨fun σ H' => ∃ (pos big seed : Int) (x2 x3 : Option V), σ = [some (.ref s), some (.int lim), x2, x3] ∧ 0 ≤ pos ∧ Own (dels H [s]) [(s, .lst [.ref sl, .int pos, .int big, .int seed])] H', ?_, ?_⟩
    · walk_at "z"
      refine g_ixL (m := 2) (O.lst 0) (atI_nat (j := 2) rfl) ?_
      walk_at "z"
      have skip : ∀ H', Own (dels H [s]) [(s, .lst [.ref sl, .int pos, .int big, .int seed])] H' → ∃ (pos big seed : Int) (x2 x3 : Option V), (L2.start N__law_next [.ref s, .int lim]) = [some (.ref s), some (.int lim), x2, x3] ∧ 0 ≤ pos ∧ Own (dels H [s]) [(s, .lst [.ref sl, .int pos, .int big, .int seed])] H' := fun H' O => ⟨pos, big, seed, none, none, rfl, hpos, O⟩
      refine ite_d (fun _ => ?_) (fun _ => ?_)
      · walk_at "z"
        refine g_ixL (m := 1) (O.lst 0) (atI_nat (j := 1) rfl) ?_
        walk_at "z"
        refine g_ixL (m := 0) (O.lst 0) (atI_nat (j := 0) rfl) ?_
        walk_at "z"
        refine g_lenL (O.fr.seq hS) ?_
        walk_at "z"
        refine ite_d (fun hlt => ?_) (fun _ => ?_)
        · walk_at "z"
          refine g_ixL (m := 0) (O.lst 0) (atI_nat (j := 0) rfl) ?_
          walk_at "z"
          refine g_ixL (m := 1) (O.lst 0) (atI_nat (j := 1) rfl) ?_
          refine g_ixL (O.fr.seq hS) (atI_int hpos (by omega)) ?_
          walk_at "z"
          refine g_ixLL (m := 1) (O.lst 0) (atI_nat (j := 1) rfl) ?_
          walk_at "z"
          refine g_setL (i := 1) O 0 rfl (by decide) (by simp) fun H1 O => ?_
          walk_at "z"
          refine ite_d (fun _ => ?_) (fun _ => ?_)
          · walk_at "z"
            refine g_setL (i := 2) O 0 rfl (by decide) (by simp) fun H2 O => ?_
            exact ⟨pos + 1, _, seed, _, _, rfl, by omega, O⟩
          · walk_at "z"
            refine g_ixL (m := 3) (O.lst 0) (atI_nat (j := 3) rfl) ?_
            walk_at "z"
            refine g_setL (i := 3) O 0 rfl (by decide) (by simp) fun H2 O => ?_
            exact ⟨pos + 1, _, _, _, _, rfl, by omega, O⟩
        · exact skip _ O
      · walk_at "z"
        refine iteF ?_
        exact skip _ O
    clear O hpos
    rintro σ H1 ⟨pos, big, seed, x2, x3, rfl, hpos, O⟩
    walk_at "z"
    refine g_ixL (m := 2) (O.lst 0) (atI_nat (j := 2) rfl) ?_
    walk_at "z"
    refine ite_d (fun _ => ?_) (fun _ => ?_)
    · walk_at "z"
      refine g_ixL (m := 2) (O.lst 0) (atI_nat (j := 2) rfl) ?_
      walk_at "z"
      refine g_ixL (m := 2) (O.lst 0) (atI_nat (j := 2) rfl) ?_
      walk_at "z"
      refine g_setL (i := 2) O 0 rfl (by decide) (by simp) fun H2 O => ?_
      walk_at "z"
      exact q _ _ _ _ _ (Int.emod_nonneg _ (by omega)) (Int.emod_lt_of_pos _ hl0) hpos O.give1 (O.get 0)
    · walk_at "z"
      refine g_ixL (m := 3) (O.lst 0) (atI_nat (j := 3) rfl) ?_
      walk_at "z"
      refine g_setL (i := 3) O 0 rfl (by decide) (by simp) fun H2 O => ?_
      walk_at "z"
      refine g_ixL (m := 3) (O.lst 0) (atI_nat (j := 3) rfl) ?_
      walk_at "z"
      exact q _ _ _ _ _ (Int.emod_nonneg _ (by omega)) (Int.emod_lt_of_pos _ hl0) hpos O.give1 (O.get 0)
theorem nxt {B : Hp} {cs : List (Addr × HO)} {H : Hp} {Q : VK} {E : XK} {s sl : Addr} {pos big seed lim : Int} {ns : List Int} (O : Own B cs H) (j : Nat) (hj : cs[j]? = some (s, .lst [.ref sl, .int pos, .int big, .int seed])) (hi : 0 ≤ pos) (hB : B sl = some (.lst (ns.map V.int))) (hl : 0 < lim) (hl1 : lim < 1073741824)
    (k : ∀ n pos big seed H', 0 ≤ n → n < lim → 0 ≤ pos → Own B (cs.set j (s, .lst [.ref sl, .int pos, .int big, .int seed])) H' → Q (.int n) H') : sp__law_next K [.ref s, .int lim] H Q E :=
  ⟨s, sl, pos, big, seed, lim, ns, rfl, hl, hl1, O.get j hj, hi, O.neB j hj hB, .inl (.inl (O.fr _ _ hB)), fun n pos big seed H' h0 h1 hp e hs => k n pos big seed H' h0 h1 hp (O.mut j hj e hs)⟩


/-! ### the law's own comparison -/
def sp__law_same (n : Nat) (K : PySem.W.Frag) : Sp := fun vs H Q _ => ∃ (x y : V) (d e : PyData), vs = [x, y] ∧ Dp K H x d ∧ Dp K H y e ∧ Dl n e ∧ ∀ b H', (b = true ↔ d = e) → Same H H' → Q (.bl b) H'

theorem step__law_same (T : Txt K mg) (n : Nat) (ih : FnOk P w K mg base CX0 (n + 1) T.a__law_same T.d__law_same P__law_same (sp__law_same n K)) : FnOk P w K mg base CX0 (n + 2) T.a__law_same T.d__law_same P__law_same (sp__law_same (n + 1) K) := by
  refine T.F__law_same.ok sc__law_same (fun vs H Q E h => ?_) (fun cdv A outer s H vs Q E hr h => ?_)
  · obtain ⟨x, y, d, e, rfl, _⟩ := h
    rfl
  · obtain ⟨x, y, d, e, rfl, hx, hy, he, q⟩ := h
    refine ⟨_, (pss_cons (ps_if (pt_cmpR op_isNU (pv 1) pe_non (nomark _))
          (pss_one (ps_ret (pe_cmpR op_isNU (pv 0) pe_non (nomark _))))
          pss_nil)
        (pss_cons (ps_if (pt_val (pe_callB call_isiU (by rfl) T.z_isinstance (by decide +kernel) (pa_cons (pv 1) (pa_cons (pe_bltn (v := .ty "bool") (by rfl) T.z_bool (by decide +kernel) rfl) pa_nil))))
          (pss_one (ps_ret (pe_and (pe_callB call_isiU (by rfl) T.z_isinstance (by decide +kernel) (pa_cons (pv 0) (pa_cons (pe_bltn (v := .ty "bool") (by rfl) T.z_bool (by decide +kernel) rfl) pa_nil))) (pe_one (pe_cmpR (op_eqU (hu64 hr)) (pv 0) (pv 1) (nomark _))))))
          pss_nil)
        (pss_cons (ps_if (pt_val (pe_callB call_isiU (by rfl) T.z_isinstance (by decide +kernel) (pa_cons (pv 1) (pa_cons (pe_bltn (v := .ty "int") (by rfl) T.z_int (by decide +kernel) rfl) pa_nil))))
          (pss_one (ps_ret (pe_and (pe_callB call_isiU (by rfl) T.z_isinstance (by decide +kernel) (pa_cons (pv 0) (pa_cons (pe_bltn (v := .ty "int") (by rfl) T.z_int (by decide +kernel) rfl) pa_nil))) (pe_and (pe_not (pe_callB call_isiU (by rfl) T.z_isinstance (by decide +kernel) (pa_cons (pv 0) (pa_cons (pe_bltn (v := .ty "bool") (by rfl) T.z_bool (by decide +kernel) rfl) pa_nil)))) (pe_one (pe_cmpR (op_eqU (hu64 hr)) (pv 0) (pv 1) (nomark _)))))))
          pss_nil)
        (pss_cons (ps_if (pt_val (pe_callB call_isiU (by rfl) T.z_isinstance (by decide +kernel) (pa_cons (pv 1) (pa_cons (pe_bltn (v := .ty "str") (by rfl) T.z_str (by decide +kernel) rfl) pa_nil))))
          (pss_one (ps_ret (pe_and (pe_callB call_isiU (by rfl) T.z_isinstance (by decide +kernel) (pa_cons (pv 0) (pa_cons (pe_bltn (v := .ty "str") (by rfl) T.z_str (by decide +kernel) rfl) pa_nil))) (pe_one (pe_cmpR (op_eqU (hu64 hr)) (pv 0) (pv 1) (nomark _))))))
          pss_nil)
        (pss_cons (ps_if (PW.pt (pw_and (pt_val (pe_callB call_isiU (by rfl) T.z_isinstance (by decide +kernel) (pa_cons (pv 1) (pa_cons (pe_bltn (v := .ty "tuple") (by rfl) T.z_tuple (by decide +kernel) rfl) pa_nil)))) (pw_and1 (pt_not (pt_val (pe_callB call_isiU (by rfl) T.z_isinstance (by decide +kernel) (pa_cons (pv 0) (pa_cons (pe_bltn (v := .ty "tuple") (by rfl) T.z_tuple (by decide +kernel) rfl) pa_nil))))))))
          (pss_one (ps_ret pe_bl))
          pss_nil)
        (pss_cons (ps_if (PW.pt (pw_and (pt_val (pe_callB call_isiU (by rfl) T.z_isinstance (by decide +kernel) (pa_cons (pv 1) (pa_cons (pe_bltn (v := .ty "list") (by rfl) T.z_list (by decide +kernel) rfl) pa_nil)))) (pw_and1 (pt_not (pt_val (pe_callB call_isiU (by rfl) T.z_isinstance (by decide +kernel) (pa_cons (pv 0) (pa_cons (pe_bltn (v := .ty "list") (by rfl) T.z_list (by decide +kernel) rfl) pa_nil))))))))
          (pss_one (ps_ret pe_bl))
          pss_nil)
        (pss_cons (ps_if (pt_cmpR (op_neU (hu64 hr)) (pe_callB call_lenU (by rfl) T.z_len PySem.boot_len (pa_cons (pv 0) pa_nil)) (pe_callB call_lenU (by rfl) T.z_len PySem.boot_len (pa_cons (pv 1) pa_nil)) (nomark _))
          (pss_one (ps_ret pe_bl))
          pss_nil)
        (pss_cons (ps_for PassesOwn.never rfl (pi_range1 (by rfl) T.z_range (pa_cons (pe_callB call_lenU (by rfl) T.z_len PySem.boot_len (pa_cons (pv 1) pa_nil)) pa_nil)) (pg_name (i := 2) sc__law_same.nd rfl (Or.inl rfl))
          (pss_one (ps_if (pt_not (pt_val (pe_call ih (hr.mono (by omega)) (by rfl) T.g__law_same T.F__law_same.kp T.b__law_same .nil pass0 (pa_cons (pe_ix ix_seq (pv 0) (pv 2) (fun _ _ => rfl)) (pa_cons (pe_ix ix_seq (pv 1) (pv 2) (fun _ _ => rfl)) pa_nil)))))
          (pss_one (ps_ret pe_bl))
          pss_nil)))
        (pss_one (ps_ret pe_bl)))))))))), ?_⟩
    walk_at "z"
    cases hy with
    | non =>
      refine ite_d (fun _ => ?_) (fun h => absurd rfl h)
      walk_at "z"
      refine q _ _ ?_ (Same.refl _)
      cases hx <;> simp
    | bl b =>
      refine ite_d (fun h => nomatch h) (fun _ => ?_)
      walk_at "z"
      refine g_isi (.bl b) rfl ?_
      walk_at "z"
      refine iteT ?_
      walk_at "z"
      cases hx with
      | bl b' =>
        refine g_isi (.bl b') rfl ?_
        walk_at "z"
        refine iteT ?_
        walk_at "z"
        refine g_eqB (q _ _ ?_ (Same.refl _))
        simp
      | non => exact g_isi (b := false) .non rfl (by walk_at "z"; exact iteF (q _ _ (by simp) (Same.refl _)))
      | int i => exact g_isi (b := false) (.int i) rfl (by walk_at "z"; exact iteF (q _ _ (by simp) (Same.refl _)))
      | str s => exact g_isi (b := false) (.str s) rfl (by walk_at "z"; exact iteF (q _ _ (by simp) (Same.refl _)))
      | lst h1 h2 => exact g_isi (b := false) (.lst h1 h2) rfl (by walk_at "z"; exact iteF (q _ _ (by simp) (Same.refl _)))
      | tup h1 h2 => exact g_isi (b := false) (.tup h1 h2) rfl (by walk_at "z"; exact iteF (q _ _ (by simp) (Same.refl _)))
    | int b =>
      refine ite_d (fun h => nomatch h) (fun _ => ?_)
      walk_at "z"
      refine g_isi (.int b) rfl ?_
      walk_at "z"
      refine iteF ?_
      walk_at "z"
      refine g_isi (.int b) rfl ?_
      walk_at "z"
      refine iteT ?_
      walk_at "z"
      cases hx with
      | int b' =>
        refine g_isi (.int b') rfl ?_
        walk_at "z"
        refine iteT ?_
        walk_at "z"
        refine g_isi (.int b') rfl ?_
        walk_at "z"
        refine iteT ?_
        walk_at "z"
        refine q _ _ ?_ (Same.refl _)
        simp
      | bl b' =>
        refine g_isi (.bl b') rfl ?_
        walk_at "z"
        refine iteT ?_
        walk_at "z"
        refine g_isi (.bl b') rfl ?_
        walk_at "z"
        refine iteF ?_
        exact q _ _ (by simp) (Same.refl _)
      | non => exact g_isi (b := false) .non rfl (by walk_at "z"; exact iteF (q _ _ (by simp) (Same.refl _)))
      | str s => exact g_isi (b := false) (.str s) rfl (by walk_at "z"; exact iteF (q _ _ (by simp) (Same.refl _)))
      | lst h1 h2 => exact g_isi (b := false) (.lst h1 h2) rfl (by walk_at "z"; exact iteF (q _ _ (by simp) (Same.refl _)))
      | tup h1 h2 => exact g_isi (b := false) (.tup h1 h2) rfl (by walk_at "z"; exact iteF (q _ _ (by simp) (Same.refl _)))
    | str b =>
      refine ite_d (fun h => nomatch h) (fun _ => ?_)
      walk_at "z"
      refine g_isi (.str b) rfl ?_
      walk_at "z"
      refine iteF ?_
      walk_at "z"
      refine g_isi (.str b) rfl ?_
      walk_at "z"
      refine iteF ?_
      walk_at "z"
      refine g_isi (.str b) rfl ?_
      walk_at "z"
      refine iteT ?_
      walk_at "z"
      cases hx with
      | str b' =>
        refine g_isi (.str b') rfl ?_
        walk_at "z"
        refine iteT ?_
        walk_at "z"
        refine g_eqS (q _ _ ?_ (Same.refl _))
        simp
      | non => exact g_isi (b := false) .non rfl (by walk_at "z"; exact iteF (q _ _ (by simp) (Same.refl _)))
      | bl i => exact g_isi (b := false) (.bl i) rfl (by walk_at "z"; exact iteF (q _ _ (by simp) (Same.refl _)))
      | int i => exact g_isi (b := false) (.int i) rfl (by walk_at "z"; exact iteF (q _ _ (by simp) (Same.refl _)))
      | lst h1 h2 => exact g_isi (b := false) (.lst h1 h2) rfl (by walk_at "z"; exact iteF (q _ _ (by simp) (Same.refl _)))
      | tup h1 h2 => exact g_isi (b := false) (.tup h1 h2) rfl (by walk_at "z"; exact iteF (q _ _ (by simp) (Same.refl _)))
    | @lst b ys es hS hA =>
      cases he with
      | lst hz he =>
      refine ite_d (fun h => nomatch h) (fun _ => ?_)
      walk_at "z"
      refine g_isi (.lst hS hA) rfl ?_
      walk_at "z"
      refine iteF ?_
      walk_at "z"
      refine g_isi (.lst hS hA) rfl ?_
      walk_at "z"
      refine iteF ?_
      walk_at "z"
      refine g_isi (.lst hS hA) rfl ?_
      walk_at "z"
      refine iteF ?_
      walk_at "z"
      refine g_isi (.lst hS hA) rfl ?_
      walk_at "z"
      refine iteF ?_
      walk_at "z"
      refine iteF ?_
      walk_at "z"
      refine g_isi (.lst hS hA) rfl ?_
      walk_at "z"
      refine iteT ?_
      walk_at "z"
      cases hx with
      | non => exact g_isi (b := false) .non rfl (by walk_at "z"; exact iteT (by walk_at "z"; exact q _ _ (by simp) (Same.refl _)))
      | bl i => exact g_isi (b := false) (.bl i) rfl (by walk_at "z"; exact iteT (by walk_at "z"; exact q _ _ (by simp) (Same.refl _)))
      | int i => exact g_isi (b := false) (.int i) rfl (by walk_at "z"; exact iteT (by walk_at "z"; exact q _ _ (by simp) (Same.refl _)))
      | str s => exact g_isi (b := false) (.str s) rfl (by walk_at "z"; exact iteT (by walk_at "z"; exact q _ _ (by simp) (Same.refl _)))
      | tup h1 h2 => exact g_isi (b := false) (.tup h1 h2) rfl (by walk_at "z"; exact iteT (by walk_at "z"; exact q _ _ (by simp) (Same.refl _)))
      | @lst a xs ds h1 h2 =>
        refine g_isi (.lst h1 h2) rfl ?_
        walk_at "z"
        refine iteF ?_
        walk_at "z"
        refine g_lenL h1 ?_
        walk_at "z"
        refine g_lenL hS ?_
        walk_at "z"
        have l1 := dps_len h2
        have l2 := dps_len hA
        refine ite_nd (fun hne => ?_) (fun hlen => ?_)
        · walk_at "z"
          refine q _ _ (iff_false_of fun e => hne ?_) (Same.refl _)
          injection e with e
          rw [l1, l2, e]
        · walk_at "z"
          refine g_lenL hS ?_
          refine g_rng1v ⟨by omega, by omega⟩ ?_
          refine forB_rng0 (fun i σ H' => ∃ x2, σ = [some (.ref a), some (.ref b), x2] ∧ Same H H' ∧ ∀ j, j < i → ds[j]? = es[j]?) ?_ ?_ ?_
          · exact ⟨_, rfl, Same.refl _, fun j hj => absurd hj (Nat.not_lt_zero j)⟩
          · rintro i σ H2 hi ⟨x2, rfl, eH, hj⟩
            walk_at "z"
            have hi1 : i < xs.length := by omega
            have hi2 : i < ys.length := by omega
            refine g_ixL (eH.seq h1) (atI_nat (List.getElem?_eq_getElem hi1)) ?_
            walk_at "z"
            refine g_ixL (eH.seq hS) (atI_nat (List.getElem?_eq_getElem hi2)) ?_
            walk_at "z"
            obtain ⟨d, ed, hd⟩ := dps_get h2 (List.getElem?_eq_getElem hi1)
            obtain ⟨e, ee, hee⟩ := dps_get hA (List.getElem?_eq_getElem hi2)
            refine ⟨_, _, d, e, rfl, dp_ex eH hd, dp_ex eH hee, he e (List.mem_of_getElem? ee), fun c H3 hc e3 => ?_⟩
            walk_at "z"
            refine ite_nb (fun hcb => ?_) (fun hcb => ?_)
            · walk_at "z"
              refine q _ _ (iff_false_of fun e' => ?_) (eH.trans e3)
              injection e' with e'
              rw [e', ee] at ed
              rw [hcb] at hc
              exact absurd (hc.mpr (Option.some.inj ed).symm) (by simp)
            · walk_at "z"
              refine ⟨_, rfl, eH.trans e3, fun j hji => ?_⟩
              by_cases hjj : j < i
              · exact hj j hjj
              · have : j = i := by omega
                subst this
                rw [ed, ee, hc.mp hcb]
          · rintro σ H2 ⟨x2, rfl, eH, hj⟩
            walk_at "z"
            refine q _ _ (iff_true_of ?_) eH
            congr 1
            apply List.ext_getElem?
            intro j
            by_cases hjl : j < ys.length
            · exact hj j (by omega)
            · rw [List.getElem?_eq_none (by omega), List.getElem?_eq_none (by omega)]
    | @tup b ys es hS hA =>
      cases he with
      | tup hz he =>
      refine ite_d (fun h => nomatch h) (fun _ => ?_)
      walk_at "z"
      refine g_isi (.tup hS hA) rfl ?_
      walk_at "z"
      refine iteF ?_
      walk_at "z"
      refine g_isi (.tup hS hA) rfl ?_
      walk_at "z"
      refine iteF ?_
      walk_at "z"
      refine g_isi (.tup hS hA) rfl ?_
      walk_at "z"
      refine iteF ?_
      walk_at "z"
      refine g_isi (.tup hS hA) rfl ?_
      walk_at "z"
      refine iteT ?_
      walk_at "z"
      cases hx with
      | non => exact g_isi (b := false) .non rfl (by walk_at "z"; exact iteT (by walk_at "z"; exact q _ _ (by simp) (Same.refl _)))
      | bl i => exact g_isi (b := false) (.bl i) rfl (by walk_at "z"; exact iteT (by walk_at "z"; exact q _ _ (by simp) (Same.refl _)))
      | int i => exact g_isi (b := false) (.int i) rfl (by walk_at "z"; exact iteT (by walk_at "z"; exact q _ _ (by simp) (Same.refl _)))
      | str s => exact g_isi (b := false) (.str s) rfl (by walk_at "z"; exact iteT (by walk_at "z"; exact q _ _ (by simp) (Same.refl _)))
      | lst h1 h2 => exact g_isi (b := false) (.lst h1 h2) rfl (by walk_at "z"; exact iteT (by walk_at "z"; exact q _ _ (by simp) (Same.refl _)))
      | @tup a xs ds h1 h2 =>
        refine g_isi (.tup h1 h2) rfl ?_
        walk_at "z"
        refine iteF ?_
        walk_at "z"
        refine g_isi (.tup hS hA) rfl ?_
        walk_at "z"
        refine iteF ?_
        walk_at "z"
        refine iteF ?_
        walk_at "z"
        refine g_lenT h1 ?_
        walk_at "z"
        refine g_lenT hS ?_
        walk_at "z"
        have l1 := dps_len h2
        have l2 := dps_len hA
        refine ite_nd (fun hne => ?_) (fun hlen => ?_)
        · walk_at "z"
          refine q _ _ (iff_false_of fun e => hne ?_) (Same.refl _)
          injection e with e
          rw [l1, l2, e]
        · walk_at "z"
          refine g_lenT hS ?_
          refine g_rng1v ⟨by omega, by omega⟩ ?_
          refine forB_rng0 (fun i σ H' => ∃ x2, σ = [some (.ref a), some (.ref b), x2] ∧ Same H H' ∧ ∀ j, j < i → ds[j]? = es[j]?) ?_ ?_ ?_
          · exact ⟨_, rfl, Same.refl _, fun j hj => absurd hj (Nat.not_lt_zero j)⟩
          · rintro i σ H2 hi ⟨x2, rfl, eH, hj⟩
            walk_at "z"
            have hi1 : i < xs.length := by omega
            have hi2 : i < ys.length := by omega
            refine g_ixT (sq_t eH h1) (atI_nat (List.getElem?_eq_getElem hi1)) ?_
            walk_at "z"
            refine g_ixT (sq_t eH hS) (atI_nat (List.getElem?_eq_getElem hi2)) ?_
            walk_at "z"
            obtain ⟨d, ed, hd⟩ := dps_get h2 (List.getElem?_eq_getElem hi1)
            obtain ⟨e, ee, hee⟩ := dps_get hA (List.getElem?_eq_getElem hi2)
            refine ⟨_, _, d, e, rfl, dp_ex eH hd, dp_ex eH hee, he e (List.mem_of_getElem? ee), fun c H3 hc e3 => ?_⟩
            walk_at "z"
            refine ite_nb (fun hcb => ?_) (fun hcb => ?_)
            · walk_at "z"
              refine q _ _ (iff_false_of fun e' => ?_) (eH.trans e3)
              injection e' with e'
              rw [e', ee] at ed
              rw [hcb] at hc
              exact absurd (hc.mpr (Option.some.inj ed).symm) (by simp)
            · walk_at "z"
              refine ⟨_, rfl, eH.trans e3, fun j hji => ?_⟩
              by_cases hjj : j < i
              · exact hj j hjj
              · have : j = i := by omega
                subst this
                rw [ed, ee, hc.mp hcb]
          · rintro σ H2 ⟨x2, rfl, eH, hj⟩
            walk_at "z"
            refine q _ _ (iff_true_of ?_) eH
            congr 1
            apply List.ext_getElem?
            intro j
            by_cases hjl : j < ys.length
            · exact hj j (by omega)
            · rw [List.getElem?_eq_none (by omega), List.getElem?_eq_none (by omega)]
theorem ok__law_same_n (T : Txt K mg) : ∀ n : Nat, FnOk P w K mg base CX0 (n + 1) T.a__law_same T.d__law_same P__law_same (sp__law_same n K)
  | 0 => fn_none fun vs H Q E h => by
    obtain ⟨x, y, d, e, _, _, _, he, _⟩ := h
    cases he
  | n + 1 => step__law_same T n (ok__law_same_n T n)
theorem ok__law_same (T : Txt K mg) : FnOk P w K mg base CX0 13 T.a__law_same T.d__law_same P__law_same (sp__law_same 12 K) := ok__law_same_n T 12


/-! ### where chunks start -/
def blank (c : Nat) : Bool := c == 32 || c == 10
def lastNl (nl : Bool) (l : List Nat) : Bool := match l.getLast? with
  | none => nl
  | some c => c == 10
def stA (p : Nat) (nl : Bool) : List Nat → List Nat
  | [] => []
  | c :: r => (if nl && !blank c then [p] else []) ++ stA (p + 1) (c == 10) r
theorem lastNl_cons (nl : Bool) (c : Nat) (r : List Nat) : lastNl nl (c :: r) = lastNl (c == 10) r := by
  unfold lastNl
  cases r with
  | nil => rfl
  | cons d r => rw [List.getLast?_cons_cons]; cases e : (d :: r).getLast? <;> simp at e ⊢
theorem stA_app (b : List Nat) : ∀ (p : Nat) (nl : Bool) (a : List Nat), stA p nl (a ++ b) = stA p nl a ++ stA (p + a.length) (lastNl nl a) b
  | p, nl, [] => rfl
  | p, nl, c :: a => by
    rw [List.cons_append]
    show (if nl && !blank c then [p] else []) ++ stA (p + 1) (c == 10) (a ++ b) = (if nl && !blank c then [p] else []) ++ stA (p + 1) (c == 10) a ++ _
    rw [stA_app b (p + 1) (c == 10) a, lastNl_cons, List.append_assoc, List.length_cons, Nat.add_assoc, Nat.add_comm 1]
theorem lastNl_app (nl : Bool) (a b : List Nat) : lastNl nl (a ++ b) = lastNl (lastNl nl a) b := by
  induction a generalizing nl with
  | nil => rfl
  | cons c a ih => rw [List.cons_append, lastNl_cons, ih, lastNl_cons]
theorem stA_snoc (p : Nat) (nl : Bool) (l : List Nat) (c : Nat) : stA p nl (l ++ [c]) = stA p nl l ++ (if lastNl nl l && !blank c then [p + l.length] else []) := by
  rw [stA_app]
  show _ ++ ((if lastNl nl l && !blank c then [p + l.length] else []) ++ []) = _
  rw [List.append_nil]
/-- lines without a start -/
def Bl (l : List Nat) : Prop := (∀ p, stA p true l = []) ∧ lastNl true l = true
/-- no start within -/
theorem stA_off : ∀ (p : Nat) (l : List Nat), 10 ∉ l → stA p false l = []
  | _, [], _ => rfl
  | p, c :: l, h => by
    have hc : (c == 10) = false := beq_eq_false_iff_ne.mpr fun e => h (by rw [e]; exact .head _)
    show (if false && !blank c then [p] else []) ++ stA (p + 1) (c == 10) l = []
    rw [hc, stA_off (p + 1) l fun h' => h (.tail _ h')]
    rfl
theorem lastNl_off (nl : Bool) (l : List Nat) (h : 10 ∉ l) (hn : nl = false) : lastNl nl l = false := by
  unfold lastNl
  cases e : l.getLast? with
  | none => exact hn
  | some c => exact beq_eq_false_iff_ne.mpr fun e2 => h (by rw [← e2]; exact List.mem_of_getLast? e)
theorem Bl.nil : Bl [] := ⟨fun _ => rfl, rfl⟩
theorem Bl.app {a b : List Nat} (ha : Bl a) (hb : Bl b) : Bl (a ++ b) := by
  refine ⟨fun p => ?_, ?_⟩
  · rw [stA_app, ha.1, ha.2, hb.1]
    rfl
  · rw [lastNl_app, ha.2, hb.2]
theorem Bl.nl : Bl [10] := ⟨fun _ => rfl, rfl⟩
theorem Bl.line {l : List Nat} (h : 10 ∉ l) : Bl (32 :: l ++ [10]) := by
  refine ⟨fun p => ?_, ?_⟩
  · rw [stA_app]
    show ((if true && !blank 32 then [p] else []) ++ stA (p + 1) (32 == 10) l) ++ stA _ _ [10] = []
    rw [show (32 == 10) = false from rfl, stA_off _ _ h, lastNl_cons, show (32 == 10) = false from rfl, lastNl_off _ _ h rfl]
    rfl
  · rw [lastNl_app]
    rfl
/-- a chunk; one whose last line ends -/
def Ck (l : List Nat) : Prop := ∀ p, stA p true l = [p]
def CkN (l : List Nat) : Prop := Ck l ∧ lastNl true l = true
theorem ck_of {c : Nat} {l b : List Nat} (hc : blank c = false) (h : 10 ∉ l) (hb : Bl b) : CkN (c :: l ++ [10] ++ b) := by
  have hc10 : (c == 10) = false := by
    unfold blank at hc
    rw [Bool.or_eq_false_iff] at hc
    exact hc.2
  have e1 : lastNl true (c :: l ++ [10]) = true := by
    rw [lastNl_app]
    rfl
  refine ⟨fun p => ?_, ?_⟩
  · rw [stA_app, e1, hb.1, List.append_nil, stA_app]
    show ((if true && !blank c then [p] else []) ++ stA (p + 1) (c == 10) l) ++ stA _ _ [10] = [p]
    rw [hc, hc10, stA_off _ _ h, lastNl_cons, hc10, lastNl_off _ _ h rfl]
    rfl
  · rw [lastNl_app, e1, hb.2]
/-- .. and without its last sign, which is a newline -/
theorem ck_drop {l : List Nat} (h : CkN l) (hne : l ≠ []) : Ck (l.take (l.length - 1)) := by
  have hl : l = l.dropLast ++ [l.getLast hne] := (List.dropLast_concat_getLast hne).symm
  have h10 : l.getLast hne = 10 := by
    have := h.2
    unfold lastNl at this
    rw [List.getLast?_eq_getLast hne] at this
    exact beq_iff_eq.mp this
  intro p
  have h1 := h.1 p
  rw [hl, h10, stA_snoc] at h1
  rw [← List.dropLast_eq_take]
  have e : (if lastNl true l.dropLast && !blank 10 then [p + l.dropLast.length] else []) = ([] : List Nat) := by
    rw [show blank 10 = true from rfl]
    simp
  rw [e, List.append_nil] at h1
  exact h1
/-- chunks one behind the other, with their places -/
def pairsOf (p : Nat) : List (List Nat) → List (Nat × List Nat)
  | [] => []
  | c :: r => (p, c) :: pairsOf (p + c.length) r
theorem pairsOf_snoc (c : List Nat) : ∀ (p : Nat) (cs : List (List Nat)), pairsOf p (cs ++ [c]) = pairsOf p cs ++ [(p + cs.flatten.length, c)]
  | p, [] => rfl
  | p, d :: cs => by
    show (p, d) :: pairsOf (p + d.length) (cs ++ [c]) = _
    rw [pairsOf_snoc c (p + d.length) cs, List.flatten_cons, List.length_append, Nat.add_assoc]
    rfl
theorem pairsOf_len : ∀ (p : Nat) (cs : List (List Nat)), (pairsOf p cs).length = cs.length
  | _, [] => rfl
  | p, d :: cs => congrArg (· + 1) (pairsOf_len (p + d.length) cs)
theorem pairsOf_snd : ∀ (p : Nat) (cs : List (List Nat)), (pairsOf p cs).map (·.2) = cs
  | _, [] => rfl
  | p, d :: cs => congrArg (d :: ·) (pairsOf_snd (p + d.length) cs)
/-- all are chunks, the lines of all but the last end -/
def Cks : List (List Nat) → Prop
  | [] => True
  | [c] => Ck c
  | c :: d :: r => CkN c ∧ Cks (d :: r)
theorem Cks.snoc {c : List Nat} (hc : Ck c) : ∀ cs : List (List Nat), (∀ d ∈ cs, CkN d) → Cks (cs ++ [c])
  | [], _ => hc
  | [d], h => ⟨h d (.head _), hc⟩
  | d :: e :: r, h => ⟨h d (.head _), Cks.snoc hc (e :: r) fun x hx => h x (.tail _ hx)⟩
theorem Cks.all : ∀ cs : List (List Nat), (∀ d ∈ cs, CkN d) → Cks cs
  | [], _ => trivial
  | [d], h => (h d (.head _)).1
  | d :: e :: r, h => ⟨h d (.head _), Cks.all (e :: r) fun x hx => h x (.tail _ hx)⟩
theorem stA_chunks : ∀ (cs : List (List Nat)) (p : Nat), Cks cs → stA p true cs.flatten = (pairsOf p cs).map (·.1)
  | [], _, _ => rfl
  | [c], p, h => by
    show stA p true (c ++ []) = [p]
    rw [List.append_nil]
    exact h p
  | c :: d :: r, p, h => by
    show stA p true (c ++ (d :: r).flatten) = p :: (pairsOf (p + c.length) (d :: r)).map (·.1)
    rw [stA_app, h.1.1 p, h.1.2, stA_chunks (d :: r) (p + c.length) h.2]
    rfl
/-- what chunks is to tell -/
def endsOf (l : List Nat) : List Nat := (stA 0 true l).drop 1 ++ [l.length]
def chunksOf (l : List Nat) : List (Nat × List Nat) := ((stA 0 true l).zip (endsOf l)).map fun p => (p.1, (l.drop p.1).take (p.2 - p.1))
theorem zip_ends : ∀ (cs : List (List Nat)) (p n : Nat), n = p + cs.flatten.length → ∀ l : List Nat, l.drop p = cs.flatten →
    (((pairsOf p cs).map (·.1)).zip (((pairsOf p cs).map (·.1)).drop 1 ++ [n])).map (fun q => (q.1, (l.drop q.1).take (q.2 - q.1))) = pairsOf p cs
  | [], _, _, _, _, _ => rfl
  | [c], p, n, hn, l, hl => by
    show [(p, (l.drop p).take (n - p))] = [(p, c)]
    rw [hl]
    have e : n - p = c.length := by
      rw [hn, List.flatten_cons, List.flatten_nil, List.append_nil]; omega
    rw [e, List.flatten_cons, List.take_left]
  | c :: d :: r, p, n, hn, l, hl => by
    have ih := zip_ends (d :: r) (p + c.length) n (by rw [hn, List.flatten_cons, List.length_append, Nat.add_assoc]) l (by
      rw [← List.drop_drop, hl, List.flatten_cons, List.drop_left])
    show (p, (l.drop p).take ((p + c.length) - p)) :: _ = (p, c) :: pairsOf (p + c.length) (d :: r)
    rw [hl, Nat.add_sub_cancel_left, List.flatten_cons, List.take_left]
    exact congrArg ((p, c) :: ·) ih
theorem chunks_of {before : List Nat} {cs : List (List Nat)} (hb : Bl before) (hc : Cks cs) : chunksOf (before ++ cs.flatten) = pairsOf before.length cs := by
  have e : stA 0 true (before ++ cs.flatten) = (pairsOf before.length cs).map (·.1) := by
    rw [stA_app, hb.1, hb.2, Nat.zero_add]
    exact stA_chunks cs _ hc
  unfold chunksOf endsOf
  rw [e]
  exact zip_ends cs before.length _ (by rw [List.length_append]) _ (by rw [List.drop_left])

theorem beqS (a b : List Nat) : (S a == S b) = decide (a = b) := by
  by_cases h : a = b
  · rw [h]; simp
  · rw [decide_eq_false h]; exact beq_eq_false_iff_ne.mpr fun q => h (S_inj q)
theorem inV_sp (c : Nat) : inV (.str (S [c])) [.str (Str.ofString " "), .str (Str.ofString "\n")] = blank c := by
  show ((S [32] == S [c]) || ((S [10] == S [c]) || false)) = (c == 32 || c == 10)
  rw [beqS, beqS, Bool.or_false]
  by_cases h : c = 32
  · subst h; decide
  · by_cases h2 : c = 10
    · subst h2; decide
    · have e1 : (c == 32) = false := beq_eq_false_iff_ne.mpr h
      have e2 : (c == 10) = false := beq_eq_false_iff_ne.mpr h2
      rw [e1, e2, decide_eq_false (by simp; omega), decide_eq_false (by simp; omega)]
theorem S_sp : Str.ofString " " = S [32] := rfl
theorem S_nl : Str.ofString "\n" = S [10] := rfl
theorem S_em : Str.ofString "" = S [] := rfl
theorem lastNl_take {l : List Nat} {i : Nat} (h0 : 0 < i) (hi : i - 1 < l.length) : lastNl true (l.take i) = decide ([l[i - 1]] = [10]) := by
  have e : l.take i = l.take (i - 1) ++ [l[i - 1]] := by
    have := List.take_append_getElem hi
    rw [this, show i - 1 + 1 = i by omega]
  rw [e, lastNl_app]
  show (l[i - 1] == 10) = _
  by_cases h : l[i - 1] = 10
  · rw [h]; rfl
  · rw [beq_eq_false_iff_ne.mpr h, decide_eq_false (by simp; exact h)]
theorem stA_len : ∀ (p : Nat) (nl : Bool) (l : List Nat), (stA p nl l).length ≤ l.length
  | _, _, [] => Nat.le_refl _
  | p, nl, c :: l => by
    show ((if nl && !blank c then [p] else []) ++ stA (p + 1) (c == 10) l).length ≤ _
    have h := stA_len (p + 1) (c == 10) l
    rw [List.length_append, List.length_cons]
    have h2 : (if nl && !blank c then [p] else []).length ≤ 1 := by split <;> simp
    omega
theorem endsOf_len (l : List Nat) : (endsOf l).length = (stA 0 true l).length - 1 + 1 := by
  unfold endsOf
  rw [List.length_append, List.length_drop]
  rfl
theorem chunksOf_get {l : List Nat} {i a b : Nat} (h1 : (stA 0 true l)[i]? = some a) (h2 : (endsOf l)[i]? = some b) : (chunksOf l)[i]? = some (a, (l.drop a).take (b - a)) := by
  unfold chunksOf
  rw [List.getElem?_map, List.getElem?_zip_eq_some (z := (a, b)) |>.mpr ⟨h1, h2⟩]
  rfl
theorem chunksOf_len (l : List Nat) : (chunksOf l).length ≤ (stA 0 true l).length := by
  unfold chunksOf
  rw [List.length_map, List.length_zip]
  exact Nat.min_le_left ..


def sp_line_starts (K : PySem.W.Frag) : Sp := fun vs H Q _ => ∃ l : List Nat, vs = [.str (S l)] ∧ l.length ≤ 10000000 ∧ ∀ (p : Addr) (H' : Hp), Same H H' → H p = none → H' p = some (.lst ((stA 0 true l).map fun n => V.int ((n : Nat) : Int))) → Q (.ref p) H'

theorem ok_line_starts (T : Txt K mg) : FnOk P w K mg base CX0 1 T.a_line_starts T.d_line_starts P_line_starts (sp_line_starts K) := by
  refine T.F_line_starts.ok sc_line_starts (fun vs H Q E h => ?_) (fun cdv A outer s H vs Q E hr h => ?_)
  · obtain ⟨l, rfl, _⟩ := h
    rfl
  · obtain ⟨l, rfl, hz, q⟩ := h
    refine ⟨_, (pss_cons (ps_set (i := 1) sc_line_starts.nd rfl (Or.inl rfl) (pe_lst pa_nil))
        (pss_cons (ps_for PassesOwn.never rfl (pi_range1 (by rfl) T.z_range (pa_cons (pe_callB call_lenU (by rfl) T.z_len PySem.boot_len (pa_cons (pv 0) pa_nil)) pa_nil)) (pg_name (i := 2) sc_line_starts.nd rfl (Or.inl rfl))
          (pss_one (ps_if (PW.pt (pw_and (pt_cmpR (op_notInU (hu65 hr)) (pe_ix ix_seq (pv 0) (pv 2) (fun _ _ => rfl)) (pe_tup (pa_cons pe_str (pa_cons pe_str pa_nil))) (by rfl)) (pw_and1 (PW.pt (pw_or (pt_cmpR (op_eqU (hu64 hr)) (pv 2) pe_int (nomark _)) (pw_or1 (pt_cmpR (op_eqU (hu64 hr)) (pe_ix ix_seq (pv 0) (pe_op op_sub (pv 2) pe_int) (fun _ _ => rfl)) pe_str (nomark _))))))))
          (pss_one (ps_expr (pe_bm PySem.F.plainAttrs_list PySem.F.slot_list_append PySem.F.type_list_append mt_append (pv 1) (pa_cons (pv 2) pa_nil))))
          pss_nil)))
        (pss_one (ps_ret (pv 1))))), ?_⟩
    walk_at "z"
    refine g_new (Nat.zero_le _) (Own.start H) fun p H1 np O => ?_
    walk_at "z"
    refine g_lenSS (by omega) ?_
    walk_at "z"
    refine forB_rng0 (fun i σ H' => ∃ x2, σ = [some (.str (S l)), some (.ref p), x2] ∧ Own H [(p, .lst ((stA 0 true (l.take i)).map fun n => V.int ((n : Nat) : Int)))] H') ?_ ?_ ?_
    · exact ⟨none, rfl, O⟩
    · rintro i σ H2 hi ⟨x2, rfl, O⟩
      have hi : i < l.length := by omega
      walk_at "z"
      refine g_ixSS (by omega) (by omega) (show l[((i : Int)).toNat]? = some l[i] from List.getElem?_eq_getElem hi) ?_
      walk_at "z"
      refine g_new (small_le (by simp)) O fun t H3 nt O => ?_
      refine g_notInT (O.tup 0) rfl rfl ?_
      rw [inV_sp]
      walk_at "z"
      have e := stA_snoc 0 true (l.take i) l[i]
      rw [List.take_append_getElem hi, List.length_take, Nat.min_eq_left (by omega), Nat.zero_add] at e
      have no : (lastNl true (l.take i) && !blank l[i]) = false → ∃ x2', [some (V.str (S l)), some (V.ref p), some (V.int (i : Int))] = [some (V.str (S l)), some (V.ref p), x2'] ∧ Own H [(p, .lst ((stA 0 true (l.take (i + 1))).map fun n => V.int ((n : Nat) : Int)))] H3 := fun h => by
        rw [h] at e
        rw [e]
        exact ⟨_, rfl, by simpa using O.tail⟩
      have hl := stA_len 0 true (l.take i)
      rw [List.length_take] at hl
      have yes : (lastNl true (l.take i) && !blank l[i]) = true → ∀ H4, Own H [(t, .tup [V.str (Str.ofString " "), V.str (Str.ofString "\n")]), (p, .lst ((stA 0 true (l.take i)).map (fun n => V.int ((n : Nat) : Int)) ++ [V.int (i : Int)]))] H4 → ∃ x2', [some (V.str (S l)), some (V.ref p), some (V.int (i : Int))] = [some (V.str (S l)), some (V.ref p), x2'] ∧ Own H [(p, .lst ((stA 0 true (l.take (i + 1))).map fun n => V.int ((n : Nat) : Int)))] H4 := fun h H4 O => by
        rw [h] at e
        rw [e, if_pos rfl, List.map_append]
        exact ⟨_, rfl, O.tail⟩
      cases hb : blank l[i] with
      | true =>
        rw [hb] at no
        refine iteF ?_
        exact no (by simp)
      | false =>
        rw [hb] at no yes
        refine iteT ?_
        walk_at "z"
        refine ite_d (fun h0 => ?_) (fun h0 => ?_)
        · obtain rfl : i = 0 := by omega
          refine iteT ?_
          walk_at "z"
          refine g_tyL (O.lst 1) ?_
          walk_at "z"
          refine g_append O 1 rfl (small_of (by rw [List.length_map]; omega)) fun H4 O => ?_
          exact yes rfl H4 O
        · walk_at "z"
          refine g_ixSS (i := (i : Int) - 1) (c := l[i - 1]) (by omega) (by omega) (by rw [show ((i : Int) - 1).toNat = i - 1 by omega]; exact List.getElem?_eq_getElem (by omega)) ?_
          walk_at "z"
          rw [S_nl]
          refine g_eqSS ?_
          rw [lastNl_take (by omega) (by omega)] at no yes
          walk_at "z"
          refine ite_d (fun h1 => ?_) (fun h1 => ?_)
          · walk_at "z"
            refine g_tyL (O.lst 1) ?_
            walk_at "z"
            refine g_append O 1 rfl (small_of (by rw [List.length_map]; omega)) fun H4 O => ?_
            exact yes (by rw [decide_eq_true h1]; rfl) H4 O
          · exact no (by rw [decide_eq_false h1]; rfl)
    · rintro σ H2 ⟨x2, rfl, O⟩
      walk_at "z"
      rw [List.take_of_length_le (by omega)] at O
      exact q p H2 O.fr np (O.get 0)
def encP (q : Nat × List Nat) : PyData := .tuple [.int ((q.1 : Nat) : Int), .str (S q.2)]
def sp_chunks (K : PySem.W.Frag) : Sp := fun vs H Q _ => ∃ l : List Nat, vs = [.str (S l)] ∧ l.length ≤ 10000000 ∧ ∀ (p : Addr) (B' H' : Hp) (ws : List V), Same H B' → Own B' [(p, .lst ws)] H' → TdAll B' ws ((chunksOf l).map encP) → Q (.ref p) H'

theorem ok_chunks (T : Txt K mg) : FnOk P w K mg base CX0 2 T.a_chunks T.d_chunks P_chunks (sp_chunks K) := by
  refine T.F_chunks.ok sc_chunks (fun vs H Q E h => ?_) (fun cdv A outer s H vs Q E hr h => ?_)
  · obtain ⟨l, rfl, _⟩ := h
    rfl
  · obtain ⟨l, rfl, hz, q⟩ := h
    refine ⟨_, (pss_cons (ps_set (i := 1) sc_chunks.nd rfl (Or.inl rfl) (pe_call (ok_line_starts T) (hr.mono (by omega)) (by rfl) T.g_line_starts T.F_line_starts.kp T.b_line_starts .nil pass0 (pa_cons (pv 0) pa_nil)))
        (pss_cons (ps_set (i := 2) sc_chunks.nd rfl (Or.inl rfl) (pe_op op_addU (pe_slice sl_U (pv 1) (po_some pe_int) po_none) (pe_lst (pa_cons (pe_callB call_lenU (by rfl) T.z_len PySem.boot_len (pa_cons (pv 0) pa_nil)) pa_nil))))
        (pss_one (ps_ret (pe_lc (own := [("start", 3), ("end", 4)]) rfl sc_chunks.nd (pi_zip (by rfl) T.z_zip (pa_cons (pv 1) (pa_cons (pv 2) pa_nil))) (blkOk_by (own := [("start", 3), ("end", 4)]) (N := N_chunks) (sc := defScope s_chunks) (by decide +kernel)) (fun _ _ _ _ _ => (show PG _ _ (gTup K 2 _) from pg_tup rfl (pgs_cons (pg_name (i := 3) sc_chunks.nd rfl (Or.inl rfl)) (pgs_cons (pg_name (i := 4) sc_chunks.nd rfl (Or.inl rfl)) pgs_nil)))) (fun _ _ _ _ _ => pts_nil) (fun _ _ _ _ _ => (pe_tup (pa_cons (pv 3) (pa_cons (pe_slice (show SlR _ (rSlU K) from sl_U) (pv 0) (po_some (pv 3)) (po_some (pv 4))) pa_nil))))))))), ?_⟩
    walk_at "z"
    refine ⟨l, rfl, hz, fun p H1 e1 np hp => ?_⟩
    have O := (Own.start H).new e1 np hp
    walk_at "z"
    have e2 := O.freezeB
    have hp2 : upd H p (.lst ((stA 0 true l).map fun n => V.int ((n : Nat) : Int))) p = some (.lst ((stA 0 true l).map fun n => V.int ((n : Nat) : Int))) := upd_same
    have O := O.freeze
    generalize upd H p (.lst ((stA 0 true l).map fun n => V.int ((n : Nat) : Int))) = B at O e2 hp2
    refine g_slL (.inl (.inl (O.fr _ _ hp2))) (g_newQ O fun q1 H2 nq1 O => ?_)
    rw [cut_drop (by decide)] at O
    walk_at "z"
    refine g_lenSS (by omega) ?_
    walk_at "z"
    refine g_new (small_le (by simp)) O fun q2 H3 nq2 O => ?_
    have hsl := stA_len 0 true l
    refine g_addL (O.get 1) (O.get 0) (by rw [List.length_drop, List.length_map]; exact small_le (by show _ + 1 ≤ _; omega)) (g_newQ O fun en H4 nen O => ?_)
    have he : (List.drop (Int.toNat 1) ((stA 0 true l).map fun n => V.int ((n : Nat) : Int)) ++ [V.int ((l.length : Nat) : Int)]) = (endsOf l).map fun n => V.int ((n : Nat) : Int) := by
      unfold endsOf
      rw [List.map_append, List.map_drop]
      rfl
    rw [he] at O
    have O := O.sub (((List.Sublist.refl [] |>.cons _).cons _).cons_cons _)
    have e3 := O.freezeB
    have hen : upd B en (.lst ((endsOf l).map fun n => V.int ((n : Nat) : Int))) en = some (.lst ((endsOf l).map fun n => V.int ((n : Nat) : Int))) := upd_same
    have O := O.freeze
    have hp2 := e3 _ _ hp2
    have e2 := e2.trans e3
    generalize upd B en (.lst ((endsOf l).map fun n => V.int ((n : Nat) : Int))) = B at O e2 hp2 hen
    walk_at "z"
    refine ⟨p, en, _, _, rfl, .inl (.inl (O.fr _ _ hp2)), .inl (.inl (O.fr _ _ hen)), ?_⟩
    have hle := endsOf_len l
    refine lcB_zip ((stA 0 true l).map fun n => V.int ((n : Nat) : Int)) ((endsOf l).map fun n => V.int ((n : Nat) : Int)) (by rw [List.length_map, List.length_map, hle]; omega) (fun D i H' => ∃ (B' : Hp) (ws : List V), Same B B' ∧ Own B' [(D, .lst ws)] H' ∧ TdAll B' ws (((chunksOf l).take i).map encP)) ?_ ?_ ?_ ?_
    · intro D nD
      exact ⟨B, [], Same.refl _, O.alloc nD, .nil⟩
    · rintro D i H' ⟨B', ws, eB, O, hT⟩
      exact ⟨.inl (.inl (O.fr _ _ (eB _ _ hp2))), .inl (.inl (O.fr _ _ (eB _ _ hen)))⟩
    · rintro D i x y t H' hx hy nt ⟨B', ws, eB, O, hT⟩
      have O := O.alloc (o := .tup [x, y]) nt
      rw [List.getElem?_map] at hx hy
      obtain ⟨a, ha, rfl⟩ := Option.map_eq_some_iff.mp hx
      obtain ⟨b, hb, rfl⟩ := Option.map_eq_some_iff.mp hy
      have hc := chunksOf_get ha hb
      have hi := (List.getElem?_eq_some_iff.mp ha).1
      refine g_gtup (O.tup 0) rfl ?_
      walk_at "z"
      refine iteT ?_
      walk_at "z"
      refine g_slS (z := S l) (by rw [S_len]; exact small_le (by omega)) ?_
      rw [cutS_SS]
      walk_at "z"
      refine g_new (small_le (by simp)) O.tail fun t2 H5 nt2 O => ?_
      have hwl := tds_len hT
      rw [List.length_map, List.length_take] at hwl
      refine g_lcPut (acc := ws) O 1 rfl (small_of (by omega)) fun H6 O => ?_
      have e4 := O.freezeB
      refine ⟨_, _, eB.trans e4, O.freeze, ?_⟩
      rw [show (chunksOf l).take (i + 1) = (chunksOf l).take i ++ [(a, (l.drop a).take (b - a))] by
        rw [List.take_add_one, hc]
        rfl, List.map_append]
      exact tds_snoc (tds_ex e4 hT) (.tup upd_same (.cons (.int _) (.cons (.str _) .nil)))
    · rintro D H' nD ⟨B', ws, eB, O, hT⟩
      rw [List.length_map, List.take_of_length_le (chunksOf_len l)] at hT
      exact q D B' H' ws (e2.trans eB) O hT

def tabA : List Nat := [32, 39, 33, 34, 35, 36, 38, 40, 41, 42, 43, 44, 45, 46, 47, 48, 49, 50, 51, 52, 53, 54, 55, 56, 57, 58, 59, 60, 61, 62, 63, 64, 65, 66, 67, 68, 69, 70, 71, 72, 73, 74, 75, 76, 77, 78, 79, 80, 81, 82, 83, 84, 85, 86, 87, 88, 89, 90, 91, 92, 93, 94, 95, 96]
def tabB : List Nat := [97, 98, 99, 100, 101, 102, 103, 104, 105, 106, 107, 108, 109, 110, 111, 112, 113, 114, 115, 116, 117, 118, 119, 120, 121, 122, 123, 124, 125, 126, 10]
theorem tab_ok : ∀ i : Nat, i < 95 → ∃ c, (tabA ++ tabB)[i]? = some c ∧ (i ≠ 94 → c ≠ 10) ∧ (i ≠ 0 → c ≠ 32) := by
  intro i hi
  have h : ∀ i : Fin 95, ((tabA ++ tabB)[i.val]?.all fun c => (i.val == 94 || c != 10) && (i.val == 0 || c != 32)) = true := by decide +kernel
  have h2 := h ⟨i, hi⟩
  have hl : i < (tabA ++ tabB).length := hi
  rw [List.getElem?_eq_getElem hl] at h2 ⊢
  simp only [Option.all_some, Bool.and_eq_true, Bool.or_eq_true, beq_iff_eq, bne_iff_ne] at h2
  exact ⟨_, rfl, fun n => h2.1.resolve_left n, fun n => h2.2.resolve_left n⟩

def sp__law_char (K : PySem.W.Frag) : Sp := fun vs H Q _ => ∃ i : Int, vs = [.int i] ∧ 0 ≤ i ∧ i < 94 ∧ ∀ c, c ≠ 10 → (i ≠ 0 → c ≠ 32) → Q (.str (S [c])) H

theorem ok__law_char (T : Txt K mg) : FnOk P w K mg base CX0 1 T.a__law_char T.d__law_char P__law_char (sp__law_char K) := by
  refine T.F__law_char.ok sc__law_char (fun vs H Q E h => ?_) (fun cdv A outer s H vs Q E hr h => ?_)
  · obtain ⟨i, rfl, _⟩ := h
    rfl
  · obtain ⟨i, rfl, h0, h1, q⟩ := h
    refine ⟨_, (pss_cons (ps_set (i := 1) sc__law_char.nd rfl (Or.inl rfl) pe_str)
        (pss_cons (ps_set (i := 1) sc__law_char.nd rfl (Or.inl rfl) (pe_op op_addU (pv 1) pe_str))
        (pss_one (ps_ret (pe_ix ix_seq (pv 1) (pe_op op_mod (pe_callTy call_intU (by rfl) T.z_int (by decide +kernel) (pa_cons (pv 0) pa_nil)) pe_int) (fun _ _ => rfl)))))), ?_⟩
    walk_at "z"
    refine g_addS (z := S tabA) (w := S tabB) (by rw [S_len, S_len]; exact small_le (by decide)) ?_
    rw [S_app]
    walk_at "z"
    obtain ⟨c, hc, n1, n2⟩ := tab_ok (i % 95).toNat (by omega)
    refine g_ixSS (a := tabA ++ tabB) (c := c) (by decide) (by omega) hc ?_
    exact q c (n1 (by omega)) fun n => n2 (by omega)
def stv (sl : Addr) (pos big seed : Int) : HO := .lst [.ref sl, .int pos, .int big, .int seed]
def sp__law_line (K : PySem.W.Frag) : Sp := fun vs H Q _ => ∃ (B : Hp) (s sl : Addr) (pos big seed : Int) (ns : List Int) (cs : List (Addr × HO)), vs = [.ref s] ∧ Own B ((s, stv sl pos big seed) :: cs) H ∧ 0 ≤ pos ∧ B sl = some (.lst (ns.map V.int)) ∧
  ∀ (l : List Nat) (pos big seed : Int) H', Own B ((s, stv sl pos big seed) :: cs) H' → 0 ≤ pos → 10 ∉ l → l.length ≤ 89 → Q (.str (S l)) H'

theorem ok__law_line (T : Txt K mg) : FnOk P w K mg base CX0 2 T.a__law_line T.d__law_line P__law_line (sp__law_line K) := by
  refine T.F__law_line.ok sc__law_line (fun vs H Q E h => ?_) (fun cdv A outer s H vs Q E hr h => ?_)
  · obtain ⟨B, s, sl, pos, big, seed, ns, cs, rfl, _⟩ := h
    rfl
  · obtain ⟨B, s, sl, pos, big, seed, ns, cs, rfl, O, hp, hB, q⟩ := h
    refine ⟨_, (pss_cons (ps_set (i := 1) sc__law_line.nd rfl (Or.inl rfl) pe_str)
        (pss_cons (ps_for PassesOwn.never rfl (pi_range1 (by rfl) T.z_range (pa_cons (pe_call (ok__law_next T) (hr.mono (by omega)) (by rfl) T.g__law_next T.F__law_next.kp T.b__law_next .nil pass0 (pa_cons (pv 0) (pa_cons (pe_ix ix_seq (pe_lst (pa_cons pe_int (pa_cons pe_int (pa_cons pe_int (pa_cons pe_int pa_nil))))) (pe_call (ok__law_next T) (hr.mono (by omega)) (by rfl) T.g__law_next T.F__law_next.kp T.b__law_next .nil pass0 (pa_cons (pv 0) (pa_cons pe_int pa_nil))) (fun _ _ => rfl)) pa_nil))) pa_nil)) (pg_name (i := 2) sc__law_line.nd rfl (Or.inl rfl))
          (pss_one (ps_set (i := 1) sc__law_line.nd rfl (Or.inl rfl) (pe_op op_addU (pv 1) (pe_call (ok__law_char T) (hr.mono (by omega)) (by rfl) T.g__law_char T.F__law_char.kp T.b__law_char .nil pass0 (pa_cons (pe_call (ok__law_next T) (hr.mono (by omega)) (by rfl) T.g__law_next T.F__law_next.kp T.b__law_next .nil pass0 (pa_cons (pv 0) (pa_cons pe_int pa_nil))) pa_nil))))))
        (pss_one (ps_ret (pv 1))))), ?_⟩
    walk_at "z"
    refine g_new (small_le (by simp)) O fun t H1 nt O => ?_
    have O := O.swap
    walk_at "z"
    refine nxt O 0 rfl hp hB (by decide) (by decide) fun n pos big seed H2 h0 h1 hp O => ?_
    walk_at "z"
    have h9 : ∃ m : Int, 0 < m ∧ m ≤ 90 ∧ atI ([.int 9, .int 9, .int 9, .int 90] : List V) n = some (.int m) := by
      have : n = 0 ∨ n = 1 ∨ n = 2 ∨ n = 3 := by omega
      rcases this with rfl | rfl | rfl | rfl
      · exact ⟨9, by decide, by decide, rfl⟩
      · exact ⟨9, by decide, by decide, rfl⟩
      · exact ⟨9, by decide, by decide, rfl⟩
      · exact ⟨90, by decide, by decide, rfl⟩
    obtain ⟨m, m0, m1, hm⟩ := h9
    refine g_ixL (O.lst 1) hm ?_
    walk_at "z"
    refine nxt O 0 rfl hp hB m0 (by omega) fun n2 pos big seed H3 k0 k1 hp O => ?_
    have O := O.swap.tail
    walk_at "z"
    refine forB_rng0 (fun i σ H' => ∃ (l : List Nat) (pos big seed : Int) (x2 : Option V), σ = [some (.ref s), some (.str (S l)), x2] ∧ Own B ((s, stv sl pos big seed) :: cs) H' ∧ 0 ≤ pos ∧ 10 ∉ l ∧ l.length = i) ?_ ?_ ?_
    · exact ⟨[], _, _, _, _, rfl, O, hp, (fun h => nomatch h), rfl⟩
    · rintro i σ H4 hi ⟨l, pos, big, seed, x2, rfl, O, hp, hl, hz⟩
      walk_at "z"
      refine nxt O 0 rfl hp hB (by decide) (by decide) fun n pos big seed H2 h0 h1 hp O => ?_
      walk_at "z"
      refine ⟨n, rfl, h0, h1, fun c c1 c2 => ?_⟩
      refine g_addSS (by show _ + 1 ≤ _; omega) ?_
      walk_at "z"
      refine ⟨l ++ [c], _, _, _, _, rfl, O, hp, ?_, by rw [List.length_append, hz]; rfl⟩
      intro h
      rcases List.mem_append.mp h with h | h
      · exact hl h
      · exact c1 (List.mem_singleton.mp h).symm
    · rintro σ H4 ⟨l, pos, big, seed, x2, rfl, O, hp, hl, hz⟩
      walk_at "z"
      exact q l _ _ _ _ O hp hl (by omega)
def sp__law_lines (K : PySem.W.Frag) : Sp := fun vs H Q _ => ∃ (B : Hp) (s sl : Addr) (pos big seed n : Int) (ns : List Int) (cs : List (Addr × HO)), vs = [.ref s, .int n] ∧ Own B ((s, stv sl pos big seed) :: cs) H ∧ 0 ≤ pos ∧ 0 ≤ n ∧ n < 100 ∧ B sl = some (.lst (ns.map V.int)) ∧
  ∀ (l : List Nat) (pos big seed : Int) H', Own B ((s, stv sl pos big seed) :: cs) H' → 0 ≤ pos → Bl l → (l.length : Int) ≤ 91 * n → Q (.str (S l)) H'

theorem ok__law_lines (T : Txt K mg) : FnOk P w K mg base CX0 3 T.a__law_lines T.d__law_lines P__law_lines (sp__law_lines K) := by
  refine T.F__law_lines.ok sc__law_lines (fun vs H Q E h => ?_) (fun cdv A outer s H vs Q E hr h => ?_)
  · obtain ⟨B, s, sl, pos, big, seed, n, ns, cs, rfl, _⟩ := h
    rfl
  · obtain ⟨B, s, sl, pos, big, seed, n, ns, cs, rfl, O, hp, hn0, hn1, hB, q⟩ := h
    refine ⟨_, (pss_cons (ps_set (i := 2) sc__law_lines.nd rfl (Or.inl rfl) pe_str)
        (pss_cons (ps_for PassesOwn.never rfl (pi_range1 (by rfl) T.z_range (pa_cons (pv 1) pa_nil)) (pg_name (i := 3) sc__law_lines.nd rfl (Or.inl rfl))
          (pss_cons (ps_if (pt_cmpR op_gt (pe_call (ok__law_next T) (hr.mono (by omega)) (by rfl) T.g__law_next T.F__law_next.kp T.b__law_next .nil pass0 (pa_cons (pv 0) (pa_cons pe_int pa_nil))) pe_int (nomark _))
          (pss_one (ps_set (i := 2) sc__law_lines.nd rfl (Or.inl rfl) (pe_op op_addU (pe_op op_addU (pv 2) pe_str) (pe_call (ok__law_line T) (hr.mono (by omega)) (by rfl) T.g__law_line T.F__law_line.kp T.b__law_line .nil pass0 (pa_cons (pv 0) pa_nil)))))
          pss_nil)
        (pss_one (ps_set (i := 2) sc__law_lines.nd rfl (Or.inl rfl) (pe_op op_addU (pv 2) pe_str)))))
        (pss_one (ps_ret (pv 2))))), ?_⟩
    walk_at "z"
    refine forB_rng0 (fun i σ H' => ∃ (l : List Nat) (pos big seed : Int) (x2 : Option V), σ = [some (.ref s), some (.int n), some (.str (S l)), x2] ∧ Own B ((s, stv sl pos big seed) :: cs) H' ∧ 0 ≤ pos ∧ Bl l ∧ l.length ≤ 91 * i) ?_ ?_ ?_
    · exact ⟨[], _, _, _, _, rfl, O, hp, Bl.nil, Nat.le_refl _⟩
    · rintro i σ H4 hi ⟨l, pos, big, seed, x2, rfl, O, hp, hl, hz⟩
      walk_at "z"
      refine nxt O 0 rfl hp hB (by decide) (by decide) fun n2 pos big seed H2 h0 h1 hp O => ?_
      walk_at "z"
      refine ite_d (fun _ => ?_) (fun _ => ?_)
      · walk_at "z"
        rw [S_sp]
        refine g_addSS (by show _ + 1 ≤ _; omega) ?_
        walk_at "z"
        refine ⟨B, s, sl, pos, big, seed, ns, cs, rfl, O, hp, hB, fun l2 pos big seed H5 O hp hl2 hz2 => ?_⟩
        have hz3 : (l ++ [32]).length = l.length + 1 := by rw [List.length_append]; rfl
        refine g_addSS (by omega) ?_
        walk_at "z"
        rw [S_nl]
        refine g_addSS (by rw [List.length_append]; show _ + 1 ≤ _; omega) ?_
        walk_at "z"
        refine ⟨_, _, _, _, _, rfl, O, hp, ?_, ?_⟩
        · have e : l ++ [32] ++ l2 ++ [10] = l ++ (32 :: l2 ++ [10]) := by simp
          rw [e]
          exact hl.app (Bl.line hl2)
        · rw [List.length_append, List.length_append, hz3]
          show _ + 1 ≤ _
          omega
      · walk_at "z"
        rw [S_nl]
        refine g_addSS (by show _ + 1 ≤ _; omega) ?_
        walk_at "z"
        refine ⟨_, _, _, _, _, rfl, O, hp, hl.app Bl.nl, ?_⟩
        rw [List.length_append]
        show _ + 1 ≤ _
        omega
    · rintro σ H4 ⟨l, pos, big, seed, x2, rfl, O, hp, hl, hz⟩
      walk_at "z"
      exact q l _ _ _ _ O hp hl (by omega)

theorem dl_pairs (cs : List (Nat × List Nat)) (h : cs.length ≤ 16777216) : Dl 12 (.list (cs.map encP)) := .lst (by rw [List.length_map]; exact h) (fun d hd => by
  obtain ⟨i, _, rfl⟩ := List.mem_map.mp hd
  refine .tup (by simp) fun d hd => ?_
  rcases List.mem_cons.mp hd with rfl | hd
  · exact .int
  · rcases List.mem_cons.mp hd with rfl | hd
    · exact .str
    · exact nomatch hd)
theorem td_encP {H : Hp} {v : V} {q : Nat × List Nat} (h : Td H v (encP q)) : ∃ a, v = .ref a ∧ H a = some (.tup [.int ((q.1 : Nat) : Int), .str (S q.2)]) := by
  obtain ⟨p, l⟩ := q
  cases h with
  | tup h1 h2 =>
    cases h2 with
    | cons x h2 =>
      cases h2 with
      | cons y h2 =>
        cases h2
        cases x
        cases y
        exact ⟨_, rfl, h1⟩

def sp_law (K : PySem.W.Frag) : Sp := fun vs H Q _ => ∃ (a : Addr) (ns : List Int), vs = [.ref a] ∧ SqL K H a (ns.map V.int) ∧ ns.length ≤ 63 ∧ ∀ H', Q (.bl true) H'

theorem ok_law (T : Txt K mg) : FnOk P w K mg base CX0 15 T.a_law T.d_law P_law (sp_law K) := by
  refine T.F_law.ok sc_law (fun vs H Q E h => ?_) (fun cdv A outer s H vs Q E hr h => ?_)
  · obtain ⟨a, ns, rfl, _⟩ := h
    rfl
  · obtain ⟨a0, ns, rfl, hS, hlen, q⟩ := h
    refine ⟨_, (pss_cons (ps_set (i := 1) sc_law.nd rfl (Or.inl rfl) (pe_lst (pa_cons (pe_callTy call_listU (by rfl) T.z_list (by decide +kernel) (pa_cons (pv 0) pa_nil)) (pa_cons pe_int (pa_cons pe_int (pa_cons pe_int pa_nil))))))
        (pss_cons (ps_set (i := 2) sc_law.nd rfl (Or.inl rfl) (pe_call (ok__law_lines T) (hr.mono (by omega)) (by rfl) T.g__law_lines T.F__law_lines.kp T.b__law_lines .nil pass0 (pa_cons (pv 1) (pa_cons (pe_call (ok__law_next T) (hr.mono (by omega)) (by rfl) T.g__law_next T.F__law_next.kp T.b__law_next .nil pass0 (pa_cons (pv 1) (pa_cons pe_int pa_nil))) pa_nil))))
        (pss_cons (ps_set (i := 3) sc_law.nd rfl (Or.inl rfl) (pe_lst pa_nil))
        (pss_cons (ps_set (i := 4) sc_law.nd rfl (Or.inl rfl) (pv 2))
        (pss_cons (ps_set (i := 5) sc_law.nd rfl (Or.inl rfl) (pe_call (ok__law_next T) (hr.mono (by omega)) (by rfl) T.g__law_next T.F__law_next.kp T.b__law_next .nil pass0 (pa_cons (pv 1) (pa_cons pe_int pa_nil))))
        (Evl.pss_cut (ps_if (pt_cmpR (op_eqU (hu64 hr)) (pe_call (ok__law_next T) (hr.mono (by omega)) (by rfl) T.g__law_next T.F__law_next.kp T.b__law_next .nil pass0 (pa_cons (pv 1) (pa_cons pe_int pa_nil))) pe_int (nomark _))
          (pss_one (ps_set (i := 5) sc_law.nd rfl (Or.inl rfl) (pe_op op_addU pe_int (pe_call (ok__law_next T) (hr.mono (by omega)) (by rfl) T.g__law_next T.F__law_next.kp T.b__law_next .nil pass0 (pa_cons (pv 1) (pa_cons pe_int pa_nil))))))
          pss_nil)
        (pss_cons (ps_for PassesOwn.never rfl (pi_range1 (by rfl) T.z_range (pa_cons (pv 5) pa_nil)) (pg_name (i := 6) sc_law.nd rfl (Or.inl rfl))
          (pss_cons (ps_set (i := 7) sc_law.nd rfl (Or.inl rfl) (pe_op op_addU (pe_op op_addU (pe_op op_addU (pe_call (ok__law_char T) (hr.mono (by omega)) (by rfl) T.g__law_char T.F__law_char.kp T.b__law_char .nil pass0 (pa_cons (pe_op op_addU pe_int (pe_call (ok__law_next T) (hr.mono (by omega)) (by rfl) T.g__law_next T.F__law_next.kp T.b__law_next .nil pass0 (pa_cons (pv 1) (pa_cons pe_int pa_nil)))) pa_nil)) (pe_call (ok__law_line T) (hr.mono (by omega)) (by rfl) T.g__law_line T.F__law_line.kp T.b__law_line .nil pass0 (pa_cons (pv 1) pa_nil))) pe_str) (pe_call (ok__law_lines T) (hr.mono (by omega)) (by rfl) T.g__law_lines T.F__law_lines.kp T.b__law_lines .nil pass0 (pa_cons (pv 1) (pa_cons (pe_call (ok__law_next T) (hr.mono (by omega)) (by rfl) T.g__law_next T.F__law_next.kp T.b__law_next .nil pass0 (pa_cons (pv 1) (pa_cons (pe_ix ix_seq (pe_lst (pa_cons pe_int (pa_cons pe_int pa_nil))) (pe_call (ok__law_next T) (hr.mono (by omega)) (by rfl) T.g__law_next T.F__law_next.kp T.b__law_next .nil pass0 (pa_cons (pv 1) (pa_cons pe_int pa_nil))) (fun _ _ => rfl)) pa_nil))) pa_nil)))))
        (Evl.pss_cut (ps_if (PW.pt (pw_and (pt_cmpR (op_eqU (hu64 hr)) (pv 6) (pe_op op_sub (pv 5) pe_int) (nomark _)) (pw_and1 (pt_cmpR (op_eqU (hu64 hr)) (pe_call (ok__law_next T) (hr.mono (by omega)) (by rfl) T.g__law_next T.F__law_next.kp T.b__law_next .nil pass0 (pa_cons (pv 1) (pa_cons pe_int pa_nil))) pe_int (nomark _)))))
          (pss_one (ps_set (i := 7) sc_law.nd rfl (Or.inl rfl) (pe_slice sl_U (pv 7) po_none (po_some (pe_op op_sub (pe_callB call_lenU (by rfl) T.z_len PySem.boot_len (pa_cons (pv 7) pa_nil)) pe_int)))))
          pss_nil)
        (pss_cons (ps_expr (pe_bm PySem.F.plainAttrs_list PySem.F.slot_list_append PySem.F.type_list_append mt_append (pv 3) (pa_cons (pe_tup (pa_cons (pe_callB call_lenU (by rfl) T.z_len PySem.boot_len (pa_cons (pv 2) pa_nil)) (pa_cons (pv 7) pa_nil))) pa_nil)))
        (pss_one (ps_set (i := 2) sc_law.nd rfl (Or.inl rfl) (pe_op op_addU (pv 2) (pv 7))))))))
        (pss_cons (ps_set (i := 8) sc_law.nd rfl (Or.inl rfl) (pe_call (ok_chunks T) (hr.mono (by omega)) (by rfl) T.g_chunks T.F_chunks.kp T.b_chunks .nil pass0 (pa_cons (pv 2) pa_nil)))
        (pss_cons (ps_if (pt_not (pt_val (pe_call (ok__law_same T) (hr.mono (by omega)) (by rfl) T.g__law_same T.F__law_same.kp T.b__law_same .nil pass0 (pa_cons (pv 8) (pa_cons (pv 3) pa_nil)))))
          (pss_one (ps_ret pe_bl))
          pss_nil)
        (pss_one (ps_ret (pe_cmpR (op_eqU (hu64 hr)) (pe_op op_addU (pv 4) (pe_joinU pe_str (pe_lc (own := [("position", 9), ("chunk", 7)]) rfl sc_law.nd (pi_list (pv 8)) (blkOk_by (own := [("position", 9), ("chunk", 7)]) (N := N_law) (sc := defScope s_law) (by decide +kernel)) (fun _ _ _ _ _ => (show PG _ _ (gTup K 2 _) from pg_tup rfl (pgs_cons (pg_name (i := 9) sc_law.nd rfl (Or.inl rfl)) (pgs_cons (pg_name (i := 7) sc_law.nd rfl (Or.inl rfl)) pgs_nil)))) (fun _ _ _ _ _ => pts_nil) (fun _ _ _ _ _ => (pv 7))))) (pv 2) (nomark _))))))))))))), ?_⟩
    walk_at "z"
    refine g_listL hS (g_newQ (Own.start H) fun d H1 nd O => ?_)
    have hd : upd H d (.lst (ns.map V.int)) d = some (.lst (ns.map V.int)) := upd_same
    have O := O.freeze
    generalize upd H d (.lst (ns.map V.int)) = B at O hd
    walk_at "z"
    refine g_new (small_le (by simp)) O fun s H2 ns2 O => ?_
    walk_at "z"
    refine nxt O 0 rfl (by decide) hd (by decide) (by decide) fun n pos big seed H3 h0 h1 hp O => ?_
    walk_at "z"
    refine ⟨B, s, d, pos, big, seed, n, ns, [], rfl, O, hp, h0, by omega, hd, fun l0 pos big seed H4 O hp hl0 hz0 => ?_⟩
    walk_at "z"
    refine g_new (Nat.zero_le _) O fun e H5 ne O => ?_
    have O := O.swap
    walk_at "z"
    refine nxt O 0 rfl hp hd (by decide) (by decide) fun c0 pos big seed H6 c00 c01 hp O => ?_
    walk_at "z"
    refine ⟨fun σ H' => ∃ (count pos big seed : Int), σ = [some (.ref a0), some (.ref s), some (.str (S l0)), some (.ref e), some (.str (S l0)), some (.int count), none, none, none, none] ∧ 0 ≤ count ∧ count ≤ 149 ∧ 0 ≤ pos ∧ Own B [(s, stv d pos big seed), (e, .lst [])] H', ?_, ?_⟩
    · walk_at "z"
      refine nxt O 0 rfl hp hd (by decide) (by decide) fun n pos big seed H6 _ _ hp O => ?_
      walk_at "z"
      refine ite_d (fun _ => ?_) (fun _ => ?_)
      · walk_at "z"
        refine nxt O 0 rfl hp hd (by decide) (by decide) fun n pos big seed H6 _ _ hp O => ?_
        walk_at "z"
        exact ⟨_, _, _, _, rfl, by omega, by omega, hp, O⟩
      · walk_at "z"
        exact ⟨_, _, _, _, rfl, by omega, by omega, hp, O⟩
    clear O hp
    rintro σ H6 ⟨count, pos, big, seed, rfl, k0, k1, hp, O⟩
    walk_at "z"
    refine forB_rng0 (fun i σ H' => ∃ (B' : Hp) (cs : List (List Nat)) (ws : List V) (pos big seed : Int) (x6 x7 : Option V), σ = [some (.ref a0), some (.ref s), some (.str (S (l0 ++ cs.flatten))), some (.ref e), some (.str (S l0)), some (.int count), x6, x7, none, none] ∧ 0 ≤ pos ∧ Same B B' ∧ Own B' [(s, stv d pos big seed), (e, .lst ws)] H' ∧ TdAll B' ws ((pairsOf l0.length cs).map encP) ∧ cs.length = i ∧ ((i : Int) < count → ∀ c ∈ cs, CkN c) ∧ Cks cs ∧ cs.flatten.length ≤ 1000 * i) ?_ ?_ ?_
    · exact ⟨B, [], [], pos, big, seed, none, none, by rw [List.flatten_nil, List.append_nil], hp, Same.refl _, O, .nil, rfl, (fun _ _ h => nomatch h), trivial, Nat.zero_le _⟩
    · clear O hp
      rintro i σ H7 hi ⟨B', cs, ws, pos, big, seed, x6, x7, rfl, hp, eB, O, hT, hl, hN, hC, hz⟩
      have hN := hN hi
      have hd' := eB _ _ hd
      walk_at "z"
      refine nxt O 0 rfl hp hd' (by decide) (by decide) fun n pos big seed H8 h0 h1 hp O => ?_
      walk_at "z"
      refine ⟨1 + n, rfl, by omega, by omega, fun c c1 c2 => ?_⟩
      walk_at "z"
      refine ⟨B', s, d, pos, big, seed, ns, _, rfl, O, hp, hd', fun l1 pos big seed H9 O hp hl1 hz1 => ?_⟩
      refine g_addSS (by show 1 + _ ≤ _; omega) ?_
      walk_at "z"
      rw [S_nl]
      refine g_addSS (by rw [List.length_append]; show (1 + _) + 1 ≤ _; omega) ?_
      walk_at "z"
      refine g_new (small_le (by simp)) O fun t1 H10 nt1 O => ?_
      have O := O.swap
      walk_at "z"
      refine nxt O 0 rfl hp hd' (by decide) (by decide) fun n2 pos big seed H11 k0 k1 hp O => ?_
      walk_at "z"
      have h9 : ∃ m : Int, 0 < m ∧ m ≤ 9 ∧ atI ([.int 4, .int 9] : List V) n2 = some (.int m) := by
        have : n2 = 0 ∨ n2 = 1 := by omega
        rcases this with rfl | rfl
        · exact ⟨4, by decide, by decide, rfl⟩
        · exact ⟨9, by decide, by decide, rfl⟩
      obtain ⟨m, m0, m1, hm⟩ := h9
      refine g_ixL (O.lst 1) hm ?_
      walk_at "z"
      refine nxt O 0 rfl hp hd' m0 (by omega) fun n3 pos big seed H12 j0 j1 hp O => ?_
      have O := O.swap.tail
      walk_at "z"
      refine ⟨B', s, d, pos, big, seed, n3, ns, _, rfl, O, hp, j0, by omega, hd', fun l2 pos big seed H13 O hp hl2 hz2 => ?_⟩
      have hzc : ([c] ++ l1 ++ [10]).length = 1 + l1.length + 1 := by rw [List.length_append, List.length_append]; rfl
      refine g_addSS (by omega) ?_
      have hck : CkN ([c] ++ l1 ++ [10] ++ l2) := ck_of (by
        unfold blank
        rw [beq_eq_false_iff_ne.mpr c1, beq_eq_false_iff_ne.mpr (c2 (by omega))]
        rfl) hl1 hl2
      have hzk : ([c] ++ l1 ++ [10] ++ l2).length ≤ 1000 := by rw [List.length_append, hzc]; omega
      have hnk : [c] ++ l1 ++ [10] ++ l2 ≠ [] := by simp
      generalize [c] ++ l1 ++ [10] ++ l2 = ck at hck hzk hnk
      walk_at "z"
      have hlen : (l0 ++ cs.flatten).length = l0.length + cs.flatten.length := List.length_append ..
      refine ⟨fun σ H' => ∃ (ck : List Nat) (pos big seed : Int), σ = [some (.ref a0), some (.ref s), some (.str (S (l0 ++ cs.flatten))), some (.ref e), some (.str (S l0)), some (.int count), some (.int (i : Int)), some (.str (S ck)), none, none] ∧ 0 ≤ pos ∧ Own B' [(s, stv d pos big seed), (e, .lst ws)] H' ∧ Ck ck ∧ ck.length ≤ 1000 ∧ ((i : Int) + 1 < count → CkN ck), ?_, ?_⟩
      · walk_at "z"
        refine ite_d (fun hk => ?_) (fun hk => ?_)
        · walk_at "z"
          refine nxt O 0 rfl hp hd' (by decide) (by decide) fun n4 pos big seed H14 _ _ hp O => ?_
          walk_at "z"
          refine ite_d (fun _ => ?_) (fun _ => ?_)
          · walk_at "z"
            refine g_lenSS (by omega) ?_
            walk_at "z"
            have hpos := List.length_pos_iff.mpr hnk
            rw [show ((ck.length : Nat) : Int) - 1 = ((ck.length - 1 : Nat) : Int) by omega]
            refine g_slS (z := S ck) (by rw [S_len]; exact small_le (by omega)) ?_
            rw [cutS_take]
            walk_at "z"
            exact ⟨_, _, _, _, rfl, hp, O, ck_drop hck hnk, by rw [List.length_take]; omega, fun h => absurd h (by omega)⟩
          · walk_at "z"
            exact ⟨_, _, _, _, rfl, hp, O, hck.1, hzk, fun _ => hck⟩
        · refine iteF ?_
          walk_at "z"
          exact ⟨_, _, _, _, rfl, hp, O, hck.1, hzk, fun _ => hck⟩
      clear O hp hck hzk hnk
      rintro σ H14 ⟨ck, pos, big, seed, rfl, hp, O, hck, hzk, hnk⟩
      walk_at "z"
      refine g_tyL (O.lst 1) ?_
      walk_at "z"
      refine g_lenSS (by omega) ?_
      walk_at "z"
      refine g_new (small_le (by simp)) O fun t2 H15 nt2 O => ?_
      have hwl := tds_len hT
      rw [List.length_map, pairsOf_len, hl] at hwl
      walk_at "z"
      refine g_append O 2 rfl (small_of (by omega)) fun H16 O => ?_
      walk_at "z"
      refine g_addSS (by omega) ?_
      walk_at "z"
      have e5 := O.freezeB
      refine ⟨_, cs ++ [ck], _, _, _, _, _, _, by rw [List.flatten_append, List.flatten_cons, List.flatten_nil, List.append_nil, ← List.append_assoc]; rfl, hp, eB.trans e5, O.freeze, ?_, by rw [List.length_append, hl]; rfl, ?_, Cks.snoc hck cs hN, ?_⟩
      · rw [pairsOf_snoc, List.map_append]
        refine tds_snoc (tds_ex e5 hT) (.tup upd_same ?_)
        rw [hlen]
        exact .cons (.int _) (.cons (.str _) .nil)
      · intro hlt c hc
        rcases List.mem_append.mp hc with hc | hc
        · exact hN c hc
        · rw [List.mem_singleton.mp hc]; exact hnk (by omega)
      · rw [List.flatten_append, List.length_append, List.flatten_cons, List.flatten_nil, List.append_nil]
        omega
    · clear O hp
      rintro σ H7 ⟨B', cs, ws, pos, big, seed, x6, x7, rfl, hp, eB, O, hT, hl, hN, hC, hz⟩
      have hlen : (l0 ++ cs.flatten).length = l0.length + cs.flatten.length := List.length_append ..
      have hz' : cs.flatten.length ≤ 149000 := by omega
      walk_at "z"
      refine ⟨l0 ++ cs.flatten, rfl, by omega, fun p B2 H8 ws2 e2 O2 hT2 => ?_⟩
      have eH := O.fr
      rw [chunks_of hl0 hC] at hT2
      walk_at "z"
      have he := e2 _ _ (O.get 1)
      have hT := tds_ex (O.fr.trans e2) hT
      refine ⟨_, _, .list ((pairsOf l0.length cs).map encP), .list ((pairsOf l0.length cs).map encP), rfl, .lst (O2.lst 0) (tds_dp (tds_ex O2.fr hT2)), .lst (.inl (.inl (O2.fr _ _ he))) (tds_dp (tds_ex O2.fr hT)), dl_pairs _ (by rw [pairsOf_len]; omega), fun c H9 hc e9 => ?_⟩
      obtain rfl : c = true := hc.mpr rfl
      have O2 := O2.ex e9
      walk_at "z"
      refine iteF ?_
      walk_at "z"
      refine g_iListv (O2.lst 0) ?_
      have hp2 : SqL K (upd B2 p (.lst ws2)) p ws2 := .inl (.inl upd_same)
      have hT2 := tds_ex O2.freezeB hT2
      have O2 := O2.freeze
      generalize upd B2 p (.lst ws2) = B3 at O2 hp2 hT2
      have hwl := tds_len hT2
      rw [List.length_map, pairsOf_len] at hwl
      refine lcB_list ws2 (fun D i H' => Own B3 [(D, .lst ((cs.take i).map fun c => V.str (S c)))] H') ?_ ?_ ?_ ?_
      · intro D nD
        exact O2.alloc nD
      · intro D i H' _ O
        exact O.fr.seq hp2
      · intro D i x H' hx O
        obtain ⟨dd, hdd, hx2⟩ := tds_get hT2 hx
        rw [List.getElem?_map] at hdd
        obtain ⟨pr, hpr, rfl⟩ := Option.map_eq_some_iff.mp hdd
        obtain ⟨t, rfl, ht⟩ := td_encP hx2
        have hci : cs[i]? = some pr.2 := by
          have h := congrArg (fun l : List (List Nat) => l[i]?) (pairsOf_snd l0.length cs)
          simp only [List.getElem?_map, hpr] at h
          exact h.symm
        refine g_gtup (.inl (.inl (O.fr _ _ ht))) rfl ?_
        walk_at "z"
        refine iteT ?_
        walk_at "z"
        have hzt : ((cs.take i).map fun c => V.str (S c)).length < 16777216 := by rw [List.length_map, List.length_take]; omega
        refine g_lcPut O 0 rfl (small_of hzt) fun H10 O => ?_
        rw [List.take_add_one, hci, List.map_append]
        exact O
      · intro D H' nD O
        rw [List.take_of_length_le (by omega)] at O
        walk_at "z"
        refine g_joinL (a := S []) (ys := cs.map S) (by rw [List.map_map]; exact O.lst 0) (by rw [sum_SS]; show _ + _ * 0 ≤ _; omega) ?_
        rw [join_SS]
        refine g_addSS (by omega) ?_
        walk_at "z"
        refine g_eqSS ?_
        rw [decide_eq_true rfl]
        walk_at "z"
        exact q _

end
/-! ### what the top has written; the law's own head -/
def mk_txt {K : PySem.W.Frag} {h : Heap} {mg : Str → Option Value} {f_line_starts f_chunks f__law_next f__law_same f__law_char f__law_line f__law_lines f_law : Addr} (X : K.In h) (G : h.Ns mainGlobals mg)
    {od_line_starts an_line_starts : Option Addr} {sl_line_starts : Array (Option Value)} {oc_line_starts kV_line_starts dc_line_starts pm_line_starts cd_line_starts ct_line_starts : Value}
    {od_chunks an_chunks : Option Addr} {sl_chunks : Array (Option Value)} {oc_chunks kV_chunks dc_chunks pm_chunks cd_chunks ct_chunks : Value}
    {od__law_next an__law_next : Option Addr} {sl__law_next : Array (Option Value)} {oc__law_next kV__law_next dc__law_next pm__law_next cd__law_next ct__law_next : Value}
    {od__law_same an__law_same : Option Addr} {sl__law_same : Array (Option Value)} {oc__law_same kV__law_same dc__law_same pm__law_same cd__law_same ct__law_same : Value}
    {od__law_char an__law_char : Option Addr} {sl__law_char : Array (Option Value)} {oc__law_char kV__law_char dc__law_char pm__law_char cd__law_char ct__law_char : Value}
    {od__law_line an__law_line : Option Addr} {sl__law_line : Array (Option Value)} {oc__law_line kV__law_line dc__law_line pm__law_line cd__law_line ct__law_line : Value}
    {od__law_lines an__law_lines : Option Addr} {sl__law_lines : Array (Option Value)} {oc__law_lines kV__law_lines dc__law_lines pm__law_lines cd__law_lines ct__law_lines : Value}
    {od_law an_law : Option Addr} {sl_law : Array (Option Value)} {oc_law kV_law dc_law pm_law cd_law ct_law : Value}
    (a_line_starts : PySem.W.nsIn K mainGlobals "line_starts" = some (some (.ref f_line_starts)))
    (l_line_starts : K.lookup f_line_starts = some ⟨oc_line_starts, od_line_starts, .func (PySem.W.fnOf "line_starts" "line_starts" (defArgs s_line_starts) (defBody s_line_starts) (defScope s_line_starts) .none kV_line_starts dc_line_starts pm_line_starts an_line_starts cd_line_starts ct_line_starts), sl_line_starts⟩)
    (c_line_starts : PySem.W.codeIn K cd_line_starts "line_starts" = true)
    (k_line_starts : PySem.W.keepIn K (.ref f_line_starts) = true)
    (a_chunks : PySem.W.nsIn K mainGlobals "chunks" = some (some (.ref f_chunks)))
    (l_chunks : K.lookup f_chunks = some ⟨oc_chunks, od_chunks, .func (PySem.W.fnOf "chunks" "chunks" (defArgs s_chunks) (defBody s_chunks) (defScope s_chunks) .none kV_chunks dc_chunks pm_chunks an_chunks cd_chunks ct_chunks), sl_chunks⟩)
    (c_chunks : PySem.W.codeIn K cd_chunks "chunks" = true)
    (k_chunks : PySem.W.keepIn K (.ref f_chunks) = true)
    (a__law_next : PySem.W.nsIn K mainGlobals "_law_next" = some (some (.ref f__law_next)))
    (l__law_next : K.lookup f__law_next = some ⟨oc__law_next, od__law_next, .func (PySem.W.fnOf "_law_next" "_law_next" (defArgs s__law_next) (defBody s__law_next) (defScope s__law_next) .none kV__law_next dc__law_next pm__law_next an__law_next cd__law_next ct__law_next), sl__law_next⟩)
    (c__law_next : PySem.W.codeIn K cd__law_next "_law_next" = true)
    (k__law_next : PySem.W.keepIn K (.ref f__law_next) = true)
    (a__law_same : PySem.W.nsIn K mainGlobals "_law_same" = some (some (.ref f__law_same)))
    (l__law_same : K.lookup f__law_same = some ⟨oc__law_same, od__law_same, .func (PySem.W.fnOf "_law_same" "_law_same" (defArgs s__law_same) (defBody s__law_same) (defScope s__law_same) .none kV__law_same dc__law_same pm__law_same an__law_same cd__law_same ct__law_same), sl__law_same⟩)
    (c__law_same : PySem.W.codeIn K cd__law_same "_law_same" = true)
    (k__law_same : PySem.W.keepIn K (.ref f__law_same) = true)
    (a__law_char : PySem.W.nsIn K mainGlobals "_law_char" = some (some (.ref f__law_char)))
    (l__law_char : K.lookup f__law_char = some ⟨oc__law_char, od__law_char, .func (PySem.W.fnOf "_law_char" "_law_char" (defArgs s__law_char) (defBody s__law_char) (defScope s__law_char) .none kV__law_char dc__law_char pm__law_char an__law_char cd__law_char ct__law_char), sl__law_char⟩)
    (c__law_char : PySem.W.codeIn K cd__law_char "_law_char" = true)
    (k__law_char : PySem.W.keepIn K (.ref f__law_char) = true)
    (a__law_line : PySem.W.nsIn K mainGlobals "_law_line" = some (some (.ref f__law_line)))
    (l__law_line : K.lookup f__law_line = some ⟨oc__law_line, od__law_line, .func (PySem.W.fnOf "_law_line" "_law_line" (defArgs s__law_line) (defBody s__law_line) (defScope s__law_line) .none kV__law_line dc__law_line pm__law_line an__law_line cd__law_line ct__law_line), sl__law_line⟩)
    (c__law_line : PySem.W.codeIn K cd__law_line "_law_line" = true)
    (k__law_line : PySem.W.keepIn K (.ref f__law_line) = true)
    (a__law_lines : PySem.W.nsIn K mainGlobals "_law_lines" = some (some (.ref f__law_lines)))
    (l__law_lines : K.lookup f__law_lines = some ⟨oc__law_lines, od__law_lines, .func (PySem.W.fnOf "_law_lines" "_law_lines" (defArgs s__law_lines) (defBody s__law_lines) (defScope s__law_lines) .none kV__law_lines dc__law_lines pm__law_lines an__law_lines cd__law_lines ct__law_lines), sl__law_lines⟩)
    (c__law_lines : PySem.W.codeIn K cd__law_lines "_law_lines" = true)
    (k__law_lines : PySem.W.keepIn K (.ref f__law_lines) = true)
    (a_law : PySem.W.nsIn K mainGlobals "law" = some (some (.ref f_law)))
    (l_law : K.lookup f_law = some ⟨oc_law, od_law, .func (PySem.W.fnOf "law" "law" (defArgs s_law) (defBody s_law) (defScope s_law) .none kV_law dc_law pm_law an_law cd_law ct_law), sl_law⟩)
    (c_law : PySem.W.codeIn K cd_law "law" = true)
    (k_law : PySem.W.keepIn K (.ref f_law) = true)
    (z_len : PySem.W.nsIn K mainGlobals "len" = some none)
    (z_int : PySem.W.nsIn K mainGlobals "int" = some none)
    (z_list : PySem.W.nsIn K mainGlobals "list" = some none)
    (z_range : PySem.W.nsIn K mainGlobals "range" = some none)
    (z_isinstance : PySem.W.nsIn K mainGlobals "isinstance" = some none)
    (z_bool : PySem.W.nsIn K mainGlobals "bool" = some none)
    (z_str : PySem.W.nsIn K mainGlobals "str" = some none)
    (z_tuple : PySem.W.nsIn K mainGlobals "tuple" = some none)
    (z_zip : PySem.W.nsIn K mainGlobals "zip" = some none) : Txt K mg where
  a_line_starts := f_line_starts
  d_line_starts := PySem.W.fnOf "line_starts" "line_starts" (defArgs s_line_starts) (defBody s_line_starts) (defScope s_line_starts) .none kV_line_starts dc_line_starts pm_line_starts an_line_starts cd_line_starts ct_line_starts
  F_line_starts := fun_mk l_line_starts c_line_starts k_line_starts
  b_line_starts := (fun_mk (st := s_line_starts) l_line_starts c_line_starts k_line_starts).binds (ps := P_line_starts) fun _ _ _ _ _ _ us hl => match us, hl with | [_], _ => rfl
  g_line_starts := PySem.W.mg_of X G a_line_starts
  a_chunks := f_chunks
  d_chunks := PySem.W.fnOf "chunks" "chunks" (defArgs s_chunks) (defBody s_chunks) (defScope s_chunks) .none kV_chunks dc_chunks pm_chunks an_chunks cd_chunks ct_chunks
  F_chunks := fun_mk l_chunks c_chunks k_chunks
  b_chunks := (fun_mk (st := s_chunks) l_chunks c_chunks k_chunks).binds (ps := P_chunks) fun _ _ _ _ _ _ us hl => match us, hl with | [_], _ => rfl
  g_chunks := PySem.W.mg_of X G a_chunks
  a__law_next := f__law_next
  d__law_next := PySem.W.fnOf "_law_next" "_law_next" (defArgs s__law_next) (defBody s__law_next) (defScope s__law_next) .none kV__law_next dc__law_next pm__law_next an__law_next cd__law_next ct__law_next
  F__law_next := fun_mk l__law_next c__law_next k__law_next
  b__law_next := (fun_mk (st := s__law_next) l__law_next c__law_next k__law_next).binds (ps := P__law_next) fun _ _ _ _ _ _ us hl => match us, hl with | [_, _], _ => rfl
  g__law_next := PySem.W.mg_of X G a__law_next
  a__law_same := f__law_same
  d__law_same := PySem.W.fnOf "_law_same" "_law_same" (defArgs s__law_same) (defBody s__law_same) (defScope s__law_same) .none kV__law_same dc__law_same pm__law_same an__law_same cd__law_same ct__law_same
  F__law_same := fun_mk l__law_same c__law_same k__law_same
  b__law_same := (fun_mk (st := s__law_same) l__law_same c__law_same k__law_same).binds (ps := P__law_same) fun _ _ _ _ _ _ us hl => match us, hl with | [_, _], _ => rfl
  g__law_same := PySem.W.mg_of X G a__law_same
  a__law_char := f__law_char
  d__law_char := PySem.W.fnOf "_law_char" "_law_char" (defArgs s__law_char) (defBody s__law_char) (defScope s__law_char) .none kV__law_char dc__law_char pm__law_char an__law_char cd__law_char ct__law_char
  F__law_char := fun_mk l__law_char c__law_char k__law_char
  b__law_char := (fun_mk (st := s__law_char) l__law_char c__law_char k__law_char).binds (ps := P__law_char) fun _ _ _ _ _ _ us hl => match us, hl with | [_], _ => rfl
  g__law_char := PySem.W.mg_of X G a__law_char
  a__law_line := f__law_line
  d__law_line := PySem.W.fnOf "_law_line" "_law_line" (defArgs s__law_line) (defBody s__law_line) (defScope s__law_line) .none kV__law_line dc__law_line pm__law_line an__law_line cd__law_line ct__law_line
  F__law_line := fun_mk l__law_line c__law_line k__law_line
  b__law_line := (fun_mk (st := s__law_line) l__law_line c__law_line k__law_line).binds (ps := P__law_line) fun _ _ _ _ _ _ us hl => match us, hl with | [_], _ => rfl
  g__law_line := PySem.W.mg_of X G a__law_line
  a__law_lines := f__law_lines
  d__law_lines := PySem.W.fnOf "_law_lines" "_law_lines" (defArgs s__law_lines) (defBody s__law_lines) (defScope s__law_lines) .none kV__law_lines dc__law_lines pm__law_lines an__law_lines cd__law_lines ct__law_lines
  F__law_lines := fun_mk l__law_lines c__law_lines k__law_lines
  b__law_lines := (fun_mk (st := s__law_lines) l__law_lines c__law_lines k__law_lines).binds (ps := P__law_lines) fun _ _ _ _ _ _ us hl => match us, hl with | [_, _], _ => rfl
  g__law_lines := PySem.W.mg_of X G a__law_lines
  a_law := f_law
  d_law := PySem.W.fnOf "law" "law" (defArgs s_law) (defBody s_law) (defScope s_law) .none kV_law dc_law pm_law an_law cd_law ct_law
  F_law := fun_mk l_law c_law k_law
  b_law := (fun_mk (st := s_law) l_law c_law k_law).binds (ps := P_law) fun _ _ _ _ _ _ us hl => match us, hl with | [_], _ => rfl
  g_law := PySem.W.mg_of X G a_law
  z_len := PySem.W.mg_none_of X G z_len
  z_int := PySem.W.mg_none_of X G z_int
  z_list := PySem.W.mg_none_of X G z_list
  z_range := PySem.W.mg_none_of X G z_range
  z_isinstance := PySem.W.mg_none_of X G z_isinstance
  z_bool := PySem.W.mg_none_of X G z_bool
  z_str := PySem.W.mg_none_of X G z_str
  z_tuple := PySem.W.mg_none_of X G z_tuple
  z_zip := PySem.W.mg_none_of X G z_zip
theorem all_ok {l : PySem.W.OpenLaw} {w : World} {K : PySem.W.Frag} {mg : Str → Option Value} {fa : Addr} (hfa : mg "law" = some (.ref fa)) (T : Txt K mg) :
    ∃ fd : FuncData, (∀ (s : Shared) (v : Value), BindsTo s fd ⟨[v], []⟩ [("script", v)]) ∧ ∀ base : Heap, K.In base → base.Ns mainGlobals mg → FnOk l.prog w K mg base CX0 15 fa fd ["script"] (sp_law K) := by
  have e := hfa.symm.trans T.g_law
  cases e
  obtain ⟨oc, od, kV, doc, pm, an, cdv, ct, osl, e, _, _⟩ := T.F_law.ex
  exact ⟨T.d_law, fun s v => by rw [e]; exact .of_eq rfl, fun base _ _ => ok_law T⟩

end K09
open PySem PySem.W PyProof.Rows
set_option maxHeartbeats 0 in
theorem PySem.Challenge.cw_textwhole_k09_chunks_of_a_text_holds : PySem.Challenge.rw_textwhole_k09_chunks_of_a_text.Holds := by
  w_on; o_law; k_head; (case hw => w_witness2)
  k_fill
  refine L2.walk_of (l := PySem.Challenge.rw_textwhole_k09_chunks_of_a_text) (n := 63) (k := 15) (x := "script") (CX := fun w => L2.CX0) (sp := fun w => K09.sp_law _) rfl (by decide) rfl ⟨rfl, by decide, by decide⟩ (fun w h Y => PySem.W.kIn_of Y) ?F (fun _ _ a ns hl _ hS => ⟨a, ns, rfl, hS, hl, fun _ => rfl⟩) (fun _ _ _ _ _ h => h)
  case F =>
    intro w mg fa h KX G hmg
    refine' K09.all_ok hmg (K09.mk_txt KX G ?a_line_starts ?l_line_starts ?c_line_starts ?k_line_starts ?a_chunks ?l_chunks ?c_chunks ?k_chunks ?a__law_next ?l__law_next ?c__law_next ?k__law_next ?a__law_same ?l__law_same ?c__law_same ?k__law_same ?a__law_char ?l__law_char ?c__law_char ?k__law_char ?a__law_line ?l__law_line ?c__law_line ?k__law_line ?a__law_lines ?l__law_lines ?c__law_lines ?k__law_lines ?a_law ?l_law ?c_law ?k_law ?z_len ?z_int ?z_list ?z_range ?z_isinstance ?z_bool ?z_str ?z_tuple ?z_zip)
    (case a_line_starts => k_is)
    (case l_line_starts => k_is)
    (case c_line_starts => k_is)
    (case k_line_starts => k_is)
    (case a_chunks => k_is)
    (case l_chunks => k_is)
    (case c_chunks => k_is)
    (case k_chunks => k_is)
    (case a__law_next => k_is)
    (case l__law_next => k_is)
    (case c__law_next => k_is)
    (case k__law_next => k_is)
    (case a__law_same => k_is)
    (case l__law_same => k_is)
    (case c__law_same => k_is)
    (case k__law_same => k_is)
    (case a__law_char => k_is)
    (case l__law_char => k_is)
    (case c__law_char => k_is)
    (case k__law_char => k_is)
    (case a__law_line => k_is)
    (case l__law_line => k_is)
    (case c__law_line => k_is)
    (case k__law_line => k_is)
    (case a__law_lines => k_is)
    (case l__law_lines => k_is)
    (case c__law_lines => k_is)
    (case k__law_lines => k_is)
    (case a_law => k_is)
    (case l_law => k_is)
    (case c_law => k_is)
    (case k_law => k_is)
    (case z_len => k_is)
    (case z_int => k_is)
    (case z_list => k_is)
    (case z_range => k_is)
    (case z_isinstance => k_is)
    (case z_bool => k_is)
    (case z_str => k_is)
    (case z_tuple => k_is)
    (case z_zip => k_is)
